import Derived.Test.YtlldhkhmhgcpaaaGreatDoorBR
import Derived.Test.YtlldhkhmhgcpaaaGreatDoorYE
import Derived.Test.YtlldhkhmhgcpaaaGreatDoorXD
namespace Go.Sym
set_option linter.unusedVariables false
set_option linter.unusedSimpArgs false
open Go.Proofs Go.RowKit
set_option maxRecDepth 100000
set_option maxHeartbeats 8000000
structure BeX where
 g:Gr
 ts:List Int
 us:List Un
 of:List Int
 m:Int
structure BeOk (x:BeX):Prop where
 g:GOk x.g
 n:x.g.n<=12
 us:x.us.length<=7
 of:x.of.length<=1000
def beP (x:BeX):PlX:=⟨x.g,x.ts,x.us,ofW x.of x.of.length,x.m⟩
def beY (x:BeX):RyX:=⟨x.g,x.ts,x.us,nodesL x.g.n x.of,x.m.toNat⟩
def beL (x:BeX):List (List Mv):=ryL (beY x) x.m.toNat
def beN (x:BeX):Nat:=(beL x).length
def bel (x:BeX) (k:Nat):List Mv:=(beL x).getD k default
noncomputable def beB (x:BeX) (k:Nat):Bst:=(((beL x).take k).map (kP (beP x))).foldl minB (kP (beP x) [])
theorem be_tg {x:BeX} (h:BeOk x):tgP (beP x)=nodesL x.g.n x.of:=elems_min (n:=x.g.n) (ofW_ok _ _) (Nat.le_trans h.n (by decide))
theorem be_sr {x:BeX} (h:BeOk x):SrOk (beP x):=by
 refine⟨h.g,Nat.le_trans h.n (by decide),fun v hv=>?_⟩
 rw[be_tg h]at hv
 unfold nodesL at hv
 rw[List.mem_filter]at hv
 exact⟨(elemsZ_mem.1 hv.1).1,of_decide_eq_true hv.2⟩
theorem be_tk {x:BeX} (h:BeOk x) (hd:dstU x.us=true) {u:Un} (hu:u∈x.us) {t:Int} (ht:0<=t/\t<x.g.n):tkU ⟨x.g,x.ts,x.us,(u.id,t)⟩=dsF (srP (beP x)) u.nd t:=by
 have hf:=fnd_mem hd hu
 have e:tkN ⟨x.g,x.ts,x.us,(u.id,t)⟩=u.nd:=by
  show(x.us.getD (fndU x.us u.id).toNat default).nd=u.nd
  rw[hf.2]
 have e2:dsF (srP (beP x)) u.nd t=(distG x.g x.ts [u.nd] true).getD t.toNat default:=if_pos ht
 rw[e2]
 by_cases hb:tkBad ⟨x.g,x.ts,x.us,(u.id,t)⟩
 ·rw[<- tk_y hb]
  refine(dist_bad h.g x.ts (fun q=>?_) (by omega)).symm
  rcases hb with hb|hb|hb
  ·have hb:fndU x.us u.id<0:=hb
   omega
  ·rw[e]at hb
   exact hb q
  ·exact hb ht
 ·rw[<- tk_z hb,e,Nat.zero_add]
def ryV (x:RyX) (s:Mv):Prop:=∃ u∈x.us,u.st=1/\u.id=s.1/\s.2∈x.nd/\ryG x u s.2
theorem last_max {l:List Mv} (h:l.Pairwise fun a b=>a.1<b.1) {a:Mv} (ha:a∈l):a.1<=(l.getD (l.length-1) default).1:=by
 obtain⟨i,hi,rfl⟩:=List.getElem_of_mem ha
 have e:l.getD (l.length-1) default=l[l.length-1]:=by rw[List.getD_eq_getElem?_getD,List.getElem?_eq_getElem (show l.length-1<l.length by omega)];rfl
 rw[e]
 rcases Nat.lt_or_ge i (l.length-1)with q|q
 ·exact Int.le_of_lt (List.pairwise_iff_getElem.1 h i (l.length-1) hi (by omega) q)
 ·have:i=l.length-1:=by omega
  subst this
  exact Int.le_refl _
theorem ry_mem {x:RyX}:∀(m:Nat) (l:List Mv),l∈ryL x m↔l.length<=m/\(l.Pairwise fun a b=>a.1<b.1)/\∀ s∈l,ryV x s
 |0,l=>by
  unfold ryL
  rw[List.mem_singleton]
  constructor
  ·rintro rfl
   exact⟨Nat.le_refl _,List.Pairwise.nil,fun s hs=>by cases hs⟩
  ·intro h
   exact List.length_eq_zero_iff.1 (Nat.le_zero.1 h.1)
 |m+1,l=>by
  unfold ryL
  rw[List.mem_cons,List.mem_flatMap]
  constructor
  ·rintro(rfl|⟨l0,h0,h⟩)
   ·exact⟨Nat.zero_le _,List.Pairwise.nil,fun s hs=>by cases hs⟩
   ·obtain⟨a1,a2,a3⟩:=(ry_mem m l0).1 h0
    unfold ryF at h
    rcases List.mem_append.1 h with h|h
    ·unfold ryB at h
     obtain⟨u,hu,h⟩:=List.mem_flatMap.1 h
     rw[List.take_length]at hu
     split at h
     ·cases h
     ·rename_i hs
      unfold ryC at h
      obtain⟨t,ht,h⟩:=List.mem_flatMap.1 h
      rw[List.take_length]at ht
      split at h
      ·rename_i hg
       rw[List.mem_singleton]at h
       subst h
       have s1:u.st=1:=Decidable.byContradiction fun q=>hs (.inl q)
       have s2:¬ (0<l0.length/\u.id<=(l0.getD (l0.length-1) default).1):=fun q=>hs (.inr (.inl q))
       refine⟨by rw[List.length_append];simp only[List.length_cons,List.length_nil];omega,?_,fun s h=>?_⟩
       ·rw[List.pairwise_append]
        refine⟨a2,List.pairwise_singleton _ _,fun a ha b hb=>?_⟩
        rw[List.mem_singleton]at hb
        subst hb
        have:=last_max a2 ha
        have hp:0<l0.length:=List.length_pos_of_mem ha
        show a.1<u.id
        have:¬ u.id<=(l0.getD (l0.length-1) default).1:=fun q=>s2 ⟨hp,q⟩
        omega
       ·rcases List.mem_append.1 h with h|h
        ·exact a3 s h
        ·rw[List.mem_singleton]at h
         subst h
         exact⟨u,hu,s1,rfl,ht,hg⟩
      ·cases h
    ·split at h
     ·rw[List.mem_singleton]at h
      subst h
      exact⟨by omega,a2,a3⟩
     ·cases h
  ·rintro⟨h1,h2,h3⟩
   rcases Nat.eq_zero_or_pos l.length with q|q
   ·exact .inl (List.length_eq_zero_iff.1 q)
   ·right
    rcases Nat.lt_or_ge m l.length with q1|q1
    ·
     have hne:l≠[]:=fun e=>by rw[e]at q;exact absurd q (Nat.lt_irrefl _)
     obtain⟨l0,s,rfl⟩:∃ l0 s,l=l0++[s]:=⟨l.dropLast,l.getLast hne,(List.dropLast_concat_getLast hne).symm⟩
     rw[List.pairwise_append]at h2
     rw[List.length_append]at h1 q1
     simp only[List.length_cons,List.length_nil]at h1 q1
     refine⟨l0,(ry_mem m l0).2 ⟨by omega,h2.1,fun s' hs=>h3 s' (List.mem_append_left _ hs)⟩,?_⟩
     obtain⟨u,hu,e1,e2,e3,e4⟩:=h3 s (by simp)
     unfold ryF
     refine List.mem_append_left _ ?_
     unfold ryB
     refine List.mem_flatMap.2 ⟨u,by rw[List.take_length];exact hu,?_⟩
     rw[if_neg]
     ·unfold ryC
      refine List.mem_flatMap.2 ⟨s.2,by rw[List.take_length];exact e3,?_⟩
      rw[if_pos e4,List.mem_singleton,e2]
     ·rintro(r|r|r)
      ·exact r e1
      ·have hm:l0.getD (l0.length-1) default∈l0:=by
        rw[List.getD_eq_getElem?_getD,List.getElem?_eq_getElem (show l0.length-1<l0.length by omega)]
        exact List.getElem_mem _
       have:=h2.2.2 _ hm s (by simp)
       omega
      ·omega
    ·refine⟨l,(ry_mem m l).2 ⟨q1,h2,h3⟩,?_⟩
     unfold ryF
     refine List.mem_append_right _ ?_
     rw[if_pos q]
     exact List.mem_singleton.2 rfl
theorem be_va {x:BeX} (h:BeOk x) (hd:dstU x.us=true) {l:List Mv}:l∈beL x↔l.length<=x.m.toNat/\vaL (beP x) l:=by
 unfold beL
 rw[ry_mem]
 have key:∀ s:Mv,ryV (beY x) s↔vaM (beP x) s:=fun s=>by
  have ht:=be_tg h
  constructor
  ·rintro⟨u,hu,e1,e2,e3,e4,e5⟩
   have e3:s.2∈nodesL x.g.n x.of:=e3
   rw[<- ht]at e3
   have hr:=(be_sr h).tg _ e3
   have e5:tkU ⟨x.g,x.ts,x.us,(u.id,s.2)⟩<INF:=e5
   rw[be_tk h hd hu hr]at e5
   exact⟨u,hu,e1,e2,e3,e4,Int.ne_of_lt e5⟩
  ·rintro⟨u,hu,e1,e2,e3,e4,e5⟩
   have hr:=(be_sr h).tg _ e3
   rw[ht]at e3
   refine⟨u,hu,e1,e2,e3,e4,?_⟩
   show tkU ⟨x.g,x.ts,x.us,(u.id,s.2)⟩<INF
   rw[be_tk h hd hu hr]
   rcases(dsF_r (x:=srP (beP x)) h.g u.nd s.2).2 with q|q
   ·exact absurd q e5
   ·have:INF=4611686018427387904:=rfl
    omega
 unfold vaL
 exact⟨fun q=>⟨q.1,q.2.1,fun s hs=>(key s).1 (q.2.2 s hs)⟩,fun q=>⟨q.1,q.2.1,fun s hs=>(key s).2 (q.2.2 s hs)⟩⟩
theorem be_some {x:BeX} (h:BeOk x) (hd:dstU x.us=true) (k:Nat):∃ l,(l.length<=x.m.toNat/\vaL (beP x) l)/\beB x k=kP (beP x) l:=by
 obtain⟨h1,_,_⟩:=fold_min (((beL x).take k).map (kP (beP x))) (kP (beP x) [])
 rcases h1 with h1|h1
 ·exact⟨[],⟨Nat.zero_le _,va_nil _⟩,h1⟩
 ·obtain⟨l,hl,e⟩:=List.mem_map.1 h1
  exact⟨l,(be_va h hd).1 (List.take_subset _ _ hl),e.symm⟩
theorem be_end {x:BeX} (h:BeOk x) (hd:dstU x.us=true) {k:Nat} (hk:beN x<=k):(beB x k).worst=(bstP (beP x)).worst/\(beB x k).best=(bstP (beP x)).best:=by
 obtain⟨l,h1,e1,h3⟩:=bst_spec (be_sr h) hd
 obtain⟨l',h1',e1'⟩:=be_some h hd k
 obtain⟨_,_,m3⟩:=fold_min (((beL x).take k).map (kP (beP x))) (kP (beP x) [])
 have a1:¬ ltB (kP (beP x) l') (kP (beP x) l):=h3 l' h1'.1 h1'.2
 have a2:¬ ltB (kP (beP x) l) (kP (beP x) l'):=by
  rw[<- e1']
  refine m3 _ (List.mem_map.2 ⟨l,?_,rfl⟩)
  rw[List.take_of_length_le hk]
  exact(be_va h hd).2 h1
 obtain⟨c1,c2,_⟩:=ltB_tot a1 a2
 rw[e1',e1]
 exact⟨c1,c2⟩
theorem be_step {x:BeX} {k:Nat} (hk:k<beN x):beB x (k+1)=minB (beB x k) (kP (beP x) (bel x k)):=by
 unfold beB
 rw[take_succ_getD (d:=default) hk,List.map_append,List.foldl_append]
 rfl
theorem be_ok {x:BeX} (h:BeOk x) (hd:dstU x.us=true) {l:List Mv} (hl:l.length<=x.m.toNat/\vaL (beP x) l):(kP (beP x) l).worst=(worstU x.g x.ts (appU x.us l) x.of).1:=by
 show(worstF (distG x.g x.ts (freeL (appU x.us l)) true) (tgP (beP x))).1=_
 rw[be_tg h]
 rfl
theorem be_tkD {x:BeX} (h:BeOk x) (hd:dstU x.us=true) {s:Mv} (hs:vaM (beP x) s):tkE x.g x.ts x.us s=tkD (beP x) s/\0<=tkD (beP x) s/\tkD (beP x) s<=70368744177664:=by
 obtain⟨h0,u,hu,e,h1,h2,h3,h4,h5⟩:=va_fnd hd hs
 have e0:tkD (beP x) s=dsF (srP (beP x)) u.nd s.2:=by
  unfold tkD
  rw[e]
 have e1:tkE x.g x.ts x.us s=dsF (srP (beP x)) u.nd s.2:=by
  rw[<- be_tk h hd hu ((be_sr h).tg _ h3),h2]
  rfl
 rw[e0]
 have hr:=dsF_r (x:=srP (beP x)) h.g u.nd s.2
 exact⟨e1,hr.1,hr.2.resolve_left h5⟩
theorem be_sum {x:BeX} (h:BeOk x) (hd:dstU x.us=true) {l:List Mv} (hl:vaL (beP x) l):smL ⟨x.g,x.ts,x.us,l⟩=tkS (beP x) l:=by
 have key:∀(l:List Mv) (a:Int),(∀ s∈l,vaM (beP x) s)->l.foldl (fun a s=>a+tkE x.g x.ts x.us s) a=l.foldl (fun a s=>a+tkD (beP x) s) a:=by
  intro l
  induction l with
  |nil=>exact fun _ _=>rfl
  |cons s l ih=>
   intro a hs
   rw[List.foldl_cons,List.foldl_cons,(be_tkD h hd (hs s (by simp))).1]
   exact ih _ fun s hs'=>hs s (List.mem_cons_of_mem _ hs')
 exact key l 0 hl.2
theorem be_smk {x:BeX} (h:BeOk x) (hd:dstU x.us=true) (hm:¬ 3<x.m) {l:List Mv} (hl:l.length<=x.m.toNat/\vaL (beP x) l):SmOk ⟨x.g,x.ts,x.us,l⟩:=by
 refine⟨h.g,h.n,by have:=h.us;show x.us.length<=1000;omega,by have:=hl.1;show l.length<=1000;omega,fun s hs=>?_⟩
 have:=be_tkD h hd (hl.2.2 s hs)
 show 0<=tkE x.g x.ts x.us s/\tkE x.g x.ts x.us s<=70368744177664
 rw[this.1]
 exact this.2
theorem be_in {x:BeX} (h:BeOk x) (hd:dstU x.us=true) {k:Nat} (hk:k<beN x):(bel x k).length<=x.m.toNat/\vaL (beP x) (bel x k):=by
 refine(be_va h hd).1 ?_
 unfold bel
 rw[List.getD_eq_getElem?_getD,List.getElem?_eq_getElem hk]
 exact List.getElem_mem _
theorem be_bst {x:BeX} (h:BeOk x) (hd:dstU x.us=true) (k:Nat):((beB x k).best.length<=x.m.toNat/\vaL (beP x) (beB x k).best)/\beB x k=kP (beP x) (beB x k).best:=by
 obtain⟨l,h1,e⟩:=be_some h hd k
 rw[e]
 exact⟨h1,rfl⟩
noncomputable instance (a b:Bst):Decidable (ltB a b):=Classical.propDecidable _
def beC:CT where
 X:=BeX
 pre:=BeOk
 args:=fun x=>[netA x.g,.sl 100001 0 x.ts.length,.sl 100002 0 x.us.length,.sl 100003 0 x.of.length,.i .i64 x.m]
 g0:=fun x=>[(100000,.rows .bor kE x.g.es.length (encL encE x.g.es)),(100001,.rows .bor k1 x.ts.length (encL encI x.ts)),(100002,.rows .bor kU x.us.length (encL encU x.us)),(100003,.rows .bor k1 x.of.length (encL encI x.of))]
 res:=fun x=>.tup [.sl 1 0 (resB (beP x)).best.length,.i .i64 (resB (beP x)).worst,.i .i64 (resE (beP x))]
 g1:=fun x=>[(1,.rows .bor kM (resB (beP x)).best.length (encL encM (resB (beP x)).best))]
noncomputable def beI (x:BeX) (id:Nat):Option Inv:=match id with
 |100037=>some (cutB 37 (decide (badP (beP x))))
 |0=>some { X:=Nat,ok:=fun k=>k<=x.us.length,fr:=fun k=>[(13,.i .i64 (frA x.us k).length),(38,.sl 100002 0 x.us.length),(39,.i .i64 x.us.length),(40,.i .i64 k)],hp:=fun k=>[],me:=fun k=>x.us.length-k }
 |100059=>some (cutB 59 (decide (manP (beP x))))
 | 2 => some { X := Nat, ok := fun k => k <= beN x, fr := fun k => [(17, .sl 395 0 (beB x k).best.length), (18, .i .i64 (beB x k).worst), (73, .sl 396 0 (beN x)), (74, .i .i64 (beN x)), (75, .i .i64 k)],
               hp:=fun k=>[(395,.rows .bor kM (beB x k).best.length (encL encM (beB x k).best)),(396,.rows .own kLs (beN x) (encL encLs (beL x)))],me:=fun k=>beN x-k,
               inn:=fun k id=>match id with
                |100139=>some (cutB 139 (decide (ltB (kP (beP x) (bel x k)) (beB x k))))
                |_=>none }
 |_=>none
def cfgBe:Cfg:=⟨T,[],[(34,.one twC),(23,.one vnodesC),(35,.one vWorstC),(36,.one (ryCt 4)),(37,.one apC),(38,.one smC),(39,.one ahC)],noInv,150,{ kn:=true }⟩
theorem conBe:ConOk Tryz.prog cfgBe:=ConL.ok (.cons (ConL.one tw_good) (.cons (ConL.one rnodes_good) (.cons (ConL.one vWorst_good) (.cons (ConL.one (ry_good 4)) (.cons (ConL.one af_good) (.cons (ConL.one sm_good) (.cons (ConL.one ah_good) .nil)))))))
theorem be_d {x:BeX} (h:¬ badP (beP x)):dstU x.us=true/\¬ x.m<0/\¬ 3<x.m:=by
 refine⟨?_,fun q=>h (.inr (.inl q)),fun q=>h (.inr (.inr q))⟩
 cases hd:dstU x.us with
 |true=>rfl
 |false=>exact absurd (.inl hd) h
theorem bel_e (x:BeX) (k:Nat):(beL x).getD (0+(k:Int).toNat) default=bel x k:=by rw[nat0];rfl
theorem bad_1 {x:BeX} (h:(!dstU x.us)=false) (h1:¬ x.m<0):decide (3<x.m)=decide (badP (beP x)):=by
 have h:dstU x.us=true:=by simpa using h
 refine decide_eq_decide.2 ⟨fun q=>.inr (.inr q),fun q=>?_⟩
 rcases q with q|q|q
 ·have q:dstU x.us=false:=q
  rw[h]at q;cases q
 ·exact absurd q h1
 ·exact q
theorem bad_2 {x:BeX} (h:x.m<0):true=decide (badP (beP x)):=(decide_eq_true (.inr (.inl h))).symm
theorem bad_3 {x:BeX} (h:(!dstU x.us)=true):true=decide (badP (beP x)):=(decide_eq_true (.inl (by show dstU x.us=false;simpa using h))).symm
theorem fr_l {us:List Un} {k:Nat} (h:¬ (k:Int)<us.length):(frA us k).length=(frU us).length:=by rw[frA_t h];exact(srtU_len _).symm
theorem man_1 {x:BeX} (h:BeOk x) {k:Nat} (hk:¬ (k:Int)<x.us.length) (h6:¬ 6<((frA x.us k).length:Int)):decide (10<((nodesL x.g.n x.of).length:Int))=decide (manP (beP x)):=by
 rw[fr_l hk]at h6
 refine decide_eq_decide.2 ⟨fun q=>.inr (by rw[be_tg h];omega),fun q=>?_⟩
 rcases q with q|q
 ·have q:6<(frU x.us).length:=q
  omega
 ·rw[be_tg h]at q
  omega
theorem man_2 {x:BeX} {k:Nat} (hk:¬ (k:Int)<x.us.length) (h6:6<((frA x.us k).length:Int)):true=decide (manP (beP x)):=by
 rw[fr_l hk]at h6
 exact(decide_eq_true (.inl (by show 6<(frU x.us).length;omega))).symm
theorem be_ry {x:BeX} (h:BeOk x) (hb:¬ badP (beP x)) (hm:¬ manP (beP x)):RyOk (beY x):=by
 refine⟨h.g,h.n,h.us,?_,?_⟩
 ·show(nodesL x.g.n x.of).length<=10
  rw[<- be_tg h]
  exact Nat.le_of_not_lt fun q=>hm (.inr q)
 ·have:=be_d hb
  show x.m.toNat<=3
  omega
theorem be_u {x:BeX} (h:BeOk x) {us:List Un} (hu:us.length<=x.us.length):UXok ⟨x.g,x.ts,us,x.of⟩:=⟨h.g,h.n,by have:=h.us;show us.length<=_;omega,by have:=h.of;show x.of.length<=_;omega⟩
theorem be_0 {x:BeX} (h:BeOk x) (hb:¬ badP (beP x)):(worstU x.g x.ts x.us x.of).1=(beB x 0).worst:=by
 have hd:=(be_d hb).1
 have:=be_ok h hd (l:=[]) ⟨Nat.zero_le _,va_nil _⟩
 have ho:=va_ok (be_sr h) hd (va_nil (beP x))
 have ho:okMs x.us []=true:=ho
 rw[(ap_y ho).1]at this
 exact this.symm
theorem be_w {x:BeX} (h:BeOk x) (hb:¬ badP (beP x)) {k:Nat} (hk:(k:Int)<beN x):ltB (kP (beP x) (bel x k)) (beB x k)↔
  (worstU x.g x.ts (appU x.us ((beL x).getD (0+(k:Int).toNat) default)) x.of).1<(beB x k).worst∨(worstU x.g x.ts (appU x.us ((beL x).getD (0+(k:Int).toNat) default)) x.of).1=(beB x k).worst/\
  ((((beL x).getD (0+(k:Int).toNat) default).length:Int)<(beB x k).best.length∨(((beL x).getD (0+(k:Int).toNat) default).length:Int)=(beB x k).best.length/\
  (smL ⟨x.g,x.ts,x.us,(beL x).getD (0+(k:Int).toNat) default⟩<smL ⟨x.g,x.ts,x.us,(beB x k).best⟩∨smL ⟨x.g,x.ts,x.us,(beL x).getD (0+(k:Int).toNat) default⟩=smL ⟨x.g,x.ts,x.us,(beB x k).best⟩/\cmpMs ((beL x).getD (0+(k:Int).toNat) default) (beB x k).best<0)):=by
 have hd:=(be_d hb).1
 rw[bel_e]
 have hi:=be_in h hd (k:=k) (by omega)
 have hB:=be_bst h hd k
 rw[be_sum h hd hi.2,be_sum h hd hB.1.2,<- be_ok h hd hi,cmpMs_neg]
 have e:tkS (beP x) (beB x k).best=(beB x k).total:=(congrArg Bst.total hB.2).symm
 rw[e]
 unfold ltB
 have e2:((bel x k).length<(beB x k).best.length)=(((bel x k).length:Int)<(beB x k).best.length):=propext Int.ofNat_lt.symm
 have e3:((bel x k).length=(beB x k).best.length)=(((bel x k).length:Int)=(beB x k).best.length):=propext Int.ofNat_inj.symm
 show(_<_∨_=_/\((bel x k).length<(beB x k).best.length∨(bel x k).length=(beB x k).best.length/\_))↔_
 rw[e2,e3]
 exact Iff.rfl
theorem be_y {x:BeX} {k:Nat} (hk:(k:Int)<beN x) (h:ltB (kP (beP x) (bel x k)) (beB x k)):beB x (k+1)=kP (beP x) (bel x k):=by
 rw[be_step (by omega)]
 exact if_pos h
theorem be_n {x:BeX} {k:Nat} (hk:(k:Int)<beN x) (h:¬ ltB (kP (beP x) (bel x k)) (beB x k)):beB x (k+1)=beB x k:=by
 rw[be_step (by omega)]
 exact if_neg h
theorem be_yw {x:BeX} (h:BeOk x) (hb:¬ badP (beP x)) {k:Nat} (hk:(k:Int)<beN x) (hl:ltB (kP (beP x) (bel x k)) (beB x k)):(worstU x.g x.ts (appU x.us ((beL x).getD (0+(k:Int).toNat) default)) x.of).1=(beB x (k+1)).worst:=by
 rw[be_y hk hl,bel_e]
 exact(be_ok h (be_d hb).1 (be_in h (be_d hb).1 (k:=k) (by omega))).symm
theorem be_yb {x:BeX} {k:Nat} (hk:(k:Int)<beN x) (hl:ltB (kP (beP x) (bel x k)) (beB x k)):(beL x).getD (0+(k:Int).toNat) default=(beB x (k+1)).best:=by
 rw[be_y hk hl,bel_e]
 rfl
theorem be_f {x:BeX} (h:BeOk x) (hb:¬ badP (beP x)) (hm:¬ manP (beP x)) {k:Nat} (hk:¬ (k:Int)<beN x):(beB x k).worst=(resB (beP x)).worst/\(beB x k).best=(resB (beP x)).best/\0=resE (beP x):=by
 obtain⟨e1,e2⟩:=res_ok hb hm
 have:=be_end h (be_d hb).1 (k:=k) (by omega)
 rw[e1,e2]
 exact⟨this.1,this.2,rfl⟩
theorem be_l3 {x:BeX} (h:BeOk x) (hb:¬ badP (beP x)) {k:Nat} (hk:(k:Int)<beN x):((beL x).getD (0+(k:Int).toNat) default).length<=3:=by
 rw[bel_e]
 have h1:=(be_in h (be_d hb).1 (k:=k) (by omega)).1
 have h2:=(be_d hb).2.2
 omega
theorem be_sm {x:BeX} (h:BeOk x) (hb:¬ badP (beP x)) {k:Nat} (hk:(k:Int)<beN x):SmOk ⟨x.g,x.ts,x.us,(beL x).getD (0+(k:Int).toNat) default⟩:=by
 rw[bel_e]
 exact be_smk h (be_d hb).1 (be_d hb).2.2 (be_in h (be_d hb).1 (by omega))
theorem be_sb {x:BeX} (h:BeOk x) (hb:¬ badP (beP x)) (k:Nat):SmOk ⟨x.g,x.ts,x.us,(beB x k).best⟩:=be_smk h (be_d hb).1 (be_d hb).2.2 (be_bst h (be_d hb).1 k).1
theorem beN_le {x:BeX} (h:BeOk x) (hb:¬ badP (beP x)) (hm:¬ manP (beP x)):beN x<=1000000:=ryL_le (be_ry h hb hm) (be_ry h hb hm).m
theorem be_len (us:List Un) (l:List Mv):(appU us l).length<=us.length:=by
 unfold appU
 split
 ·rw[app_len];exact Nat.le_refl _
 ·exact Nat.zero_le _
theorem fr_y {us:List Un} {k:Nat} (h:(k:Int)<us.length) (h1:(us.getD (0+(k:Int).toNat) default).st=1):((frA us k).length:Int)+1=(frA us (k+1)).length:=by
 rw[<- frA_y h h1,List.length_append]
 rfl
theorem fr_n {us:List Un} {k:Nat} (h:(k:Int)<us.length) (h1:¬ (us.getD (0+(k:Int).toNat) default).st=1):((frA us k).length:Int)=(frA us (k+1)).length:=by rw[<- frA_n h h1]
abbrev q80F0 (x1:BeX):Prop:=(0=0/\x1.us.length=x1.us.length)
theorem q80f0 {x1:BeX}:q80F0 x1:=⟨rfl,rfl⟩
abbrev q80F1 (x1:BeX):Prop:=(((x1.g.n:Int)=(x1.g.n:Int))/\((0=0/\x1.g.es.length=x1.g.es.length)/\True))
theorem q80f1 {x1:BeX}:q80F1 x1:=⟨rfl,⟨rfl,rfl⟩,trivial⟩
abbrev q80F2 (x1:BeX):Prop:=(0=0/\x1.ts.length=x1.ts.length)
theorem q80f2 {x1:BeX}:q80F2 x1:=⟨rfl,rfl⟩
abbrev q80F3 (x1:BeX):Prop:=(0=0/\x1.of.length=x1.of.length)
theorem q80f3 {x1:BeX}:q80F3 x1:=⟨rfl,rfl⟩
abbrev q80F4 (x1:BeX):Prop:=(false=false/\(((0:Int)=0)/\(((0:Int)=0)/\(True/\((0=0/\0=0)/\((q80F1 x1)/\((q80F2 x1)/\((q80F0 x1)/\((q80F3 x1)/\(x1.m=x1.m/\True))))))))))
theorem q80f4 {x1:BeX}:q80F4 x1:=⟨rfl,rfl,rfl,trivial,⟨rfl,rfl⟩,q80f1,q80f2,q80f0,q80f3,rfl,trivial⟩
abbrev q80F5 (x1:BeX):Prop:=((q80F1 x1)/\(((RLe x1.g.es.length x1.g.es.length)/\(RowsEq [.int .i64,.int .i64,.int .i64] x1.g.es.length (encL encE x1.g.es) (encL encE x1.g.es)))/\(((RLe x1.ts.length x1.ts.length)/\(RI x1.ts.length x1.ts x1.ts))/\(((RLe x1.us.length x1.us.length)/\(RowsEq kU x1.us.length (encL encU x1.us) (encL encU x1.us)))/\(((RLe x1.of.length x1.of.length)/\(RI x1.of.length x1.of x1.of))/\True)))))
theorem q80f5 {x1:BeX}:q80F5 x1:=⟨q80f1,⟨rl,rr⟩,⟨rl,rr⟩,⟨rl,rr⟩,⟨rl,rr⟩,trivial⟩
abbrev q80F6 (x24:NOX):Prop:=(0=0/\((nodesL x24.g.n x24.of).length=(nodesL x24.g.n x24.of).length))
theorem q80f6 {x24:NOX}:q80F6 x24:=⟨rfl,rfl⟩
abbrev q80F7 (x33:UX):Prop:=((Prod.fst (worstU x33.g x33.ts x33.us x33.of)=Prod.fst (worstU x33.g x33.ts x33.us x33.of))/\((Prod.snd (worstU x33.g x33.ts x33.us x33.of)=Prod.snd (worstU x33.g x33.ts x33.us x33.of))/\True))
theorem q80f7 {x33:UX}:q80F7 x33:=⟨rfl,rfl,trivial⟩
abbrev q80F8 (x1:BeX) (x16:Nat) (x24:NOX) (x33:UX):Prop:=(x1.m=x1.m/\((q80F6 x24)/\((q80F0 x1)/\((q80F2 x1)/\((q80F1 x1)/\((Prod.snd (worstU x33.g x33.ts x33.us x33.of)=Prod.snd (worstU x33.g x33.ts x33.us x33.of))/\((Prod.snd (worstU x33.g x33.ts x33.us x33.of)=Prod.snd (worstU x33.g x33.ts x33.us x33.of))/\((Prod.fst (worstU x33.g x33.ts x33.us x33.of)=Prod.fst (worstU x33.g x33.ts x33.us x33.of))/\((q80F7 x33)/\((q80F7 x33)/\((q80F3 x1)/\((q80F0 x1)/\((q80F2 x1)/\((q80F1 x1)/\(false=false/\((q80F6 x24)/\((q80F6 x24)/\((q80F3 x1)/\((q80F1 x1)/\(false=false/\(((↑(frA x1.us x16).length:Int)=(↑(frA x1.us x16).length:Int))/\((q80F0 x1)/\(((x1.us.length:Int)=(x1.us.length:Int))/\(((x16:Int)=(x16:Int))/\(q80F4 x1)))))))))))))))))))))))))
theorem q80f8 {x1:BeX} {x16:Nat} {x24:NOX} {x33:UX}:q80F8 x1 x16 x24 x33:=⟨rfl,q80f6,q80f0,q80f2,q80f1,rfl,rfl,rfl,q80f7,q80f7,q80f3,q80f0,q80f2,q80f1,rfl,q80f6,q80f6,q80f3,q80f1,rfl,rfl,q80f0,rfl,rfl,q80f4⟩
abbrev q80F9 (x1:BeX) (x24:NOX):Prop:=(((RLe (nodesL x24.g.n x24.of).length (nodesL x24.g.n x24.of).length)/\(RowsEq [.int .i64] (nodesL x24.g.n x24.of).length (encL encI (nodesL x24.g.n x24.of)) (encL encI (nodesL x24.g.n x24.of))))/\(q80F5 x1))
theorem q80f9 {x1:BeX} {x24:NOX}:q80F9 x1 x24:=⟨⟨rl,rr⟩,q80f5⟩
abbrev q80F10 (x1:BeX) (x24:NOX):Prop:=(((RLe (beN x1) (beN x1))/\(RowsEq [.sl [.int .i64,.int .i64]] (beN x1) (encL encLs (beL x1)) (encL encLs (beL x1))))/\(q80F9 x1 x24))
theorem q80f10 {x1:BeX} {x24:NOX}:q80F10 x1 x24:=⟨⟨rl,rr⟩,q80f9⟩
set_option maxRecDepth 100000 in
theorem be_keeps:Keeps cfgBe Tryz.f11 beC beI:=Eq.mp (show(∀ x1:BeX,((BeOk x1)->((∃ x3:List Un,((x3.length<=(1000:Nat))/\(((0=0/\x1.us.length=x3.length)/\True)/\(((RW kU x3.length x1.us.length (encL encU x1.us) (encL encU x3))/\True)/\(CN (!dstU x3) (CN (decide (x1.m<(0:Int))) (∃ x6:Unit,(True/\((decide (3<x1.m)=decide (badP (beP x1)))/\True))) (∃ x8:Unit,(True/\((true=decide (badP (beP x1)))/\True)))) (∃ x10:Unit,(True/\((true=decide (badP (beP x1)))/\True))))))))/\(∀ x11:Unit,(True->(CB (decide (badP (beP x1))) (((True/\(0=0/\((resB (beP x1)).best.length=(0:Nat))))/\((0=(resB (beP x1)).worst)/\(((1:Int)=resE (beP x1))/\True)))/\(((resB (beP x1)).best.length=(0:Nat))/\True)) (∃ x15:Nat,(((x15<=x1.us.length)/\(((0=(↑(frA x1.us x15).length:Int))/\((q80F0 x1)/\(((x1.us.length:Int)=(x1.us.length:Int))/\((0=(x15:Int))/\(q80F4 x1)))))/\(q80F5 x1)))/\(∀ x16:Nat,((x16<=x1.us.length)->(CB (decide ((x16:Int)<(x1.us.length:Int))) ((Ix (x16:Int) (x1.us.length:Int))/\((0+Int.toNat (x16:Int)<x1.us.length)/\(CB (decide ((x1.us.getD (0+Int.toNat (x16:Int)) default).st=(1:Int))) ((R6 ((↑(frA x1.us x16).length:Int)+1))/\((R6 ((x16:Int)+1))/\(∃ x20:Nat,((x1.us.length-x20<x1.us.length-x16)/\((x20<=x1.us.length)/\((((↑(frA x1.us x16).length:Int)+1=(↑(frA x1.us x20).length:Int))/\((q80F0 x1)/\(((x1.us.length:Int)=(x1.us.length:Int))/\(((x16:Int)+1=(x20:Int))/\(q80F4 x1)))))/\(q80F5 x1))))))) ((R6 ((x16:Int)+1))/\(∃ x22:Nat,((x1.us.length-x22<x1.us.length-x16)/\((x22<=x1.us.length)/\((((↑(frA x1.us x16).length:Int)=(↑(frA x1.us x22).length:Int))/\((q80F0 x1)/\(((x1.us.length:Int)=(x1.us.length:Int))/\(((x16:Int)+1=(x22:Int))/\(q80F4 x1)))))/\(q80F5 x1))))))))) (∃ x24:NOX,((x24.of.length<=(1048576:Nat))/\(((((x1.g.n:Int)=(x24.g.n:Int))/\((0=0/\x1.g.es.length=x24.g.es.length)/\True))/\((0=0/\x1.of.length=x24.of.length)/\True))/\(((RW [.int .i64,.int .i64,.int .i64] x24.g.es.length x1.g.es.length (encL encE x1.g.es) (encL encE x24.g.es))/\((RW [.int .i64] x24.of.length x1.of.length (encL encI x1.of) (encL encI x24.of))/\True))/\((CN (decide (6<(↑(frA x1.us x16).length:Int))) (∃ x26:Unit,(True/\((decide (10<(↑(nodesL x24.g.n x24.of).length:Int))=decide (manP (beP x1)))/\True))) (∃ x28:Unit,(True/\((true=decide (manP (beP x1)))/\True))))/\(∀ x29:Unit,(True->(CB (decide (manP (beP x1))) (((True/\(0=0/\((resB (beP x1)).best.length=(0:Nat))))/\((0=(resB (beP x1)).worst)/\(((3:Int)=resE (beP x1))/\True)))/\(((resB (beP x1)).best.length=(0:Nat))/\True)) (∃ x33:UX,((UXok x33)/\(((((x1.g.n:Int)=(x33.g.n:Int))/\((0=0/\x1.g.es.length=x33.g.es.length)/\True))/\((0=0/\x1.ts.length=x33.ts.length)/\((0=0/\x1.us.length=x33.us.length)/\((0=0/\x1.of.length=x33.of.length)/\True))))/\(((RW [.int .i64,.int .i64,.int .i64] x33.g.es.length x1.g.es.length (encL encE x1.g.es) (encL encE x33.g.es))/\((RW [.int .i64] x33.ts.length x1.ts.length (encL encI x1.ts) (encL encI x33.ts))/\((RW kU x33.us.length x1.us.length (encL encU x1.us) (encL encU x33.us))/\((RW [.int .i64] x33.of.length x1.of.length (encL encI x1.of) (encL encI x33.of))/\True))))/\(∃ x34:RyX,(((RyOk x34)/\(x34.m<(4:Nat)))/\(((((x1.g.n:Int)=(x34.g.n:Int))/\((0=0/\x1.g.es.length=x34.g.es.length)/\True))/\((0=0/\x1.ts.length=x34.ts.length)/\((0=0/\x1.us.length=x34.us.length)/\((0=0/\((nodesL x24.g.n x24.of).length=x34.nd.length))/\((x1.m=(x34.m:Int))/\True)))))/\(((RW [.int .i64,.int .i64,.int .i64] x34.g.es.length x1.g.es.length (encL encE x1.g.es) (encL encE x34.g.es))/\((RW [.int .i64] x34.ts.length x1.ts.length (encL encI x1.ts) (encL encI x34.ts))/\((RW kU x34.us.length x1.us.length (encL encU x1.us) (encL encU x34.us))/\((RW [.int .i64] x34.nd.length (nodesL x24.g.n x24.of).length (encL encI (nodesL x24.g.n x24.of)) (encL encI x34.nd))/\True))))/\(∃ x35:Nat,(((x35<=beN x1)/\(((True/\(0=0/\((beB x1 x35).best.length=(0:Nat))))/\((Prod.fst (worstU x33.g x33.ts x33.us x33.of)=(beB x1 x35).worst)/\((0=0/\((ryL x34 x34.m).length=beN x1))/\(((↑(ryL x34 x34.m).length:Int)=(↑(beN x1):Int))/\((0=(x35:Int))/\(q80F8 x1 x16 x24 x33))))))/\(((beB x1 x35).best.length=(0:Nat))/\((RW [.sl [.int .i64,.int .i64]] (beN x1) (ryL x34 x34.m).length (encL encLs (ryL x34 x34.m)) (encL encLs (beL x1)))/\(q80F9 x1 x24)))))/\(∀ x36:Nat,((x36<=beN x1)->(CB (decide ((x36:Int)<(↑(beN x1):Int))) ((Ix (x36:Int) (↑(beN x1):Int))/\((0+Int.toNat (x36:Int)<beN x1)/\(∃ x39:IdX,(((x39.us.length<=(1000:Nat))/\(x39.l.length<=(1000:Nat)))/\(((0=0/\x1.us.length=x39.us.length)/\((0=0/\(((beL x1).getD (0+Int.toNat (x36:Int)) default).length=x39.l.length))/\True))/\(((RW kU x39.us.length x1.us.length (encL encU x1.us) (encL encU x39.us))/\((RW [.int .i64,.int .i64] x39.l.length ((beL x1).getD (0+Int.toNat (x36:Int)) default).length (D.toF (D.l ((beL x1).getD (0+Int.toNat (x36:Int)) default).length (encL encM ((beL x1).getD (0+Int.toNat (x36:Int)) default)))) (encL encM x39.l))/\True))/\(∃ x40:UX,((UXok x40)/\(((((x1.g.n:Int)=(x40.g.n:Int))/\((0=0/\x1.g.es.length=x40.g.es.length)/\True))/\((0=0/\x1.ts.length=x40.ts.length)/\((0=0/\((appU x39.us x39.l).length=x40.us.length))/\((0=0/\x1.of.length=x40.of.length)/\True))))/\(((RW [.int .i64,.int .i64,.int .i64] x40.g.es.length x1.g.es.length (encL encE x1.g.es) (encL encE x40.g.es))/\((RW [.int .i64] x40.ts.length x1.ts.length (encL encI x1.ts) (encL encI x40.ts))/\((RW kU x40.us.length (appU x39.us x39.l).length (encL encU (appU x39.us x39.l)) (encL encU x40.us))/\((RW [.int .i64] x40.of.length x1.of.length (encL encI x1.of) (encL encI x40.of))/\True))))/\(∃ x41:SmX,((SmOk x41)/\(((((x1.g.n:Int)=(x41.g.n:Int))/\((0=0/\x1.g.es.length=x41.g.es.length)/\True))/\((0=0/\x1.ts.length=x41.ts.length)/\((0=0/\x1.us.length=x41.us.length)/\((0=0/\(((beL x1).getD (0+Int.toNat (x36:Int)) default).length=x41.l.length))/\True))))/\(((RW [.int .i64,.int .i64,.int .i64] x41.g.es.length x1.g.es.length (encL encE x1.g.es) (encL encE x41.g.es))/\((RW [.int .i64] x41.ts.length x1.ts.length (encL encI x1.ts) (encL encI x41.ts))/\((RW kU x41.us.length x1.us.length (encL encU x1.us) (encL encU x41.us))/\((RW [.int .i64,.int .i64] x41.l.length ((beL x1).getD (0+Int.toNat (x36:Int)) default).length (D.toF (D.l ((beL x1).getD (0+Int.toNat (x36:Int)) default).length (encL encM ((beL x1).getD (0+Int.toNat (x36:Int)) default)))) (encL encM x41.l))/\True))))/\(∃ x42:SmX,((SmOk x42)/\(((((x1.g.n:Int)=(x42.g.n:Int))/\((0=0/\x1.g.es.length=x42.g.es.length)/\True))/\((0=0/\x1.ts.length=x42.ts.length)/\((0=0/\x1.us.length=x42.us.length)/\((0=0/\((beB x1 x36).best.length=x42.l.length))/\True))))/\(((RW [.int .i64,.int .i64,.int .i64] x42.g.es.length x1.g.es.length (encL encE x1.g.es) (encL encE x42.g.es))/\((RW [.int .i64] x42.ts.length x1.ts.length (encL encI x1.ts) (encL encI x42.ts))/\((RW kU x42.us.length x1.us.length (encL encU x1.us) (encL encU x42.us))/\((RW [.int .i64,.int .i64] x42.l.length (beB x1 x36).best.length (encL encM (beB x1 x36).best) (encL encM x42.l))/\True))))/\((CN (decide (Prod.fst (worstU x40.g x40.ts x40.us x40.of)<(beB x1 x36).worst)) (CB (decide (Prod.fst (worstU x40.g x40.ts x40.us x40.of)=(beB x1 x36).worst)) (CN (decide ((↑((beL x1).getD (0+Int.toNat (x36:Int)) default).length:Int)<(↑(beB x1 x36).best.length:Int))) (CB (decide ((↑((beL x1).getD (0+Int.toNat (x36:Int)) default).length:Int)=(↑(beB x1 x36).best.length:Int))) (CN (decide (smL x41<smL x42)) (CB (decide (smL x41=smL x42)) (∃ x49:AhX,((x49.a.length=x49.b.length/\(x49.a.length<=(1000:Nat)))/\(((0=0/\(((beL x1).getD (0+Int.toNat (x36:Int)) default).length=x49.a.length))/\((0=0/\((beB x1 x36).best.length=x49.b.length))/\True))/\(((RW [.int .i64,.int .i64] x49.a.length ((beL x1).getD (0+Int.toNat (x36:Int)) default).length (D.toF (D.l ((beL x1).getD (0+Int.toNat (x36:Int)) default).length (encL encM ((beL x1).getD (0+Int.toNat (x36:Int)) default)))) (encL encM x49.a))/\((RW [.int .i64,.int .i64] x49.b.length (beB x1 x36).best.length (encL encM (beB x1 x36).best) (encL encM x49.b))/\True))/\(∃ x50:Unit,(True/\((decide (cmpMs x49.a x49.b<(0:Int))=decide (ltB (kP (beP x1) (bel x1 x36)) (beB x1 x36)))/\True))))))) (∃ x52:Unit,(True/\((false=decide (ltB (kP (beP x1) (bel x1 x36)) (beB x1 x36)))/\True)))) (∃ x54:Unit,(True/\((true=decide (ltB (kP (beP x1) (bel x1 x36)) (beB x1 x36)))/\True)))) (∃ x56:Unit,(True/\((false=decide (ltB (kP (beP x1) (bel x1 x36)) (beB x1 x36)))/\True)))) (∃ x58:Unit,(True/\((true=decide (ltB (kP (beP x1) (bel x1 x36)) (beB x1 x36)))/\True)))) (∃ x60:Unit,(True/\((false=decide (ltB (kP (beP x1) (bel x1 x36)) (beB x1 x36)))/\True)))) (∃ x62:Unit,(True/\((true=decide (ltB (kP (beP x1) (bel x1 x36)) (beB x1 x36)))/\True))))/\(∀ x63:Unit,(True->(CB (decide (ltB (kP (beP x1) (bel x1 x36)) (beB x1 x36))) ((R6 ((x36:Int)+1))/\(∃ x66:Nat,((beN x1-x66<beN x1-x36)/\((x66<=beN x1)/\(((0=0/\(((beL x1).getD (0+Int.toNat (x36:Int)) default).length=(beB x1 x66).best.length))/\((Prod.fst (worstU x40.g x40.ts x40.us x40.of)=(beB x1 x66).worst)/\((0=0/\(beN x1=beN x1))/\(((↑(beN x1):Int)=(↑(beN x1):Int))/\(((x36:Int)+1=(x66:Int))/\(q80F8 x1 x16 x24 x33))))))/\((RW [.int .i64,.int .i64] (beB x1 x66).best.length ((beL x1).getD (0+Int.toNat (x36:Int)) default).length (D.toF (D.l ((beL x1).getD (0+Int.toNat (x36:Int)) default).length (encL encM ((beL x1).getD (0+Int.toNat (x36:Int)) default)))) (encL encM (beB x1 x66).best))/\(q80F10 x1 x24))))))) ((R6 ((x36:Int)+1))/\(∃ x68:Nat,((beN x1-x68<beN x1-x36)/\((x68<=beN x1)/\(((0=0/\((beB x1 x36).best.length=(beB x1 x68).best.length))/\(((beB x1 x36).worst=(beB x1 x68).worst)/\((0=0/\(beN x1=beN x1))/\(((↑(beN x1):Int)=(↑(beN x1):Int))/\(((x36:Int)+1=(x68:Int))/\(q80F8 x1 x16 x24 x33))))))/\((RW [.int .i64,.int .i64] (beB x1 x68).best.length (beB x1 x36).best.length (encL encM (beB x1 x36).best) (encL encM (beB x1 x68).best))/\(q80F10 x1 x24))))))))))))))))))))))))))))) (((0=0/\((beB x1 x36).best.length=(resB (beP x1)).best.length))/\(((beB x1 x36).worst=(resB (beP x1)).worst)/\(((0:Int)=resE (beP x1))/\True)))/\((RW [.int .i64,.int .i64] (resB (beP x1)).best.length (beB x1 x36).best.length (encL encM (beB x1 x36).best) (encL encM (resB (beP x1)).best))/\True))))))))))))))))))))))))))))))))))=(Keeps cfgBe Tryz.f11 beC beI) by kernel_rfl) (fun x1=>fun h2=>⟨⟨(BeX.us x1),(by have:=h2.us;omega),⟨⟨rfl,rfl⟩,trivial⟩,⟨⟨rl,rr⟩,trivial⟩,fun h4=>⟨fun g5=>have h5:=dF g5;⟨(default),trivial,(bad_1 h4 h5),trivial⟩,fun g7=>have h7:=dT g7;⟨(default),trivial,(bad_2 h7),trivial⟩⟩,fun h9=>⟨(default),trivial,(bad_3 h9),trivial⟩⟩,fun x11=>fun h12=>⟨fun g13=>have h13:=dT g13;⟨⟨⟨trivial,rfl,(by rw[(res_bad h13).1];rfl)⟩,(congrArg Bst.worst (res_bad h13).1.symm),((res_bad h13).2.symm),trivial⟩,(by rw[(res_bad h13).1];rfl),trivial⟩,fun g14=>have h14:=dF g14;⟨((0:Nat)),⟨(by omega),⟨rfl,q80f0,rfl,(by omega),q80f4⟩,q80f5⟩,fun x16=>fun h17=>⟨fun g18=>have h18:=dT g18;⟨⟨(by omega),(by omega)⟩,(by omega),fun g19=>have h19:=dT g19;⟨⟨(by omega),(by have:=h2.us;have:=frA_len x1.us x16;omega)⟩,⟨(by omega),(by have:=h2.us;omega)⟩,(x16+(1:Nat)),(by omega),(by omega),⟨(fr_y h18 h19),q80f0,rfl,(by omega),q80f4⟩,q80f5⟩,fun g21=>have h21:=dF g21;⟨⟨(by omega),(by have:=h2.us;omega)⟩,(x16+(1:Nat)),(by omega),(by omega),⟨(fr_n h18 h21),q80f0,rfl,(by omega),q80f4⟩,q80f5⟩⟩,fun g23=>have h23:=dF g23;⟨({ g:=BeX.g x1,of:=BeX.of x1:NOX }),(by have:=h2.of;show x1.of.length<=1048576;omega),⟨⟨rfl,⟨rfl,rfl⟩,trivial⟩,⟨rfl,rfl⟩,trivial⟩,⟨⟨rl,rr⟩,⟨rl,rr⟩,trivial⟩,⟨fun g25=>have h25:=dF g25;⟨(default),trivial,(man_1 h2 h23 h25),trivial⟩,fun g27=>have h27:=dT g27;⟨(default),trivial,(man_2 h23 h27),trivial⟩⟩,fun x29=>fun h30=>⟨fun g31=>have h31:=dT g31;⟨⟨⟨trivial,rfl,(by rw[(res_man h14 h31).1];rfl)⟩,(congrArg Bst.worst (res_man h14 h31).1.symm),((res_man h14 h31).2.symm),trivial⟩,(by rw[(res_man h14 h31).1];rfl),trivial⟩,fun g32=>have h32:=dF g32;⟨({ g:=BeX.g x1,ts:=BeX.ts x1,us:=BeX.us x1,of:=BeX.of x1:UX }),(be_u h2 (Nat.le_refl _)),⟨⟨rfl,⟨rfl,rfl⟩,trivial⟩,⟨rfl,rfl⟩,⟨rfl,rfl⟩,⟨rfl,rfl⟩,trivial⟩,⟨⟨rl,rr⟩,⟨rl,rr⟩,⟨rl,rr⟩,⟨rl,rr⟩,trivial⟩,(beY x1),⟨(be_ry h2 h14 h32),(by have:=(be_ry h2 h14 h32).m;show x1.m.toNat<4;have e:x1.m.toNat<=3:=this;omega)⟩,⟨⟨rfl,⟨rfl,rfl⟩,trivial⟩,⟨rfl,rfl⟩,⟨rfl,rfl⟩,⟨rfl,rfl⟩,(by have:=(be_d h14).2;show x1.m=((x1.m.toNat:Nat):Int);omega),trivial⟩,⟨⟨⟨(Nat.le_refl _)⟩,rr⟩,⟨⟨(Nat.le_refl _)⟩,rr⟩,⟨⟨(Nat.le_refl _)⟩,rr⟩,⟨⟨(Nat.le_refl _)⟩,rr⟩,trivial⟩,((0:Nat)),⟨(by omega),⟨⟨trivial,rfl,rfl⟩,(be_0 h2 h14),⟨rfl,rfl⟩,rfl,(by omega),q80f8⟩,rfl,⟨⟨(Nat.le_refl _)⟩,rr⟩,q80f9⟩,fun x36=>fun h37=>⟨fun g38=>have h38:=dT g38;⟨⟨(by omega),(by omega)⟩,(by omega),({ us:=BeX.us x1,l:=List.getD (beL x1) ((0:Nat)+Int.toNat (↑x36:Int)) default:IdX }),⟨(by(try dsimp only at *);(have:=h2.us;omega)),(by have:=be_l3 h2 h14 h38;show((beL x1).getD (0+(x36:Int).toNat) default).length<=1000;omega)⟩,⟨⟨rfl,rfl⟩,⟨rfl,rfl⟩,trivial⟩,⟨⟨rl,rr⟩,⟨rl,rr⟩,trivial⟩,({ g:=BeX.g x1,ts:=BeX.ts x1,us:=appU (BeX.us x1) (List.getD (beL x1) ((0:Nat)+Int.toNat (↑x36:Int)) default),of:=BeX.of x1:UX }),(be_u h2 (be_len _ _)),⟨⟨rfl,⟨rfl,rfl⟩,trivial⟩,⟨rfl,rfl⟩,⟨rfl,rfl⟩,⟨rfl,rfl⟩,trivial⟩,⟨⟨rl,rr⟩,⟨rl,rr⟩,⟨rl,rr⟩,⟨rl,rr⟩,trivial⟩,({ g:=BeX.g x1,ts:=BeX.ts x1,us:=BeX.us x1,l:=List.getD (beL x1) ((0:Nat)+Int.toNat (↑x36:Int)) default:SmX }),(be_sm h2 h14 h38),⟨⟨rfl,⟨rfl,rfl⟩,trivial⟩,⟨rfl,rfl⟩,⟨rfl,rfl⟩,⟨rfl,rfl⟩,trivial⟩,⟨⟨rl,rr⟩,⟨rl,rr⟩,⟨rl,rr⟩,⟨rl,rr⟩,trivial⟩,({ g:=BeX.g x1,ts:=BeX.ts x1,us:=BeX.us x1,l:=Bst.best (beB x1 x36):SmX }),(be_sb h2 h14 x36),⟨⟨rfl,⟨rfl,rfl⟩,trivial⟩,⟨rfl,rfl⟩,⟨rfl,rfl⟩,⟨rfl,rfl⟩,trivial⟩,⟨⟨rl,rr⟩,⟨rl,rr⟩,⟨rl,rr⟩,⟨rl,rr⟩,trivial⟩,⟨fun g43=>have h43:=dF g43;⟨fun g44=>have h44:=dT g44;⟨fun g45=>have h45:=dF g45;⟨fun g46=>have h46:=dT g46;⟨fun g47=>have h47:=dF g47;⟨fun g48=>have h48:=dT g48;⟨({ a:=List.getD (beL x1) ((0:Nat)+Int.toNat (↑x36:Int)) default,b:=Bst.best (beB x1 x36):AhX }),⟨(by(try dsimp only at *);omega),(by have:=be_l3 h2 h14 h38;show((beL x1).getD (0+(x36:Int).toNat) default).length<=1000;omega)⟩,⟨⟨rfl,rfl⟩,⟨rfl,rfl⟩,trivial⟩,⟨⟨rl,rr⟩,⟨rl,rr⟩,trivial⟩,(default),trivial,(decide_eq_decide.2 ⟨fun q=>(be_w h2 h14 h38).2 (.inr ⟨h44,.inr ⟨h46,.inr ⟨h48,q⟩⟩⟩),fun q=>((((be_w h2 h14 h38).1 q).resolve_left h43).2.resolve_left h45).2.elim (fun r=>absurd r h47) And.right⟩),trivial⟩,fun g51=>have h51:=dF g51;⟨(default),trivial,((decide_eq_false fun q=>((((be_w h2 h14 h38).1 q).resolve_left h43).2.resolve_left h45).2.elim h47 fun r=>h51 r.1).symm),trivial⟩⟩,fun g53=>have h53:=dT g53;⟨(default),trivial,((decide_eq_true ((be_w h2 h14 h38).2 (.inr ⟨h44,.inr ⟨h46,.inl h53⟩⟩))).symm),trivial⟩⟩,fun g55=>have h55:=dF g55;⟨(default),trivial,((decide_eq_false fun q=>(((be_w h2 h14 h38).1 q).resolve_left h43).2.elim h45 fun r=>h55 r.1).symm),trivial⟩⟩,fun g57=>have h57:=dT g57;⟨(default),trivial,((decide_eq_true ((be_w h2 h14 h38).2 (.inr ⟨h44,.inl h57⟩))).symm),trivial⟩⟩,fun g59=>have h59:=dF g59;⟨(default),trivial,((decide_eq_false fun q=>((be_w h2 h14 h38).1 q).elim h43 fun r=>h59 r.1).symm),trivial⟩⟩,fun g61=>have h61:=dT g61;⟨(default),trivial,((decide_eq_true ((be_w h2 h14 h38).2 (.inl h61))).symm),trivial⟩⟩,fun x63=>fun h64=>⟨fun g65=>have h65:=dT g65;⟨⟨(by omega),(by have:=beN_le h2 h14 h32;omega)⟩,(x36+(1:Nat)),(by omega),(by omega),⟨⟨rfl,(by rw[be_yb h38 h65];done)⟩,(be_yw h2 h14 h38 h65),⟨rfl,rfl⟩,rfl,(by omega),q80f8⟩,⟨⟨(by rw[be_yb h38 h65];first|exact Nat.le_refl _|exact rr)⟩,(by rw[be_yb h38 h65];first|exact Nat.le_refl _|exact rr)⟩,q80f10⟩,fun g67=>have h67:=dF g67;⟨⟨(by omega),(by have:=beN_le h2 h14 h32;omega)⟩,(x36+(1:Nat)),(by omega),(by omega),⟨⟨rfl,(by rw[be_n h38 h67];done)⟩,(by rw[be_n h38 h67];done),⟨rfl,rfl⟩,rfl,(by omega),q80f8⟩,⟨⟨(by rw[be_n h38 h67];first|exact Nat.le_refl _|exact rr)⟩,(by rw[be_n h38 h67];first|exact Nat.le_refl _|exact rr)⟩,q80f10⟩⟩⟩,fun g69=>have h69:=dF g69;⟨⟨⟨rfl,(by rw[(be_f h2 h14 h32 h69).2.1];done)⟩,((be_f h2 h14 h32 h69).1),((be_f h2 h14 h32 h69).2.2),trivial⟩,⟨⟨(by rw[(be_f h2 h14 h32 h69).2.1];first|exact Nat.le_refl _|exact rr)⟩,(by rw[(be_f h2 h14 h32 h69).2.1];first|exact Nat.le_refl _|exact rr)⟩,trivial⟩⟩⟩⟩⟩⟩⟩⟩⟩)
theorem be_good:Good Tryz.prog 11 beC/\FnOk Tryz.prog 11:=good_of tok conBe (fn:=Tryz.f11) rfl (by decide+kernel) (fun _=>rfl) be_keeps
end Go.Sym