import Derived.Test.YtlldhkhmhgcpaaaGreatDoorEP
import Derived.Test.YtlldhkhmhgcpaaaGreatDoorCM
import Derived.Test.YtlldhkhmhgcpaaaGreatDoorXD
namespace Go.Sym
set_option linter.unusedVariables false
set_option linter.unusedSimpArgs false
open Go.Proofs
set_option maxRecDepth 100000
theorem g_un {us:List Un} {j:Nat} (hj:j<us.length):us.getD j default=us[j]:=by rw[List.getD_eq_getElem?_getD,List.getElem?_eq_getElem hj];rfl
theorem ix_inj {us:List Un} (hd:dstU us=true) {i j:Nat} (hi:i<us.length) (hj:j<us.length) (h:us[i].id=us[j].id):i=j:=by
 have hn:=di_all hd
 rw[List.nodup_iff_pairwise_ne,List.pairwise_map]at hn
 have hp:=List.pairwise_iff_getElem.1 hn
 rcases Nat.lt_trichotomy i j with q|q|q
 ·exact absurd h (hp i j hi hj q)
 ·exact q
 ·exact absurd h.symm (hp j i hj hi q)
theorem id_inj {us:List Un} (hd:dstU us=true) {u v:Un} (hu:u∈us) (hv:v∈us) (h:u.id=v.id):u=v:=by
 obtain⟨i,hi,rfl⟩:=List.getElem_of_mem hu
 obtain⟨j,hj,rfl⟩:=List.getElem_of_mem hv
 have:=ix_inj hd hi hj h
 subst this
 rfl
theorem fnd_mem {us:List Un} (hd:dstU us=true) {u:Un} (hu:u∈us):0<=fndU us u.id/\us.getD (fndU us u.id).toNat default=u:=by
 rcases fnd_cases us u.id with⟨k,h1,h2,h3,_⟩|⟨_,h2⟩
 ·rw[h2]
  refine⟨by omega,?_⟩
  rw[Int.toNat_natCast]
  rw[g_un h1]at h3 ⊢
  exact id_inj hd (List.getElem_mem _) hu h3
 ·obtain⟨j,hj,rfl⟩:=List.getElem_of_mem hu
  exact absurd (by rw[g_un hj]) (h2 j hj)
theorem fr_mem {us:List Un} {u:Un}:u∈frU us↔u∈us/\u.st=1:=by
 unfold frU
 rw[(srtU_perm (frL us)).mem_iff]
 unfold frL
 rw[List.mem_filter]
 simp
theorem fr_up {us:List Un} (hd:dstU us=true):(frU us).Pairwise fun a b=>a.id<b.id:=srtU_strict ((di_all hd).sublist (List.filter_sublist.map _))
theorem fr_lt {us:List Un} (hd:dstU us=true) {i j:Nat} (hi:i<(frU us).length) (hj:j<(frU us).length):((frU us).getD i default).id<((frU us).getD j default).id↔i<j:=by
 have h:=List.pairwise_iff_getElem.1 (fr_up hd)
 rw[g_un hi,g_un hj]
 constructor
 ·intro q
  rcases Nat.lt_trichotomy i j with r|r|r
  ·exact r
  ·subst r;omega
  ·have:=h j i hj hi r;omega
 ·exact h i j hi hj
theorem fr_in {us:List Un} {i:Nat} (hi:i<(frU us).length):(frU us).getD i default∈us/\((frU us).getD i default).st=1:=by
 rw[g_un hi]
 exact fr_mem.1 (List.getElem_mem _)
theorem fr_ix {us:List Un} {u:Un} (hu:u∈us) (h:u.st=1):∃ i,i<(frU us).length/\(frU us).getD i default=u:=by
 obtain⟨i,hi,e⟩:=List.getElem_of_mem (fr_mem.2 ⟨hu,h⟩)
 exact⟨i,hi,by rw[g_un hi];exact e⟩
def vaM (x:PlX) (s:Mv):Prop:=∃ u∈x.us,u.st=1/\u.id=s.1/\s.2∈tgP x/\s.2≠u.nd/\dsF (srP x) u.nd s.2≠INF
def vaL (x:PlX) (l:List Mv):Prop:=(l.Pairwise fun a b=>a.1<b.1)/\∀ s∈l,vaM x s
def p0P (x:PlX):Pos:=⟨ndP x,[],0⟩
def mvE (x:PlX) (e:Nat × Int):Mv:=(((frU x.us).getD e.1 default).id,e.2)
theorem nd0 {x:PlX} {i:Nat} (hi:i<(frU x.us).length):(ndP x).getD i default=((frU x.us).getD i default).nd:=by
 unfold ndP
 rw[List.getD_eq_getElem?_getD,List.getElem?_map,List.getElem?_eq_getElem hi,g_un hi]
 rfl
theorem push_mv {x:PlX}:∀(il:List (Nat × Int)) (p:Pos),(pushL (srP x) p il).mv=p.mv++il.map (mvE x)
 | [],p=>by simp[pushL]
 |e::il,p=>by
  have:=push_mv (x:=x) il (pushP (srP x) p e.1 e.2)
  unfold pushL at this ⊢
  rw[List.foldl_cons,this,List.map_cons]
  show(p.mv++[_])++_=_
  rw[List.append_assoc]
  rfl
theorem en_va {x:PlX} (hd:dstU x.us=true) {m:Nat} {l:List Mv}:(∃ q∈enP (srP x) m 0 (p0P x),q.mv=l)↔l.length<=m/\vaL x l:=by
 constructor
 ·rintro⟨q,hq,rfl⟩
  obtain⟨il,h,rfl⟩:=(en_mem _ _ _ _).1 hq
  rw[push_mv]
  show([]++il.map (mvE x)).length<=m/\vaL x ([]++il.map (mvE x))
  rw[List.nil_append]
  refine⟨by rw[List.length_map];exact h.len,?_,fun s hs=>?_⟩
  ·rw[List.pairwise_map]
   refine List.Pairwise.imp_of_mem (fun {a b} ha hb r=>?_) h.up
   exact(fr_lt hd (h.ok a ha).1.2 (h.ok b hb).1.2).2 r
  ·obtain⟨e,he,rfl⟩:=List.mem_map.1 hs
   obtain⟨h1,h2,h3⟩:=h.ok e he
   have h1:=h1.2
   have hi:=fr_in (us:=x.us) h1
   unfold goP at h3
   have e0:(p0P x).nd.getD e.1 default=((frU x.us).getD e.1 default).nd:=nd0 h1
   rw[e0]at h3
   exact⟨_,hi.1,hi.2,rfl,h2,fun q=>h3 (.inl q),fun q=>h3 (.inr q)⟩
 ·rintro⟨hl,hv⟩
  have hx:∀ s∈l,∃ i,i<(frU x.us).length/\mvE x (i,s.2)=s/\okE (srP x) (p0P x) 0 (i,s.2):=fun s hs=>by
   obtain⟨u,hu,h1,h2,h3,h4,h5⟩:=hv.2 s hs
   obtain⟨i,hi,rfl⟩:=fr_ix hu h1
   refine⟨i,hi,?_,⟨Nat.zero_le _,hi⟩,h3,?_⟩
   ·unfold mvE;rw[h2]
   ·unfold goP
    have e0:(p0P x).nd.getD i default=((frU x.us).getD i default).nd:=nd0 hi
    show ¬ (s.2=(p0P x).nd.getD i default∨dsF (srP x) ((p0P x).nd.getD i default) s.2=INF)
    rw[e0]
    exact fun q=>q.elim h4 h5
  have key:∀ l:List Mv,(∀ s∈l,∃ i,i<(frU x.us).length/\mvE x (i,s.2)=s/\okE (srP x) (p0P x) 0 (i,s.2))->∃ il:List (Nat × Int),il.map (mvE x)=l/\∀ e∈il,e.1<(frU x.us).length/\okE (srP x) (p0P x) 0 e:=by
   intro l
   induction l with
   |nil=>exact fun _=>⟨[],rfl,fun e he=>by cases he⟩
   |cons s l ih=>
    intro h
    obtain⟨i,hi,e1,e2⟩:=h s (by simp)
    obtain⟨il,h1,h2⟩:=ih fun s hs=>h s (List.mem_cons_of_mem _ hs)
    refine⟨(i,s.2)::il,by rw[List.map_cons,e1,h1],fun e he=>?_⟩
    rcases List.mem_cons.1 he with rfl|he
    ·exact⟨hi,e2⟩
    ·exact h2 e he
  obtain⟨il,rfl,h2⟩:=key l hx
  refine⟨pushL (srP x) (p0P x) il,(en_mem _ _ _ _).2 ⟨il,⟨by rw[List.length_map]at hl;exact hl,?_,fun e he=>(h2 e he).2⟩,rfl⟩,?_⟩
  ·have:=hv.1
   rw[List.pairwise_map]at this
   exact List.Pairwise.imp_of_mem (fun {a b} ha hb r=>(fr_lt hd (h2 a ha).1 (h2 b hb).1).1 r) this
  ·rw[push_mv];rfl
def nnS (u:Un) (a:Int) (s:Mv):Int:=if s.1=u.id then s.2 else a
def nnL (l:List Mv) (u:Un):Int:=l.foldl (nnS u) u.nd
theorem push_nd {x:PlX} (hd:dstU x.us=true):∀(il:List (Nat × Int)) (p:Pos) (g:Un->Int),(∀ e∈il,e.1<(frU x.us).length)->p.nd=(frU x.us).map g->(pushL (srP x) p il).nd=(frU x.us).map fun u=>(il.map (mvE x)).foldl (nnS u) (g u)
 | [],p,g,_,h=>h
 |e::il,p,g,hi,h=>by
  have he:=hi e (by simp)
  have e1:(pushP (srP x) p e.1 e.2).nd=(frU x.us).map fun u=>nnS u (g u) (mvE x e):=by
   show p.nd.set e.1 e.2=_
   rw[h]
   refine List.ext_getElem (by simp) fun j h1 h2=>?_
   have hj:j<(frU x.us).length:=by simpa using h2
   rw[List.getElem_set,List.getElem_map,List.getElem_map]
   show(if e.1=j then e.2 else g (frU x.us)[j])=nnS (frU x.us)[j] (g (frU x.us)[j]) (mvE x e)
   have e2:(mvE x e).1=(frU x.us)[e.1].id:=by unfold mvE;rw[g_un he]
   have e3:(mvE x e).2=e.2:=rfl
   unfold nnS
   rw[e2,e3]
   have:=List.pairwise_iff_getElem.1 (fr_up hd)
   by_cases q:e.1=j
   ·rw[if_pos q,if_pos (by simp only[q])]
   ·rw[if_neg q,if_neg]
    rcases Nat.lt_or_gt_of_ne q with r|r
    ·have:=this _ _ he hj r;omega
    ·have:=this _ _ hj he r;omega
  have:=push_nd hd il (pushP (srP x) p e.1 e.2) _ (fun f hf=>hi f (by simp[hf])) e1
  unfold pushL at this ⊢
  rw[List.foldl_cons,this]
  rfl
theorem app_nd {us:List Un} (hd:dstU us=true):∀(l:List Mv) (o:List Un) (g:Un->Int),(∀ s∈l,0<=fndU us s.1)->o=us.map (fun u=>{ u with nd:=g u })->l.foldl (putU us) o=us.map fun u=>{ u with nd:=l.foldl (nnS u) (g u)}
 | [],o,g,_,h=>h
 |s::l,o,g,hi,h=>by
  have h0:=hi s (by simp)
  have e1:putU us o s=us.map fun u=>{ u with nd:=nnS u (g u) s }:=by
   unfold putU
   rcases fnd_cases us s.1 with⟨k,h1,h2,h3,_⟩|⟨h1,_⟩
   ·rw[h2,Int.toNat_natCast,h]
    rw[g_un h1]at h3
    refine List.ext_getElem (by simp) fun j q1 q2=>?_
    have hj:j<us.length:=by simpa using q2
    rw[List.getElem_set,List.getElem_map,List.getElem_map]
    unfold nnS
    by_cases q:k=j
    ·subst q
     rw[if_pos rfl,if_pos h3.symm,List.getD_eq_getElem?_getD,List.getElem?_map,List.getElem?_eq_getElem h1]
     rfl
    ·rw[if_neg q,if_neg]
     intro r
     exact q (ix_inj hd h1 hj (h3.trans r))
   ·omega
  rw[List.foldl_cons]
  exact app_nd hd l _ _ (fun f hf=>hi f (by simp[hf])) e1
theorem va_fnd {x:PlX} (hd:dstU x.us=true) {s:Mv} (h:vaM x s):0<=fndU x.us s.1/\∃ u∈x.us,x.us.getD (fndU x.us s.1).toNat default=u/\u.st=1/\u.id=s.1/\s.2∈tgP x/\s.2≠u.nd/\dsF (srP x) u.nd s.2≠INF:=by
 obtain⟨u,hu,h1,h2,h3,h4,h5⟩:=h
 have:=fnd_mem hd hu
 rw[h2]at this
 exact⟨this.1,u,hu,this.2,h1,h2,h3,h4,h5⟩
structure SrOk (x:PlX):Prop where
 g:GOk x.g
 n:x.g.n<=4096
 tg:∀ v∈tgP x,0<=v/\v<x.g.n
theorem va_ok {x:PlX} (hx:SrOk x) (hd:dstU x.us=true) {l:List Mv} (h:vaL x l):okMs x.us l=true:=by
 unfold okMs
 rw[hd,Bool.true_and]
 refine decide_eq_true fun i hi=>?_
 have hg:∀ j (hj:j<l.length),l.getD j default=l[j]:=fun j hj=>by rw[List.getD_eq_getElem?_getD,List.getElem?_eq_getElem hj];rfl
 have hs:=h.2 l[i] (List.getElem_mem _)
 obtain⟨h0,u,hu,e,h1,h2,h3,h4,h5⟩:=va_fnd hd hs
 unfold okM
 rw[hg i hi,e]
 have ht:=hx.tg _ h3
 refine⟨h0,h1,?_,⟨ht.1,by have:=hx.n;omega⟩,h4⟩
 rcases Nat.eq_zero_or_pos i with q|q
 ·exact .inl q
 ·right
  rw[hg (i-1) (by omega)]
  exact List.pairwise_iff_getElem.1 h.1 (i-1) i (by omega) hi (by omega)
theorem dist_set (g:Gr) (ts:List Int) {a b:List Int} (h:∀ v,v∈a↔v∈b) (fwd:Bool):distG g ts a fwd=distG g ts b fwd:=by
 have:isSrc a=isSrc b:=by
  funext v
  have:=h v
  rw[Bool.eq_iff_iff,isSrc_iff,isSrc_iff,h]
 unfold distG
 rw[this]
def waA (x:PlX) (l:List Mv):Int:=(worstF (distG x.g x.ts (freeL (appU x.us l)) true) (tgP x)).1
def tkD (x:PlX) (s:Mv):Int:=dsF (srP x) (x.us.getD (fndU x.us s.1).toNat default).nd s.2
def tkS (x:PlX) (l:List Mv):Int:=l.foldl (fun a s=>a+tkD x s) 0
def kP (x:PlX) (l:List Mv):Bst:=⟨true,l,waA x l,tkS x l⟩
theorem free_app {x:PlX} (hd:dstU x.us=true) {l:List Mv} (h:okMs x.us l=true) (hv:∀ s∈l,0<=fndU x.us s.1):freeL (appU x.us l)=(frL x.us).map (nnL l):=by
 rw[(ap_y h).1]
 unfold appA
 rw[List.take_length,app_nd hd l x.us (fun u=>u.nd) hv (by simp)]
 unfold freeL frL
 rw[List.filter_map,List.map_map]
 rfl
theorem push_dur {x:PlX} (hd:dstU x.us=true):∀(il:List (Nat × Int)) (p:Pos),OkIl (srP x) p il.length 0 il->(∀ e∈il,p.nd.getD e.1 default=((frU x.us).getD e.1 default).nd)->(pushL (srP x) p il).dur=(il.map (mvE x)).foldl (fun a s=>a+tkD x s) p.dur
 | [],p,_,_=>rfl
 |e::il,p,h,hn=>by
  have he:=h.ok e (by simp)
  have hu:=List.pairwise_cons.1 h.up
  have e1:(pushP (srP x) p e.1 e.2).dur=p.dur+tkD x (mvE x e):=by
   show p.dur+dsF (srP x) (p.nd.getD e.1 default) e.2=_
   rw[hn e (by simp)]
   have hi:=fr_in (us:=x.us) he.1.2
   have:=(fnd_mem hd hi.1).2
   unfold tkD mvE
   simp only
   rw[this]
  have:=push_dur hd il (pushP (srP x) p e.1 e.2) ⟨Nat.le_refl _,hu.2,fun f hf=>⟨⟨Nat.zero_le _,(h.ok f (by simp[hf])).1.2⟩,(h.ok f (by simp[hf])).2.1,(goP_push (hu.1 f hf)).2 (h.ok f (by simp[hf])).2.2⟩⟩ (fun f hf=>by
   show(p.nd.set e.1 e.2).getD f.1 default=_
   rw[set_other (by have:=hu.1 f hf;omega)]
   exact hn f (by simp[hf]))
  unfold pushL at this ⊢
  rw[List.foldl_cons,this,e1,List.map_cons,List.foldl_cons]
theorem en_at {x:PlX} (hx:SrOk x) (hd:dstU x.us=true) {m:Nat} {q:Pos} (hq:q∈enP (srP x) m 0 (p0P x)):toB (srP x) q=kP x q.mv:=by
 have hv:=(en_va hd).1 ⟨q,hq,rfl⟩
 obtain⟨il,h,rfl⟩:=(en_mem _ _ _ _).1 hq
 have ho:=va_ok hx hd hv.2
 have hf:∀ s∈(pushL (srP x) (p0P x) il).mv,0<=fndU x.us s.1:=fun s hs=>(va_fnd hd (hv.2.2 s hs)).1
 have e1:waitF (srP x) (pushL (srP x) (p0P x) il).nd=waA x (pushL (srP x) (p0P x) il).mv:=by
  rw[wait_is (x:=srP x) hx.g hx.tg]
  unfold waA
  rw[free_app hd ho hf]
  have e2:=push_nd hd il (p0P x) (fun u=>u.nd) (fun e he=>(h.ok e he).1.2) rfl
  rw[e2]
  have e3:(pushL (srP x) (p0P x) il).mv=il.map (mvE x):=by rw[push_mv];rfl
  rw[e3]
  show(worstF (distG x.g x.ts _ true) (tgP x)).1=_
  rw[dist_set x.g x.ts (a:=(frU x.us).map fun u=>(il.map (mvE x)).foldl (nnS u) u.nd) (b:=(frL x.us).map (nnL (il.map (mvE x)))) (fun v=>by
   exact((srtU_perm (frL x.us)).map _).mem_iff) true]
 have e2:(pushL (srP x) (p0P x) il).dur=tkS x (pushL (srP x) (p0P x) il).mv:=by
  rw[push_dur hd il (p0P x) ⟨Nat.le_refl _,h.up,h.ok⟩ (fun e he=>nd0 (h.ok e he).1.2),push_mv]
  rfl
 unfold toB kP
 rw[e1,e2]
theorem bst_ex (x:PlX):bstP x=exF (srP x) x.max.toNat 0 (p0P x) {}:=rfl
theorem bst_spec {x:PlX} (hx:SrOk x) (hd:dstU x.us=true):∃ l,(l.length<=x.max.toNat/\vaL x l)/\bstP x=kP x l/\∀ l',l'.length<=x.max.toNat->vaL x l'->¬ ltB (kP x l') (kP x l):=by
 rw[bst_ex]
 obtain⟨⟨q,hq,e⟩,h2⟩:=ex_min (x:=srP x) x.max.toNat 0 (p0P x)
 rw[en_at hx hd hq]at e
 refine⟨q.mv,(en_va hd).1 ⟨q,hq,rfl⟩,e,fun l' h1 hl=>?_⟩
 obtain⟨r,hr,rfl⟩:=(en_va (m:=x.max.toNat) hd).2 ⟨h1,hl⟩
 have:=h2 r hr
 rw[en_at hx hd hr,e]at this
 exact this
theorem va_nil (x:PlX):vaL x []:=⟨List.Pairwise.nil,fun s hs=>by cases hs⟩
end Go.Sym
namespace Go.Sym
set_option linter.unusedVariables false
set_option linter.unusedSimpArgs false
open Go.Proofs
set_option maxRecDepth 100000
set_option maxHeartbeats 4000000
def owC:CT where
 X:=List Mv
 pre:=fun l=>l.length<=60
 args:=fun l=>[.sl 100001 0 l.length]
 g0:=fun l=>[(100001,.rows .bor kM l.length (encL encM l))]
 res:=fun l=>.sl 1 0 l.length
 g1:=fun l=>[(1,.rows .own kM l.length (encL encM l))]
theorem ow_s {l:List Mv} {k:Nat} (h:(k:Int)<l.length):l.take k++[((l.getD (0+(k:Int).toNat) default).1,(l.getD (0+(k:Int).toNat) default).2)]=l.take (k+1):=by
 rw[Nat.zero_add,show(k:Int).toNat=k from rfl,take_succ_getD (d:=default) (by omega)]
theorem ow_len {l:List Mv} {k:Nat} (h:k<=l.length):(l.take k).length=k:=by rw[List.length_take];omega
theorem ow_r {l:List Mv} {k m:Nat} (h:(k:Int)<l.length) (hm:m<=(l.take k).length+1):RowsEq kM m (appRows k (encL encM (l.take k)) 0 (litRows [[D.i (l.getD (0+(k:Int).toNat) default).1,D.i (l.getD (0+(k:Int).toNat) default).2]])) (encL encM (l.take (k+1))):=by
 rw[<- ow_s h]
 exact rowsEq_push (ow_len (by omega)).symm hm ⟨rfl,rfl,trivial⟩
theorem ow_t {l:List Mv} {k:Nat} (h:¬ (k:Int)<l.length):l.take k=l:=List.take_of_length_le (by omega)
def owI (l:List Mv) (id:Nat):Option Inv:=match id with
 |0=>some { X:=Nat,ok:=fun i=>i<=l.length,fr:=fun i=>[(3,.sl 361 0 i),(6,.sl 100001 0 l.length),(7,.i .i64 l.length),(8,.i .i64 i)],hp:=fun i=>[(100001,.rows .bor kM l.length (encL encM l)),(361,.rows .own kM i (encL encM (l.take i)))],me:=fun i=>l.length-i }
 |_=>none
end Go.Sym