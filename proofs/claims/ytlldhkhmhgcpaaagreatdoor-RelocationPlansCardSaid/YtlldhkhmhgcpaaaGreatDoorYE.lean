import Derived.Test.YtlldhkhmhgcpaaaGreatDoorAR
import Derived.Test.YtlldhkhmhgcpaaaGreatDoorEV
import Derived.Test.YtlldhkhmhgcpaaaGreatDoorXD
namespace Go.Sym
set_option linter.unusedVariables false
set_option linter.unusedSimpArgs false
open Go.Proofs Go.RowKit
set_option maxRecDepth 100000
set_option maxHeartbeats 8000000
structure RyX where
 g:Gr
 ts:List Int
 us:List Un
 nd:List Int
 m:Nat
structure RyOk (x:RyX):Prop where
 g:GOk x.g
 n:x.g.n<=12
 us:x.us.length<=7
 nd:x.nd.length<=10
 m:x.m<=3
def ryK (x:RyX) (s:Mv):Int:=tkU ⟨x.g,x.ts,x.us,s⟩
def ryG (x:RyX) (u:Un) (t:Int):Prop:=t≠u.nd/\ryK x (u.id,t)<INF
instance (x:RyX) (u:Un) (t:Int):Decidable (ryG x u t):=by unfold ryG;infer_instance
def ryC (x:RyX) (l:List Mv) (u:Un) (k:Nat):List (List Mv):=(x.nd.take k).flatMap fun t=>if ryG x u t then [l++[(u.id,t)]]else []
def rySk (m:Nat) (l:List Mv) (u:Un):Prop:=u.st≠1∨(0<l.length/\u.id<=(l.getD (l.length-1) default).1)∨l.length<m
instance (m:Nat) (l:List Mv) (u:Un):Decidable (rySk m l u):=by unfold rySk;infer_instance
def ryB (x:RyX) (m:Nat) (l:List Mv) (j:Nat):List (List Mv):=(x.us.take j).flatMap fun u=>if rySk m l u then []else ryC x l u x.nd.length
def ryF (x:RyX) (m:Nat) (l:List Mv):List (List Mv):=ryB x m l x.us.length++if 0<l.length then [l]else []
def ryL (x:RyX):Nat->List (List Mv)
 |0=>[[]]
 |m+1=>[]::(ryL x m).flatMap (ryF x m)
def ryA (x:RyX) (m k:Nat):List (List Mv):=[]::((ryL x m).take k).flatMap (ryF x m)
def ryN (x:RyX):Nat:=(ryL x (x.m-1)).length
def ryl (x:RyX) (k:Nat):List Mv:=(ryL x (x.m-1)).getD k default
def ryu (x:RyX) (j:Nat):Un:=x.us.getD j default
def ry0 (x:RyX) (k:Nat):List (List Mv):=ryA x (x.m-1) k
def ry2 (x:RyX) (k j:Nat):List (List Mv):=ry0 x k++ryB x (x.m-1) (ryl x k) j
def ry4 (x:RyX) (k j t:Nat):List (List Mv):=ry2 x k j++ryC x (ryl x k) (ryu x j) t
def kLs:List Kd:=[.sl kM]
def encLs (l:List Mv):Nat->D:=encN [.l l.length (encL encM l)]
theorem ryC_len (x:RyX) (l:List Mv) (u:Un) (k:Nat):(ryC x l u k).length<=x.nd.length:=by
 have key:∀ ns:List Int,(ns.flatMap fun t=>if ryG x u t then [l++[(u.id,t)]]else []).length<=ns.length:=by
  intro ns
  induction ns with
  |nil=>exact Nat.le_refl _
  |cons t ns ih=>
   rw[List.flatMap_cons,List.length_append,List.length_cons]
   have:(if ryG x u t then [l++[(u.id,t)]]else []).length<=1:=by split <;>simp
   omega
 have:=key (x.nd.take k)
 have h2:(x.nd.take k).length<=x.nd.length:=by rw[List.length_take];omega
 unfold ryC
 omega
theorem ryB_len {x:RyX} (h:RyOk x) (m:Nat) (l:List Mv) (j:Nat):(ryB x m l j).length<=70:=by
 have key:∀ us:List Un,(us.flatMap fun u=>if rySk m l u then []else ryC x l u x.nd.length).length<=10*us.length:=by
  intro us
  induction us with
  |nil=>exact Nat.le_refl _
  |cons u us ih=>
   rw[List.flatMap_cons,List.length_append,List.length_cons]
   have:(if rySk m l u then []else ryC x l u x.nd.length).length<=10:=by
    split
    ·exact Nat.zero_le _
    ·exact Nat.le_trans (ryC_len x l u _) h.nd
   omega
 have:=key (x.us.take j)
 have h2:(x.us.take j).length<=x.us.length:=by rw[List.length_take];omega
 have:=h.us
 unfold ryB
 omega
theorem ryF_len {x:RyX} (h:RyOk x) (m:Nat) (l:List Mv):(ryF x m l).length<=71:=by
 have:=ryB_len h m l x.us.length
 have h2:(if 0<l.length then [l]else []).length<=1:=by split <;>simp
 unfold ryF
 rw[List.length_append]
 omega
theorem ryA_len {x:RyX} (h:RyOk x) (m k:Nat):(ryA x m k).length<=1+71*(ryL x m).length:=by
 have key:∀ ls:List (List Mv),(ls.flatMap (ryF x m)).length<=71*ls.length:=by
  intro ls
  induction ls with
  |nil=>exact Nat.le_refl _
  |cons l ls ih=>
   rw[List.flatMap_cons,List.length_append,List.length_cons]
   have:=ryF_len h m l
   omega
 have:=key ((ryL x m).take k)
 have h2:((ryL x m).take k).length<=(ryL x m).length:=by rw[List.length_take];omega
 unfold ryA
 rw[List.length_cons]
 omega
theorem ryA_all (x:RyX) {m k:Nat} (h:(ryL x m).length<=k):ryA x m k=ryL x (m+1):=by
 unfold ryA
 rw[List.take_of_length_le h]
 rfl
theorem ryL_len {x:RyX} (h:RyOk x):∀ m,m<=3->(ryL x m).length<=100 ^ m
 |0,_=>Nat.le_refl _
 |m+1,hm=>by
  rw[<- ryA_all x (Nat.le_refl _)]
  have h1:=ryA_len h m (ryL x m).length
  have h2:=ryL_len h m (by omega)
  have h3:1<=100 ^ m:=Nat.one_le_pow _ _ (by decide)
  rw[Nat.pow_succ]
  omega
theorem ryL_le {x:RyX} (h:RyOk x) {m:Nat} (hm:m<=3):(ryL x m).length<=1000000:=by
 refine Nat.le_trans (ryL_len h m hm) (Nat.le_trans (Nat.pow_le_pow_right (by decide) hm) (by decide))
theorem ry0_le {x:RyX} (h:RyOk x) (k:Nat):(ry0 x k).length<=71000001:=by
 have:=ryA_len h (x.m-1) k
 have:=ryL_le h (m:=x.m-1) (by have:=h.m;omega)
 unfold ry0
 omega
theorem ry2_le {x:RyX} (h:RyOk x) (k j:Nat):(ry2 x k j).length<=71000071:=by
 have:=ry0_le h k
 have:=ryB_len h (x.m-1) (ryl x k) j
 unfold ry2
 rw[List.length_append]
 omega
theorem ry4_le {x:RyX} (h:RyOk x) (k j t:Nat):(ry4 x k j t).length<=71000081:=by
 have:=ry2_le h k j
 have:=ryC_len x (ryl x k) (ryu x j) t
 have:=h.nd
 unfold ry4
 rw[List.length_append]
 omega
theorem ry_short {x:RyX}:∀ m,∀ l∈ryL x m,l.length<=m
 |0,l,h=>by
  have:l=[]:=by simpa[ryL]using h
  subst this
  exact Nat.le_refl _
 |m+1,l,h=>by
  unfold ryL at h
  rcases List.mem_cons.1 h with rfl|h
  ·exact Nat.zero_le _
  ·obtain⟨l0,h0,h⟩:=List.mem_flatMap.1 h
   have:=ry_short m l0 h0
   unfold ryF at h
   rcases List.mem_append.1 h with h|h
   ·unfold ryB at h
    obtain⟨u,hu,h⟩:=List.mem_flatMap.1 h
    split at h
    ·cases h
    ·unfold ryC at h
     obtain⟨t,ht,h⟩:=List.mem_flatMap.1 h
     split at h
     ·rw[List.mem_singleton.1 h,List.length_append]
      simp only[List.length_cons,List.length_nil]
      omega
     ·cases h
   ·split at h
    ·rw[List.mem_singleton.1 h];omega
    ·cases h
theorem ryl_len {x:RyX} (h:RyOk x) {k:Nat} (hk:k<ryN x):(ryl x k).length<=3:=by
 have hm:ryl x k∈ryL x (x.m-1):=by
  unfold ryl
  rw[List.getD_eq_getElem?_getD,List.getElem?_eq_getElem hk]
  exact List.getElem_mem _
 have:=ry_short _ _ hm
 have:=h.m
 omega
def ryCt (M:Nat):CT where
 X:=RyX
 pre:=fun x=>RyOk x/\x.m<M
 args:=fun x=>[netA x.g,.sl 100001 0 x.ts.length,.sl 100002 0 x.us.length,.sl 100003 0 x.nd.length,.i .i64 x.m]
 g0:=fun x=>[(100000,.rows .bor kE x.g.es.length (encL encE x.g.es)),(100001,.rows .bor k1 x.ts.length (encL encI x.ts)),(100002,.rows .bor kU x.us.length (encL encU x.us)),(100003,.rows .bor k1 x.nd.length (encL encI x.nd))]
 res:=fun x=>.sl 1 0 (ryL x x.m).length
 g1:=fun x=>[(1,.rows .own kLs (ryL x x.m).length (encL encLs (ryL x x.m)))]
def ryI (x:RyX) (id:Nat):Option Inv:=match id with
 | 0 => some { X := Nat, ok := fun k => k <= ryN x /\ 0 < x.m, fr := fun k => [(11, .sl 391 0 (ry0 x k).length), (29, .sl 392 0 (ryN x)), (30, .i .i64 (ryN x)), (31, .i .i64 k)],
               hp:=fun k=>[(391,.rows .own kLs (ry0 x k).length (encL encLs (ry0 x k))),(392,.rows .own kLs (ryN x) (encL encLs (ryL x (x.m-1))))],me:=fun k=>ryN x-k,
               inn:=fun k id=>match id with
                | 2 => some { X := Nat, ok := fun j => j <= x.us.length, fr := fun j => [(11, .sl 393 0 (ry2 x k j).length), (35, .sl 100002 0 x.us.length), (36, .i .i64 x.us.length), (37, .i .i64 j)],
                              hp:=fun j=>[(393,.rows .own kLs (ry2 x k j).length (encL encLs (ry2 x k j)))],me:=fun j=>x.us.length-j,
                              inn:=fun j id=>match id with
                               |100067=>some (cutB 67 (decide (rySk (x.m-1) (ryl x k) (ryu x j))))
                               | 4 => some { X := Nat, ok := fun t => t <= x.nd.length /\ ¬ rySk (x.m - 1) (ryl x k) (ryu x j), fr := fun t => [(11, .sl 394 0 (ry4 x k j t).length), (68, .sl 100003 0 x.nd.length), (69, .i .i64 x.nd.length), (70, .i .i64 t)],
                                             hp:=fun t=>[(394,.rows .own kLs (ry4 x k j t).length (encL encLs (ry4 x k j t)))],me:=fun t=>x.nd.length-t,
                                             inn:=fun t id=>match id with
                                              |100089=>some (cutB 89 (decide (ryG x (ryu x j) (x.nd.getD t default))))
                                              |_=>none }
                               |_=>none }
                |_=>none }
 |_=>none
def cfgRy (M:Nat):Cfg:=⟨T,[],[(44,.one tkC),(36,.one (ryCt M))],noInv,110,{ kn:=true }⟩
theorem ry_at (x:RyX) (k:Nat):(ryL x (x.m-1)).getD (0+(k:Int).toNat) default=ryl x k:=by rw[nat0];rfl
theorem ry_l0 {x:RyX} (h:(x.m:Int)<1):ryL x x.m=[[]]:=by
 rw[show x.m=0 by omega]
 rfl
theorem ry0_0 (x:RyX):ry0 x 0=[[]]:=by simp[ry0,ryA]
theorem ry2_0 (x:RyX) (k:Nat):ry2 x k 0=ry0 x k:=by simp[ry2,ryB]
theorem ry4_0 (x:RyX) (k j:Nat):ry4 x k j 0=ry2 x k j:=by simp[ry4,ryC]
theorem ry4_y {x:RyX} {k j t:Nat} (ht:(t:Int)<x.nd.length) (h:ryG x (ryu x j) (x.nd.getD t default)):ry4 x k j (t+1)=ry4 x k j t++[ryl x k++[((ryu x j).id,x.nd.getD t default)]]:=by
 unfold ry4 ryC
 rw[take_succ_getD (d:=default) (by omega),List.flatMap_append,List.append_assoc]
 congr 2
 simp only[List.flatMap_cons,List.flatMap_nil,List.append_nil]
 rw[if_pos h]
theorem ry4_n {x:RyX} {k j t:Nat} (ht:(t:Int)<x.nd.length) (h:¬ ryG x (ryu x j) (x.nd.getD t default)):ry4 x k j (t+1)=ry4 x k j t:=by
 unfold ry4 ryC
 rw[take_succ_getD (d:=default) (by omega),List.flatMap_append]
 simp only[List.flatMap_cons,List.flatMap_nil,List.append_nil]
 rw[if_neg h,List.append_nil]
theorem ry2_s {x:RyX} {k j:Nat} (hj:(j:Int)<x.us.length):ry2 x k (j+1)=ry2 x k j++if rySk (x.m-1) (ryl x k) (ryu x j)then []else ryC x (ryl x k) (ryu x j) x.nd.length:=by
 unfold ry2 ryB
 rw[take_succ_getD (d:=default) (by omega),List.flatMap_append,List.append_assoc]
 simp only[List.flatMap_cons,List.flatMap_nil,List.append_nil]
 rfl
theorem ry2_k {x:RyX} {k j:Nat} (hj:(j:Int)<x.us.length) (h:rySk (x.m-1) (ryl x k) (ryu x j)):ry2 x k (j+1)=ry2 x k j:=by
 rw[ry2_s hj,if_pos h,List.append_nil]
theorem ry2_e {x:RyX} {k j t:Nat} (hj:(j:Int)<x.us.length) (h:¬ rySk (x.m-1) (ryl x k) (ryu x j)) (ht:¬ (t:Int)<x.nd.length):ry4 x k j t=ry2 x k (j+1):=by
 rw[ry2_s hj,if_neg h]
 unfold ry4 ryC
 rw[List.take_of_length_le (by omega),List.take_of_length_le (Nat.le_refl _)]
theorem ry0_s {x:RyX} {k j:Nat} (hk:(k:Int)<ryN x) (hj:¬ (j:Int)<x.us.length):ry0 x (k+1)=ry2 x k j++if 0<(ryl x k).length then [ryl x k]else []:=by
 unfold ry0 ryA
 rw[take_succ_getD (d:=default) (by unfold ryN at hk;omega),List.flatMap_append,<- List.cons_append]
 unfold ry2 ry0 ryA ryF
 simp only[List.flatMap_cons,List.flatMap_nil,List.append_nil]
 rw[List.append_assoc]
 congr 2
 unfold ryB
 rw[List.take_of_length_le (Nat.le_refl _),List.take_of_length_le (by omega)]
 rfl
theorem ry0_y {x:RyX} {k j:Nat} (hk:(k:Int)<ryN x) (hj:¬ (j:Int)<x.us.length) (h:0<(((ryL x (x.m-1)).getD (0+(k:Int).toNat) default).length:Int)):ry0 x (k+1)=ry2 x k j++[ryl x k]:=by
 rw[ry_at]at h
 rw[ry0_s hk hj,if_pos (by omega)]
theorem ry0_n {x:RyX} {k j:Nat} (hk:(k:Int)<ryN x) (hj:¬ (j:Int)<x.us.length) (h:¬ 0<(((ryL x (x.m-1)).getD (0+(k:Int).toNat) default).length:Int)):ry2 x k j=ry0 x (k+1):=by
 rw[ry_at]at h
 rw[ry0_s hk hj,if_neg (by omega),List.append_nil]
theorem ry_end {x:RyX} {k:Nat} (h:k<=ryN x/\0<x.m) (hk:¬ (k:Int)<ryN x):ry0 x k=ryL x x.m:=by
 unfold ry0
 rw[ryA_all x (by unfold ryN at hk;omega),show x.m-1+1=x.m by omega]
theorem ry_one:RowsEq kLs 1 (litRows [[D.l 0 fun _ _=>D.i 0]]) (encL encLs [[]]):=by
 refine⟨fun r hr=>?_⟩
 cases r with
 |zero=>exact⟨⟨rfl,fun r hr=>absurd hr (Nat.not_lt_zero _)⟩,trivial⟩
 |succ r=>omega
theorem pushLs {L:List (List Mv)} {v:List Mv} {c:Nat} {f:Nat->Nat->D} (hc:c=v.length) (hf:RowsEq kM v.length f (encL encM v)):RowsEq kLs (L++[v]).length (appRows L.length (encL encLs L) 0 (litRows [[.l c f]])) (encL encLs (L++[v])):=by
 subst hc
 rw[List.length_append]
 exact rowsEq_push rfl (Nat.le_refl _) ⟨⟨rfl,hf.h⟩,trivial⟩
theorem ry_row {l : List Mv} {i t : Int} : RowsEq kM (l ++ [(i, t)]).length (fun r c =>
            if 0+r<0+l.length then
             if 0+r<0 then(([]:List (List D)).getD (0+r) []).getD c (D.i 0)
             else encN [D.i (l.getD (0+(0+r-0)) default).fst,D.i (l.getD (0+(0+r-0)) default).snd] c
            else([[D.i i,D.i t]].getD (0+(0+r-(0+l.length))) []).getD c (D.i 0)) (encL encM (l++[(i,t)])):=by
 refine⟨fun r hr=>?_⟩
 rw[List.length_append]at hr
 have hr:r<l.length+1:=hr
 by_cases h:r<l.length
 ·have e:encL encM (l++[(i,t)]) r=encM (l.getD r default):=by
   unfold encL
   rw[List.getD_eq_getElem?_getD,List.getElem?_append_left h,<- List.getD_eq_getElem?_getD]
  simp only[rowEq,Kd.eqv,kM]
  rw[if_pos (show 0+r<0+l.length by omega),if_pos (show 0+r<0+l.length by omega),if_neg (show ¬ 0+r<0 by omega),if_neg (show ¬ 0+r<0 by omega),e,show 0+(0+r-0)=r by omega]
  exact⟨rfl,rfl,trivial⟩
 ·have e0:r=l.length:=by omega
  subst e0
  have e:encL encM (l++[(i,t)]) l.length=encM (i,t):=by
   unfold encL
   rw[List.getD_eq_getElem?_getD,List.getElem?_append_right (Nat.le_refl _),Nat.sub_self]
   rfl
  simp only[rowEq,Kd.eqv,kM]
  rw[if_neg (show ¬ 0+l.length<0+l.length by omega),if_neg (show ¬ 0+l.length<0+l.length by omega),e,show 0+(0+l.length-(0+l.length))=0 by omega]
  exact⟨rfl,rfl,trivial⟩
theorem ry_lit {x:RyX} {k j t:Nat} (ht:(t:Int)<x.nd.length) (h:ryG x (ryu x j) (x.nd.getD t default)):RowsEq kLs (ry4 x k j (t+1)).length
 (appRows (ry4 x k j t).length (encL encLs (ry4 x k j t)) 0
  (litRows
   [[D.l (0 + ((ryL x (x.m - 1)).getD (0 + (k : Int).toNat) default).length + 1) fun r c =>
         if 0+r<0+((ryL x (x.m-1)).getD (0+(k:Int).toNat) default).length then
          if 0+r<0 then(([]:List (List D)).getD (0+r) []).getD c (D.i 0)
          else
           encN
            [D.i (((ryL x (x.m-1)).getD (0+(k:Int).toNat) default).getD (0+(0+r-0)) default).fst,
             D.i (((ryL x (x.m-1)).getD (0+(k:Int).toNat) default).getD (0+(0+r-0)) default).snd]
            c
         else
          ([[D.i (x.us.getD (0 + (j : Int).toNat) default).id, D.i (x.nd.getD (0 + (t : Int).toNat) default)]].getD (0 + (0 + r - (0 + ((ryL x (x.m - 1)).getD (0 + (k : Int).toNat) default).length)))
                []).getD
           c (D.i 0)]]))
 (encL encLs (ry4 x k j (t+1))):=by
 rw[ry4_y ht h,ry_at,nat0,nat0]
 exact pushLs (by simp) ry_row
theorem ry_lit2 {x:RyX} {k j:Nat} (hk:(k:Int)<ryN x) (hj:¬ (j:Int)<x.us.length) (h:0<(((ryL x (x.m-1)).getD (0+(k:Int).toNat) default).length:Int)):RowsEq kLs (ry0 x (k+1)).length
 (appRows (ry2 x k j).length (encL encLs (ry2 x k j)) 0
  (litRows
   [[D.l ((ryL x (x.m - 1)).getD (0 + (k : Int).toNat) default).length fun r c =>
         encN [D.i (((ryL x (x.m-1)).getD (0+(k:Int).toNat) default).getD (0+r) default).fst,D.i (((ryL x (x.m-1)).getD (0+(k:Int).toNat) default).getD (0+r) default).snd] c]]))
 (encL encLs (ry0 x (k+1))):=by
 rw[ry0_y hk hj h,ry_at]
 refine pushLs rfl ⟨fun r hr=>?_⟩
 rw[show 0+r=r from Nat.zero_add r]
 exact⟨rfl,rfl,trivial⟩
theorem ry_ok {x:RyX} (h:RyOk x):RyOk ⟨x.g,x.ts,x.us,x.nd,x.m-1⟩:=⟨h.g,h.n,h.us,h.nd,by have:=h.m;show x.m-1<=3;omega⟩
theorem ryL_same (g:Gr) (ts:List Int) (us:List Un) (nd:List Int) (m m':Nat):∀ k,ryL ⟨g,ts,us,nd,m⟩ k=ryL ⟨g,ts,us,nd,m'⟩ k
 |0=>rfl
 |k+1=>by
  unfold ryL
  rw[ryL_same g ts us nd m m' k]
  rfl
theorem ry_rec (x:RyX):ryL ⟨x.g,x.ts,x.us,x.nd,x.m-1⟩ (x.m-1)=ryL x (x.m-1):=ryL_same _ _ _ _ _ _ _
theorem sk_1 {x:RyX} {k j:Nat} (h1:¬ (x.us.getD (0+(j:Int).toNat) default).st≠1) (h2:¬ (0<(((ryL x (x.m-1)).getD (0+(k:Int).toNat) default).length:Int))∨¬ (x.us.getD (0+(j:Int).toNat) default).id<=(((ryL x (x.m-1)).getD (0+(k:Int).toNat) default).getD (0+((((ryL x (x.m-1)).getD (0+(k:Int).toNat) default).length:Int)-1).toNat) default).fst) (hm:¬ (x.m:Int)<1):
  decide ((((ryL x (x.m-1)).getD (0+(k:Int).toNat) default).length:Int)<x.m-1)=decide (rySk (x.m-1) (ryl x k) (ryu x j)):=by
 rw[ry_at,subK]at h2
 rw[ry_at]
 rw[nat0]at h1 h2
 refine decide_eq_decide.2 ⟨fun q=>.inr (.inr (by omega)),fun q=>?_⟩
 rcases q with q|q|q
 ·exact absurd q h1
 ·rcases h2 with h2|h2
  ·omega
  ·exact absurd q.2 h2
 ·omega
theorem sk_2 {x:RyX} {k j:Nat} (h:(x.us.getD (0+(j:Int).toNat) default).st≠1):true=decide (rySk (x.m-1) (ryl x k) (ryu x j)):=by
 rw[nat0]at h
 exact(decide_eq_true (.inl h)).symm
theorem sk_3 {x:RyX} {k j:Nat} (h:0<(((ryL x (x.m-1)).getD (0+(k:Int).toNat) default).length:Int)) (h2:(x.us.getD (0+(j:Int).toNat) default).id<=(((ryL x (x.m-1)).getD (0+(k:Int).toNat) default).getD (0+((((ryL x (x.m-1)).getD (0+(k:Int).toNat) default).length:Int)-1).toNat) default).fst):true=decide (rySk (x.m-1) (ryl x k) (ryu x j)):=by
 rw[ry_at]at h
 rw[ry_at,subK,nat0]at h2
 exact(decide_eq_true (.inr (.inl ⟨by omega,h2⟩))).symm
theorem rg_1 {x:RyX} {j t:Nat} (h:x.nd.getD (0+(t:Int).toNat) default≠(x.us.getD (0+(j:Int).toNat) default).nd):decide (tkU { g:=x.g,ts:=x.ts,us:=x.us,m:=((x.us.getD (0+(j:Int).toNat) default).id,x.nd.getD (0+(t:Int).toNat) default)}<4611686018427387904)=decide (ryG x (ryu x j) (x.nd.getD t default)):=by
 rw[nat0,nat0]at*
 exact decide_eq_decide.2 ⟨fun q=>⟨h,q⟩,fun q=>q.2⟩
theorem rg_0 {x:RyX} {j t:Nat} (h:¬ x.nd.getD (0+(t:Int).toNat) default≠(x.us.getD (0+(j:Int).toNat) default).nd):false=decide (ryG x (ryu x j) (x.nd.getD t default)):=by
 rw[nat0,nat0]at h
 exact(decide_eq_false fun q=>h q.1).symm
theorem ryl_3 {x:RyX} (h:RyOk x) {k:Nat} (hk:(k:Int)<ryN x):((ryL x (x.m-1)).getD (0+(k:Int).toNat) default).length<=3:=by
 rw[ry_at]
 exact ryl_len h (by omega)
theorem ryN_le {x:RyX} (h:RyOk x):ryN x<=1000000:=ryL_le h (by have:=h.m;omega)
abbrev q79F0 (x2:RyX):Prop:=(0=0/\x2.nd.length=x2.nd.length)
theorem q79f0 {x2:RyX}:q79F0 x2:=⟨rfl,rfl⟩
abbrev q79F1 (x2:RyX):Prop:=(0=0/\x2.us.length=x2.us.length)
theorem q79f1 {x2:RyX}:q79F1 x2:=⟨rfl,rfl⟩
abbrev q79F2 (x2:RyX):Prop:=(0=0/\x2.ts.length=x2.ts.length)
theorem q79f2 {x2:RyX}:q79F2 x2:=⟨rfl,rfl⟩
abbrev q79F3 (x2:RyX):Prop:=(((x2.g.n:Int)=(x2.g.n:Int))/\((0=0/\x2.g.es.length=x2.g.es.length)/\True))
theorem q79f3 {x2:RyX}:q79F3 x2:=⟨rfl,⟨rfl,rfl⟩,trivial⟩
abbrev q79F4 (x2:RyX):Prop:=(((x2.m:Int)-1=(x2.m:Int)-1)/\(((x2.m:Int)=(x2.m:Int))/\((q79F0 x2)/\((q79F1 x2)/\((q79F2 x2)/\((q79F3 x2)/\(false=false/\(((x2.m:Int)=(x2.m:Int))/\(True/\((0=0/\0=0)/\((q79F3 x2)/\((q79F2 x2)/\((q79F1 x2)/\((q79F0 x2)/\(((x2.m:Int)=(x2.m:Int))/\True)))))))))))))))
theorem q79f4 {x2:RyX}:q79F4 x2:=⟨rfl,rfl,q79f0,q79f1,q79f2,q79f3,rfl,rfl,trivial,⟨rfl,rfl⟩,q79f3,q79f2,q79f1,q79f0,rfl,trivial⟩
abbrev q79F5 (x2:RyX):Prop:=((q79F3 x2)/\(((RLe x2.g.es.length x2.g.es.length)/\(RowsEq [.int .i64,.int .i64,.int .i64] x2.g.es.length (encL encE x2.g.es) (encL encE x2.g.es)))/\(((RLe x2.ts.length x2.ts.length)/\(RI x2.ts.length x2.ts x2.ts))/\(((RLe x2.us.length x2.us.length)/\(RowsEq kU x2.us.length (encL encU x2.us) (encL encU x2.us)))/\(((RLe x2.nd.length x2.nd.length)/\(RI x2.nd.length x2.nd x2.nd))/\True)))))
theorem q79f5 {x2:RyX}:q79F5 x2:=⟨q79f3,⟨rl,rr⟩,⟨rl,rr⟩,⟨rl,rr⟩,⟨rl,rr⟩,trivial⟩
abbrev q79F6 (x2:RyX) (x8:Nat):Prop:=(0=0/\(((ryL x2 (x2.m-(1:Nat))).getD (0+Int.toNat (x8:Int)) default).length=((ryL x2 (x2.m-(1:Nat))).getD (0+Int.toNat (x8:Int)) default).length))
theorem q79f6 {x2:RyX} {x8:Nat}:q79F6 x2 x8:=⟨rfl,rfl⟩
abbrev q79F7 (x2:RyX) (x8:Nat):Prop:=((q79F6 x2 x8)/\((q79F6 x2 x8)/\(((0+Int.toNat (x8:Int)=0+Int.toNat (x8:Int))/\0=0)/\(true=true/\((0=0/\(ryN x2=ryN x2))/\(((↑(ryN x2):Int)=(↑(ryN x2):Int))/\(((x8:Int)=(x8:Int))/\(q79F4 x2))))))))
theorem q79f7 {x2:RyX} {x8:Nat}:q79F7 x2 x8:=⟨q79f6,q79f6,⟨rfl,rfl⟩,rfl,⟨rfl,rfl⟩,rfl,rfl,q79f4⟩
abbrev q79F8 (x2:RyX):Prop:=(((RLe (ryN x2) (ryN x2))/\(RowsEq [.sl [.int .i64,.int .i64]] (ryN x2) (encL encLs (ryL x2 (x2.m-(1:Nat)))) (encL encLs (ryL x2 (x2.m-(1:Nat))))))/\(q79F5 x2))
theorem q79f8 {x2:RyX}:q79F8 x2:=⟨⟨rl,rr⟩,q79f5⟩
abbrev q79F9 (x2:RyX) (x8:Nat):Prop:=(((RLe ((ryL x2 (x2.m-(1:Nat))).getD (0+Int.toNat (x8:Int)) default).length ((ryL x2 (x2.m-(1:Nat))).getD (0+Int.toNat (x8:Int)) default).length)/\(RowsEq [.int .i64,.int .i64] ((ryL x2 (x2.m-(1:Nat))).getD (0+Int.toNat (x8:Int)) default).length (D.toF (D.l ((ryL x2 (x2.m-(1:Nat))).getD (0+Int.toNat (x8:Int)) default).length (encL encM ((ryL x2 (x2.m-(1:Nat))).getD (0+Int.toNat (x8:Int)) default)))) (D.toF (D.l ((ryL x2 (x2.m-(1:Nat))).getD (0+Int.toNat (x8:Int)) default).length (encL encM ((ryL x2 (x2.m-(1:Nat))).getD (0+Int.toNat (x8:Int)) default))))))/\(q79F8 x2))
theorem q79f9 {x2:RyX} {x8:Nat}:q79F9 x2 x8:=⟨⟨rl,rr⟩,q79f8⟩
abbrev q79F10 (x2:RyX) (x12:Nat):Prop:=(((x2.us.getD (0+Int.toNat (x12:Int)) default).id=(x2.us.getD (0+Int.toNat (x12:Int)) default).id)/\(((x2.us.getD (0+Int.toNat (x12:Int)) default).b=(x2.us.getD (0+Int.toNat (x12:Int)) default).b)/\(((x2.us.getD (0+Int.toNat (x12:Int)) default).c=(x2.us.getD (0+Int.toNat (x12:Int)) default).c)/\(((x2.us.getD (0+Int.toNat (x12:Int)) default).st=(x2.us.getD (0+Int.toNat (x12:Int)) default).st)/\(((x2.us.getD (0+Int.toNat (x12:Int)) default).nd=(x2.us.getD (0+Int.toNat (x12:Int)) default).nd)/\(((x2.us.getD (0+Int.toNat (x12:Int)) default).f=(x2.us.getD (0+Int.toNat (x12:Int)) default).f)/\(((x2.us.getD (0+Int.toNat (x12:Int)) default).g=(x2.us.getD (0+Int.toNat (x12:Int)) default).g)/\(((x2.us.getD (0+Int.toNat (x12:Int)) default).h=(x2.us.getD (0+Int.toNat (x12:Int)) default).h)/\(((x2.us.getD (0+Int.toNat (x12:Int)) default).i=(x2.us.getD (0+Int.toNat (x12:Int)) default).i)/\(((x2.us.getD (0+Int.toNat (x12:Int)) default).j=(x2.us.getD (0+Int.toNat (x12:Int)) default).j)/\True))))))))))
theorem q79f10 {x2:RyX} {x12:Nat}:q79F10 x2 x12:=⟨rfl,rfl,rfl,rfl,rfl,rfl,rfl,rfl,rfl,rfl,trivial⟩
abbrev q79F11 (x2:RyX) (x8:Nat) (x12:Nat):Prop:=(false=false/\((0=0/\0=0)/\((q79F10 x2 x12)/\(((0+Int.toNat (x12:Int)=0+Int.toNat (x12:Int))/\0=0)/\(true=true/\((q79F1 x2)/\(((x2.us.length:Int)=(x2.us.length:Int))/\(((x12:Int)=(x12:Int))/\(q79F7 x2 x8)))))))))
theorem q79f11 {x2:RyX} {x8:Nat} {x12:Nat}:q79F11 x2 x8 x12:=⟨rfl,⟨rfl,rfl⟩,q79f10,⟨rfl,rfl⟩,rfl,q79f1,rfl,rfl,q79f7⟩
abbrev q79F12 (x2:RyX) (x8:Nat) (x12:Nat):Prop:=((q79F10 x2 x12)/\(q79F9 x2 x8))
theorem q79f12 {x2:RyX} {x8:Nat} {x12:Nat}:q79F12 x2 x8 x12:=⟨q79f10,q79f9⟩
set_option maxRecDepth 100000 in
theorem ry_keeps:∀ M:Nat,Keeps (cfgRy M) Tryz.f36 (ryCt (M+1)) ryI:=Eq.mp (show(∀ M1:Nat,(∀ x2:RyX,(((RyOk x2)/\(x2.m<M1+(1:Nat)))->(((True/\True)/\True)/\(CB (decide ((x2.m:Int)<1)) ((0=0/\((1:Nat)=(ryL x2 x2.m).length))/\((RW [.sl [.int .i64,.int .i64]] (ryL x2 x2.m).length 1 (litRows (((D.l 0 fun(x x_1:Nat)=>D.i 0)::@List.nil D)::@List.nil (List D))) (encL encLs (ryL x2 x2.m)))/\True)) ((R6 ((x2.m:Int)-1))/\(∃ x6:RyX,(((RyOk x6)/\(x6.m<M1))/\(((((x2.g.n:Int)=(x6.g.n:Int))/\((0=0/\x2.g.es.length=x6.g.es.length)/\True))/\((0=0/\x2.ts.length=x6.ts.length)/\((0=0/\x2.us.length=x6.us.length)/\((0=0/\x2.nd.length=x6.nd.length)/\(((x2.m:Int)-1=(x6.m:Int))/\True)))))/\(((RW [.int .i64,.int .i64,.int .i64] x6.g.es.length x2.g.es.length (encL encE x2.g.es) (encL encE x6.g.es))/\((RW [.int .i64] x6.ts.length x2.ts.length (encL encI x2.ts) (encL encI x6.ts))/\((RW kU x6.us.length x2.us.length (encL encU x2.us) (encL encU x6.us))/\((RW [.int .i64] x6.nd.length x2.nd.length (encL encI x2.nd) (encL encI x6.nd))/\True))))/\(∃ x7:Nat,((((x7<=ryN x2)/\(0<x2.m))/\(((0=0/\((1:Nat)=(ry0 x2 x7).length))/\((0=0/\((ryL x6 x6.m).length=ryN x2))/\(((↑(ryL x6 x6.m).length:Int)=(↑(ryN x2):Int))/\((0=(x7:Int))/\(q79F4 x2)))))/\((RW [.sl [.int .i64,.int .i64]] (ry0 x2 x7).length 1 (litRows (((D.l 0 fun(x x_1:Nat)=>D.i 0)::@List.nil D)::@List.nil (List D))) (encL encLs (ry0 x2 x7)))/\((RW [.sl [.int .i64,.int .i64]] (ryN x2) (ryL x6 x6.m).length (encL encLs (ryL x6 x6.m)) (encL encLs (ryL x2 (x2.m-(1:Nat)))))/\(q79F5 x2)))))/\(∀ x8:Nat,(((x8<=ryN x2)/\(0<x2.m))->(CB (decide ((x8:Int)<(↑(ryN x2):Int))) ((Ix (x8:Int) (↑(ryN x2):Int))/\((0+Int.toNat (x8:Int)<ryN x2)/\(∃ x11:Nat,(((x11<=x2.us.length)/\(((0=0/\((ry0 x2 x8).length=(ry2 x2 x8 x11).length))/\((q79F1 x2)/\(((x2.us.length:Int)=(x2.us.length:Int))/\((0=(x11:Int))/\(q79F7 x2 x8)))))/\((RW [.sl [.int .i64,.int .i64]] (ry2 x2 x8 x11).length (ry0 x2 x8).length (encL encLs (ry0 x2 x8)) (encL encLs (ry2 x2 x8 x11)))/\(q79F9 x2 x8))))/\(∀ x12:Nat,((x12<=x2.us.length)->(CB (decide ((x12:Int)<(x2.us.length:Int))) ((Ix (x12:Int) (x2.us.length:Int))/\((0+Int.toNat (x12:Int)<x2.us.length)/\((CN (decide ((x2.us.getD (0+Int.toNat (x12:Int)) default).st≠(1:Int))) (CB (decide (0<(↑((ryL x2 (x2.m-(1:Nat))).getD (0+Int.toNat (x8:Int)) default).length:Int))) ((R6 ((↑((ryL x2 (x2.m-(1:Nat))).getD (0+Int.toNat (x8:Int)) default).length:Int)-1))/\((Ix ((↑((ryL x2 (x2.m-(1:Nat))).getD (0+Int.toNat (x8:Int)) default).length:Int)-1) (↑((ryL x2 (x2.m-(1:Nat))).getD (0+Int.toNat (x8:Int)) default).length:Int))/\((0+Int.toNat ((↑((ryL x2 (x2.m-(1:Nat))).getD (0+Int.toNat (x8:Int)) default).length:Int)-1)<((ryL x2 (x2.m-(1:Nat))).getD (0+Int.toNat (x8:Int)) default).length)/\(CN (decide ((x2.us.getD (0+Int.toNat (x12:Int)) default).id<=Prod.fst (((ryL x2 (x2.m-(1:Nat))).getD (0+Int.toNat (x8:Int)) default).getD (0+Int.toNat ((↑((ryL x2 (x2.m-(1:Nat))).getD (0+Int.toNat (x8:Int)) default).length:Int)-1)) default))) ((R6 ((x2.m:Int)-1))/\(∃ x18:Unit,(True/\((decide ((↑((ryL x2 (x2.m-(1:Nat))).getD (0+Int.toNat (x8:Int)) default).length:Int)<(x2.m:Int)-1)=decide (rySk (x2.m-(1:Nat)) (ryl x2 x8) (ryu x2 x12)))/\True)))) (∃ x20:Unit,(True/\((true=decide (rySk (x2.m-(1:Nat)) (ryl x2 x8) (ryu x2 x12)))/\True))))))) ((R6 ((x2.m:Int)-1))/\(∃ x22:Unit,(True/\((decide ((↑((ryL x2 (x2.m-(1:Nat))).getD (0+Int.toNat (x8:Int)) default).length:Int)<(x2.m:Int)-1)=decide (rySk (x2.m-(1:Nat)) (ryl x2 x8) (ryu x2 x12)))/\True))))) (∃ x24:Unit,(True/\((true=decide (rySk (x2.m-(1:Nat)) (ryl x2 x8) (ryu x2 x12)))/\True))))/\(∀ x25:Unit,(True->(CB (decide (rySk (x2.m-(1:Nat)) (ryl x2 x8) (ryu x2 x12))) ((R6 ((x12:Int)+1))/\(∃ x28:Nat,((x2.us.length-x28<x2.us.length-x12)/\((x28<=x2.us.length)/\(((0=0/\((ry2 x2 x8 x12).length=(ry2 x2 x8 x28).length))/\((q79F1 x2)/\(((x2.us.length:Int)=(x2.us.length:Int))/\(((x12:Int)+1=(x28:Int))/\(q79F7 x2 x8)))))/\((RW [.sl [.int .i64,.int .i64]] (ry2 x2 x8 x28).length (ry2 x2 x8 x12).length (encL encLs (ry2 x2 x8 x12)) (encL encLs (ry2 x2 x8 x28)))/\(q79F9 x2 x8))))))) (∃ x30:Nat,((((x30<=x2.nd.length)/\(¬rySk (x2.m-(1:Nat)) (ryl x2 x8) (ryu x2 x12)))/\(((0=0/\((ry2 x2 x8 x12).length=(ry4 x2 x8 x12 x30).length))/\((q79F0 x2)/\(((x2.nd.length:Int)=(x2.nd.length:Int))/\((0=(x30:Int))/\(q79F11 x2 x8 x12)))))/\((RW [.sl [.int .i64,.int .i64]] (ry4 x2 x8 x12 x30).length (ry2 x2 x8 x12).length (encL encLs (ry2 x2 x8 x12)) (encL encLs (ry4 x2 x8 x12 x30)))/\(q79F12 x2 x8 x12))))/\(∀ x31:Nat,(((x31<=x2.nd.length)/\(¬rySk (x2.m-(1:Nat)) (ryl x2 x8) (ryu x2 x12)))->(CB (decide ((x31:Int)<(x2.nd.length:Int))) ((Ix (x31:Int) (x2.nd.length:Int))/\((0+Int.toNat (x31:Int)<x2.nd.length)/\((CB (decide (x2.nd.getD (0+Int.toNat (x31:Int)) default≠(x2.us.getD (0+Int.toNat (x12:Int)) default).nd)) (∃ x35:TkX,((TkOk x35)/\(((((x2.g.n:Int)=(x35.g.n:Int))/\((0=0/\x2.g.es.length=x35.g.es.length)/\True))/\((0=0/\x2.ts.length=x35.ts.length)/\((0=0/\x2.us.length=x35.us.length)/\((((x2.us.getD (0+Int.toNat (x12:Int)) default).id=Prod.fst x35.m)/\((x2.nd.getD (0+Int.toNat (x31:Int)) default=Prod.snd x35.m)/\True))/\True))))/\(((RW [.int .i64,.int .i64,.int .i64] x35.g.es.length x2.g.es.length (encL encE x2.g.es) (encL encE x35.g.es))/\((RW [.int .i64] x35.ts.length x2.ts.length (encL encI x2.ts) (encL encI x35.ts))/\((RW kU x35.us.length x2.us.length (encL encU x2.us) (encL encU x35.us))/\True)))/\(∃ x36:Unit,(True/\((decide (tkU x35<4611686018427387904)=decide (ryG x2 (ryu x2 x12) (x2.nd.getD x31 default)))/\True))))))) (∃ x38:Unit,(True/\((false=decide (ryG x2 (ryu x2 x12) (x2.nd.getD x31 default)))/\True))))/\(∀ x39:Unit,(True->(CB (decide (ryG x2 (ryu x2 x12) (x2.nd.getD x31 default))) (True/\((0=0/\(((0:Nat)<=(0:Nat))/\(((0:Nat)+((ryL x2 (x2.m-(1:Nat))).getD (0+Int.toNat (x8:Int)) default).length<=((ryL x2 (x2.m-(1:Nat))).getD (0+Int.toNat (x8:Int)) default).length)/\((0:Nat)+((ryL x2 (x2.m-(1:Nat))).getD (0+Int.toNat (x8:Int)) default).length<=(1073741824:Nat)))))/\(((True/\(True/\True))/\True)/\((0=0/\(((0:Nat)+((ryL x2 (x2.m-(1:Nat))).getD (0+Int.toNat (x8:Int)) default).length<=(0:Nat)+((ryL x2 (x2.m-(1:Nat))).getD (0+Int.toNat (x8:Int)) default).length)/\(((1:Nat)<=(1:Nat))/\((0:Nat)+((ryL x2 (x2.m-(1:Nat))).getD (0+Int.toNat (x8:Int)) default).length+(1:Nat)<=(1073741824:Nat)))))/\(((((0:Nat)+((0:Nat)+((ryL x2 (x2.m-(1:Nat))).getD (0+Int.toNat (x8:Int)) default).length+(1:Nat))<=(0:Nat)+((ryL x2 (x2.m-(1:Nat))).getD (0+Int.toNat (x8:Int)) default).length+(1:Nat))/\True)/\True)/\((0=0/\(((ry4 x2 x8 x12 x31).length<=(ry4 x2 x8 x12 x31).length)/\(((1:Nat)<=(1:Nat))/\((ry4 x2 x8 x12 x31).length+(1:Nat)<=(5864062014805:Nat)))))/\((R6 ((x31:Int)+1))/\(∃ x42:Nat,((x2.nd.length-x42<x2.nd.length-x31)/\(((x42<=x2.nd.length)/\(¬rySk (x2.m-(1:Nat)) (ryl x2 x8) (ryu x2 x12)))/\(((0=0/\((ry4 x2 x8 x12 x31).length+(1:Nat)=(ry4 x2 x8 x12 x42).length))/\((q79F0 x2)/\(((x2.nd.length:Int)=(x2.nd.length:Int))/\(((x31:Int)+1=(x42:Int))/\(q79F11 x2 x8 x12)))))/\((RW [.sl [.int .i64,.int .i64]] (ry4 x2 x8 x12 x42).length ((ry4 x2 x8 x12 x31).length+(1:Nat)) (appRows (ry4 x2 x8 x12 x31).length (encL encLs (ry4 x2 x8 x12 x31)) 0 (litRows (((D.l ((0:Nat)+((ryL x2 (x2.m-(1:Nat))).getD (0+Int.toNat (x8:Int)) default).length+(1:Nat)) fun(r c:Nat)=>if 0+r<(0:Nat)+((ryL x2 (x2.m-(1:Nat))).getD (0+Int.toNat (x8:Int)) default).length then if 0+r<(0:Nat)then((@List.nil (List D)).getD ((0:Nat)+r) (@List.nil D)).getD c (D.i 0)else encN (D.i (Prod.fst (((ryL x2 (x2.m-(1:Nat))).getD (0+Int.toNat (x8:Int)) default).getD ((0:Nat)+((0:Nat)+r-(0:Nat))) default))::D.i (Prod.snd (((ryL x2 (x2.m-(1:Nat))).getD (0+Int.toNat (x8:Int)) default).getD ((0:Nat)+((0:Nat)+r-(0:Nat))) default))::@List.nil D) c else(((D.i (x2.us.getD (0+Int.toNat (x12:Int)) default).id::D.i (x2.nd.getD (0+Int.toNat (x31:Int)) default)::@List.nil D)::@List.nil (List D)).getD ((0:Nat)+((0:Nat)+r-((0:Nat)+((ryL x2 (x2.m-(1:Nat))).getD (0+Int.toNat (x8:Int)) default).length))) (@List.nil D)).getD c (D.i 0))::@List.nil D)::@List.nil (List D)))) (encL encLs (ry4 x2 x8 x12 x42)))/\(q79F12 x2 x8 x12))))))))))))) ((R6 ((x31:Int)+1))/\(∃ x44:Nat,((x2.nd.length-x44<x2.nd.length-x31)/\(((x44<=x2.nd.length)/\(¬rySk (x2.m-(1:Nat)) (ryl x2 x8) (ryu x2 x12)))/\(((0=0/\((ry4 x2 x8 x12 x31).length=(ry4 x2 x8 x12 x44).length))/\((q79F0 x2)/\(((x2.nd.length:Int)=(x2.nd.length:Int))/\(((x31:Int)+1=(x44:Int))/\(q79F11 x2 x8 x12)))))/\((RW [.sl [.int .i64,.int .i64]] (ry4 x2 x8 x12 x44).length (ry4 x2 x8 x12 x31).length (encL encLs (ry4 x2 x8 x12 x31)) (encL encLs (ry4 x2 x8 x12 x44)))/\(q79F12 x2 x8 x12))))))))))))) ((R6 ((x12:Int)+1))/\(∃ x46:Nat,((x2.us.length-x46<x2.us.length-x12)/\((x46<=x2.us.length)/\(((0=0/\((ry4 x2 x8 x12 x31).length=(ry2 x2 x8 x46).length))/\((q79F1 x2)/\(((x2.us.length:Int)=(x2.us.length:Int))/\(((x12:Int)+1=(x46:Int))/\(q79F7 x2 x8)))))/\((RW [.sl [.int .i64,.int .i64]] (ry2 x2 x8 x46).length (ry4 x2 x8 x12 x31).length (encL encLs (ry4 x2 x8 x12 x31)) (encL encLs (ry2 x2 x8 x46)))/\(q79F9 x2 x8)))))))))))))))))) (CB (decide (0<(↑((ryL x2 (x2.m-(1:Nat))).getD (0+Int.toNat (x8:Int)) default).length:Int))) (((((0:Nat)+((ryL x2 (x2.m-(1:Nat))).getD (0+Int.toNat (x8:Int)) default).length<=((ryL x2 (x2.m-(1:Nat))).getD (0+Int.toNat (x8:Int)) default).length)/\True)/\True)/\((0=0/\(((ry2 x2 x8 x12).length<=(ry2 x2 x8 x12).length)/\(((1:Nat)<=(1:Nat))/\((ry2 x2 x8 x12).length+(1:Nat)<=(5864062014805:Nat)))))/\((R6 ((x8:Int)+1))/\(∃ x49:Nat,((ryN x2-x49<ryN x2-x8)/\(((x49<=ryN x2)/\(0<x2.m))/\(((0=0/\((ry2 x2 x8 x12).length+(1:Nat)=(ry0 x2 x49).length))/\((0=0/\(ryN x2=ryN x2))/\(((↑(ryN x2):Int)=(↑(ryN x2):Int))/\(((x8:Int)+1=(x49:Int))/\(q79F4 x2)))))/\((RW [.sl [.int .i64,.int .i64]] (ry0 x2 x49).length ((ry2 x2 x8 x12).length+(1:Nat)) (appRows (ry2 x2 x8 x12).length (encL encLs (ry2 x2 x8 x12)) 0 (litRows (((D.l ((ryL x2 (x2.m-(1:Nat))).getD (0+Int.toNat (x8:Int)) default).length fun(r c:Nat)=>encN (D.i (Prod.fst (((ryL x2 (x2.m-(1:Nat))).getD (0+Int.toNat (x8:Int)) default).getD ((0:Nat)+r) default))::D.i (Prod.snd (((ryL x2 (x2.m-(1:Nat))).getD (0+Int.toNat (x8:Int)) default).getD ((0:Nat)+r) default))::@List.nil D) c)::@List.nil D)::@List.nil (List D)))) (encL encLs (ry0 x2 x49)))/\(q79F8 x2))))))))) ((R6 ((x8:Int)+1))/\(∃ x51:Nat,((ryN x2-x51<ryN x2-x8)/\(((x51<=ryN x2)/\(0<x2.m))/\(((0=0/\((ry2 x2 x8 x12).length=(ry0 x2 x51).length))/\((0=0/\(ryN x2=ryN x2))/\(((↑(ryN x2):Int)=(↑(ryN x2):Int))/\(((x8:Int)+1=(x51:Int))/\(q79F4 x2)))))/\((RW [.sl [.int .i64,.int .i64]] (ry0 x2 x51).length (ry2 x2 x8 x12).length (encL encLs (ry2 x2 x8 x12)) (encL encLs (ry0 x2 x51)))/\(q79F8 x2))))))))))))))) ((0=0/\((ry0 x2 x8).length=(ryL x2 x2.m).length))/\((RW [.sl [.int .i64,.int .i64]] (ryL x2 x2.m).length (ry0 x2 x8).length (encL encLs (ry0 x2 x8)) (encL encLs (ryL x2 x2.m)))/\True)))))))))))))))))=(∀ M:Nat,Keeps (cfgRy M) Tryz.f36 (ryCt (M+1)) ryI) by kernel_rfl) (fun M1=>fun x2=>fun h3=>⟨⟨⟨trivial,trivial⟩,trivial⟩,fun g4=>have h4:=dT g4;⟨⟨rfl,(by rw[(ry_l0 (x:=x2) h4)];rfl)⟩,⟨⟨(by rw[(ry_l0 (x:=x2) h4)];exact Nat.le_refl _)⟩,(by rw[ry_l0 (x:=x2) h4];exact ry_one)⟩,trivial⟩,fun g5=>have h5:=dF g5;⟨⟨(by omega),(by have:=h3.1.m;omega)⟩,({ g:=RyX.g x2,ts:=RyX.ts x2,us:=RyX.us x2,nd:=RyX.nd x2,m:=RyX.m x2-(1:Nat):RyX }),⟨(ry_ok h3.1),(by(try dsimp only at *);omega)⟩,⟨⟨rfl,⟨rfl,rfl⟩,trivial⟩,⟨rfl,rfl⟩,⟨rfl,rfl⟩,⟨rfl,rfl⟩,(by(try dsimp only at *);omega),trivial⟩,⟨⟨rl,rr⟩,⟨rl,rr⟩,⟨rl,rr⟩,⟨rl,rr⟩,trivial⟩,((0:Nat)),⟨⟨(by omega),(by omega)⟩,⟨⟨rfl,rfl⟩,⟨rfl,(congrArg List.length (ry_rec x2))⟩,(congrArg (fun l:List (List Mv)=>(l.length:Int)) (ry_rec x2)),(by omega),q79f4⟩,⟨⟨(by rw[(ry0_0 x2)];exact Nat.le_refl _)⟩,(by rw[ry0_0 x2];exact ry_one)⟩,⟨⟨(Nat.le_of_eq (congrArg List.length (ry_rec x2)).symm)⟩,(by show RowsEq _ _ (encL encLs (ryL (RyX.mk x2.g x2.ts x2.us x2.nd (x2.m-1)) (x2.m-1))) _;rw[ry_rec x2];exact rr)⟩,q79f5⟩,fun x8=>fun h9=>⟨fun g10=>have h10:=dT g10;⟨⟨(by omega),(by omega)⟩,(by omega),((0:Nat)),⟨(by omega),⟨⟨rfl,(by have e:=ry2_0 x2 x8;(show _=(_:Nat);rw[e];done))⟩,q79f1,rfl,(by omega),q79f7⟩,⟨⟨(by rw[(ry2_0 x2 x8)];exact Nat.le_refl _)⟩,(by rw[(ry2_0 x2 x8)];exact rr)⟩,q79f9⟩,fun x12=>fun h13=>⟨fun g14=>have h14:=dT g14;⟨⟨(by omega),(by omega)⟩,(by omega),⟨fun g15=>have h15:=dF g15;⟨fun g16=>have h16:=dT g16;⟨⟨(by omega),(by have:=ryl_3 h3.1 h10;omega)⟩,⟨(by omega),(by omega)⟩,(by omega),fun g17=>have h17:=dF g17;⟨⟨(by omega),(by have:=h3.1.m;omega)⟩,(default),trivial,(sk_1 h15 (.inr h17) h5),trivial⟩,fun g19=>have h19:=dT g19;⟨(default),trivial,(sk_3 h16 h19),trivial⟩⟩,fun g21=>have h21:=dF g21;⟨⟨(by omega),(by have:=h3.1.m;omega)⟩,(default),trivial,(sk_1 h15 (.inl h21) h5),trivial⟩⟩,fun g23=>have h23:=dT g23;⟨(default),trivial,(sk_2 h23),trivial⟩⟩,fun x25=>fun h26=>⟨fun g27=>have h27:=dT g27;⟨⟨(by omega),(by have:=h3.1.us;omega)⟩,(x12+(1:Nat)),(by omega),(by omega),⟨⟨rfl,(by have e:=ry2_k h14 h27;(show _=(_:Nat);rw[e];done))⟩,q79f1,rfl,(by omega),q79f7⟩,⟨⟨(by rw[(ry2_k h14 h27)];exact Nat.le_refl _)⟩,(by rw[(ry2_k h14 h27)];exact rr)⟩,q79f9⟩,fun g29=>have h29:=dF g29;⟨((0:Nat)),⟨⟨(by omega),(by omega)⟩,⟨⟨rfl,(by have e:=ry4_0 x2 x8 x12;(show _=(_:Nat);rw[e];done))⟩,q79f0,rfl,(by omega),q79f11⟩,⟨⟨(by rw[(ry4_0 x2 x8 x12)];exact Nat.le_refl _)⟩,(by rw[(ry4_0 x2 x8 x12)];exact rr)⟩,q79f12⟩,fun x31=>fun h32=>⟨fun g33=>have h33:=dT g33;⟨⟨(by omega),(by omega)⟩,(by omega),⟨fun g34=>have h34:=dT g34;⟨({ g:=RyX.g x2,ts:=RyX.ts x2,us:=RyX.us x2,m:=(Un.id (List.getD (RyX.us x2) ((0:Nat)+Int.toNat (↑x12:Int)) default),List.getD (RyX.nd x2) ((0:Nat)+Int.toNat (↑x31:Int)) default):TkX }),(by exact⟨h3.1.g,h3.1.n,by have:=h3.1.us;show x2.us.length<=1000;omega⟩),⟨⟨rfl,⟨rfl,rfl⟩,trivial⟩,⟨rfl,rfl⟩,⟨rfl,rfl⟩,⟨rfl,rfl,trivial⟩,trivial⟩,⟨⟨rl,rr⟩,⟨rl,rr⟩,⟨rl,rr⟩,trivial⟩,(default),trivial,(rg_1 h34),trivial⟩,fun g37=>have h37:=dF g37;⟨(default),trivial,(rg_0 h37),trivial⟩⟩,fun x39=>fun h40=>⟨fun g41=>have h41:=dT g41;⟨trivial,⟨rfl,(by omega),(by omega),(by have:=ryl_3 h3.1 h10;omega)⟩,⟨⟨trivial,trivial,trivial⟩,trivial⟩,⟨rfl,(by omega),(by omega),(by have:=ryl_3 h3.1 h10;omega)⟩,⟨⟨(by omega),trivial⟩,trivial⟩,⟨rfl,(by omega),(by omega),(by have:=ry4_le h3.1 x8 x12 x31;omega)⟩,⟨(by omega),(by have:=h3.1.nd;omega)⟩,(x31+(1:Nat)),(by omega),⟨(by omega),(by omega)⟩,⟨⟨rfl,(by rw[ry4_y h33 h41,List.length_append];rfl)⟩,q79f0,rfl,(by omega),q79f11⟩,⟨⟨(by rw[ry4_y h33 h41,List.length_append];exact Nat.le_refl _)⟩,(ry_lit h33 h41)⟩,q79f12⟩,fun g43=>have h43:=dF g43;⟨⟨(by omega),(by have:=h3.1.nd;omega)⟩,(x31+(1:Nat)),(by omega),⟨(by omega),(by omega)⟩,⟨⟨rfl,(by have e:=ry4_n (k:=x8) h33 h43;(show _=(_:Nat);rw[e];done))⟩,q79f0,rfl,(by omega),q79f11⟩,⟨⟨(by rw[(ry4_n (k:=x8) h33 h43)];exact Nat.le_refl _)⟩,(by rw[(ry4_n (k:=x8) h33 h43)];exact rr)⟩,q79f12⟩⟩⟩,fun g45=>have h45:=dF g45;⟨⟨(by omega),(by have:=h3.1.us;omega)⟩,(x12+(1:Nat)),(by omega),(by omega),⟨⟨rfl,(by have e:=ry2_e h14 h32.2 h45;(show _=(_:Nat);rw[e];done))⟩,q79f1,rfl,(by omega),q79f7⟩,⟨⟨(by rw[(ry2_e h14 h32.2 h45)];exact Nat.le_refl _)⟩,(by rw[(ry2_e h14 h32.2 h45)];exact rr)⟩,q79f9⟩⟩⟩⟩⟩,fun g47=>have h47:=dF g47;⟨fun g48=>have h48:=dT g48;⟨⟨⟨(by omega),trivial⟩,trivial⟩,⟨rfl,(by omega),(by omega),(by have:=ry2_le h3.1 x8 x12;omega)⟩,⟨(by omega),(by have:=ryN_le h3.1;omega)⟩,(x8+(1:Nat)),(by omega),⟨(by omega),(by omega)⟩,⟨⟨rfl,(by rw[ry0_y h10 h47 h48,List.length_append];rfl)⟩,⟨rfl,rfl⟩,rfl,(by omega),q79f4⟩,⟨⟨(by rw[ry0_y h10 h47 h48,List.length_append];exact Nat.le_refl _)⟩,(ry_lit2 h10 h47 h48)⟩,q79f8⟩,fun g50=>have h50:=dF g50;⟨⟨(by omega),(by have:=ryN_le h3.1;omega)⟩,(x8+(1:Nat)),(by omega),⟨(by omega),(by omega)⟩,⟨⟨rfl,(by have e:=ry0_n h10 h47 h50;(show _=(_:Nat);rw[e];done))⟩,⟨rfl,rfl⟩,rfl,(by omega),q79f4⟩,⟨⟨(by rw[(ry0_n h10 h47 h50)];exact Nat.le_refl _)⟩,(by rw[(ry0_n h10 h47 h50)];exact rr)⟩,q79f8⟩⟩⟩⟩,fun g52=>have h52:=dF g52;⟨⟨rfl,(by have e:=ry_end h9 h52;(show _=(_:Nat);rw[e];done))⟩,⟨⟨(by rw[(ry_end h9 h52)];exact Nat.le_refl _)⟩,(by rw[(ry_end h9 h52)];exact rr)⟩,trivial⟩⟩⟩⟩)
theorem ry_good (M:Nat):Good Tryz.prog 36 (ryCt M)/\FnOk Tryz.prog 36:=by
 have fo:FnOk Tryz.prog 36:=⟨Tryz.f36,rfl,by decide+kernel,rfl⟩
 induction M with
 |zero=>exact⟨fun x h=>absurd h.2 (Nat.not_lt_zero _),fo⟩
 |succ M ih=>
  have con:ConOk Tryz.prog (cfgRy M):=ConL.ok (.cons (ConL.one tk_good) (.cons (ConL.one ih) .nil))
  exact good_of tok con (fn:=Tryz.f36) rfl (by decide+kernel) (fun _=>rfl) (ry_keeps M)
end Go.Sym