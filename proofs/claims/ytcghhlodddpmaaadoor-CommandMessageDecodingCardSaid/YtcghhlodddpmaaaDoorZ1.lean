import Derived.Test.YtcghhlodddpmaaaDoorY5
import Derived.Test.YtcghhlodddpmaaaDoorM2
namespace Go.Sym
set_option linter.unusedVariables false
set_option linter.unusedSimpArgs false
open Go.Proofs
set_option maxRecDepth 100000
def sIs:Nat->S->List Int × S
 |0,s=>([],s)
 |k+1,s=>((sI s).1::(sIs k (sI s).2).1,(sIs k (sI s).2).2)
theorem sIs_er:∀(k:Nat) (e:Int),(sIs k (.er e)).2= .er e
 |0,_=>rfl
 |k+1,e=>sIs_er k e
theorem sIs_e:∀(k:Nat) {s:S},eOk s->eOk (sIs k s).2
 |0,_,h=>h
 |k+1,s,h=>sIs_e k (sI_e h)
theorem sIs_by:∀(l R:List Int),(∀ n∈l,r64 n)->sIs l.length (.ok (byIs l++R))=(l,.ok R)
 | [],R,_=>rfl
 |n::l,R,h=>by
  rw[byIs_cons,List.append_assoc,List.length_cons]
  unfold sIs
  rw[show sI (.ok (byZ n++(byIs l++R)))=(n,.ok (byIs l++R))from pI_by (h n (List.mem_cons_self ..))]
  simp only
  rw[sIs_by l R (fun x hx=>h x (List.mem_cons_of_mem _ hx))]
theorem sIs_cut:∀(l:List Int) (j:Nat),(∀ n∈l,r64 n)->j<(byIs l).length->(sIs l.length (.ok ((byIs l).take j))).2= .er 11
 | [],j,_,hj=>absurd hj (Nat.not_lt_zero j)
 |n::l,j,h,hj=>by
  rw[byIs_cons]at hj ⊢
  rw[List.length_append]at hj
  rw[List.length_cons]
  have hn:=h n (List.mem_cons_self ..)
  unfold sIs
  by_cases h1:j<(byZ n).length
  ·rw[take_lt h1,show sI (.ok ((byZ n).take j))=(0,.er 11)from pI_cut hn h1]
   exact sIs_er _ _
  ·rw[take_ge h1,show sI (.ok (byZ n++(byIs l).take (j-(byZ n).length)))=(n,.ok ((byIs l).take (j-(byZ n).length)))from pI_by hn]
   exact sIs_cut l _ (fun x hx=>h x (List.mem_cons_of_mem _ hx)) (by omega)
theorem sIs_inv:∀(k:Nat) (U L R:List Int),isB U->sIs k (.ok U)=(L,.ok R)->L.length=k/\U=byIs L++R/\∀ n∈L,r64 n
 |0,U,L,R,hB,h=>by
  have e1:[]=L:=congrArg Prod.fst h
  have e2:S.ok U=S.ok R:=congrArg Prod.snd h
  injection e2 with e2
  subst e1 e2
  exact⟨rfl,rfl,fun n hn=>by cases hn⟩
 |k+1,U,L,R,hB,h=>by
  unfold sIs at h
  cases hp:sI (.ok U)with
  |mk v s=>
   rw[hp]at h
   have e1:v::(sIs k s).1=L:=congrArg Prod.fst h
   have e2:(sIs k s).2= .ok R:=congrArg Prod.snd h
   cases s with
   |er e=>rw[sIs_er]at e2;cases e2
   |ok Q=>
    obtain⟨a,b⟩:=pI_inv hB hp
    obtain⟨c1,c2,c3⟩:=sIs_inv k Q _ R (by rw[a]at hB;exact hB.right) (Prod.ext rfl e2)
    subst e1
    refine⟨by rw[List.length_cons,c1],?_,fun n hn=>?_⟩
    ·rw[byIs_cons,List.append_assoc,<- c2];exact a
    ·rcases List.mem_cons.1 hn with rfl|h5
     ·exact b
     ·exact c3 n h5
def mI (m:Msg):List Int:=[m.k,m.a,m.p,m.q,m.b,m.e]
theorem byM_i (m:Msg):byM m=byIs (mI m)++byBs m.body:=by unfold byM mI;simp[byIs]
theorem dm_st (B:List Int):sIs 6 (.ok B)=(mI (dmM B),st (dmR B 6)):=by
 rw[<- st_rd0]
 simp only[sIs,st_int]
 rfl
theorem dm_sb (B:List Int):sB (st (dmR B 6))=((dmM B).body,st (dmL B)):=st_bs _
theorem mI_r {m:Msg} (h:vM m=true):∀ n∈mI m,r64 n:=by
 obtain⟨⟨a,b,c,d,e,f⟩,_⟩:=vM_r h
 intro n hn
 unfold mI at hn
 simp only[List.mem_cons,List.not_mem_nil,or_false]at hn
 rcases hn with rfl|rfl|rfl|rfl|rfl|rfl <;>assumption
theorem mB_r {m:Msg} (h:vM m=true):r64 m.body.length:=by
 have:=(vM_r h).2
 unfold r64
 omega
theorem dm_cut {m:Msg} (h:vM m=true) (hB:inB (byM m)) {j:Nat} (hj:j<(byM m).length):dmE ((byM m).take j)=11:=by
 have hT:=inB_take hB j
 have key:st (dmL ((byM m).take j))= .er 11:=by
  have h2:=congrArg Prod.snd (dm_sb ((byM m).take j))
  have h1:=congrArg Prod.snd (dm_st ((byM m).take j))
  simp only at h1 h2
  rw[<- h2,<- h1]
  rw[byM_i]at hj ⊢
  rw[List.length_append]at hj
  by_cases hl:j<(byIs (mI m)).length
  ·rw[take_lt hl,show(sIs 6 (.ok ((byIs (mI m)).take j))).2= .er 11 from sIs_cut (mI m) j (mI_r h) hl]
   rfl
  ·rw[take_ge hl,show sIs 6 (.ok (byIs (mI m)++(byBs m.body).take (j-(byIs (mI m)).length)))=(mI m,.ok ((byBs m.body).take (j-(byIs (mI m)).length)))from sIs_by (mI m) _ (mI_r h)]
   simp only
   rw[sB_cut (mB_r h) (by omega)]
 have a6:=st_fn (dmL_ok hT)
 rw[key]at a6
 have a7:fnV (dmL ((byM m).take j))=11:=a6.symm
 unfold dmE
 rw[a7]
 rfl
theorem dmL_e (B:List Int):eOk (st (dmL B)):=by
 have h2:=congrArg Prod.snd (dm_sb B)
 have h1:=congrArg Prod.snd (dm_st B)
 simp only at h1 h2
 rw[<- h2,<- h1]
 exact sB_e (sIs_e 6 trivial)
theorem dm_err {B:List Int} (hB:inB B) (h:dmE B≠0):dmC B={}/\(dmE B=2∨dmE B=11):=by
 have h1:=eOk_e (dmL_e B)
 rw[st_fn (dmL_ok hB)]at h1
 unfold dmC dmE at*
 by_cases h0:fnV (dmL B)≠0
 ·rw[if_pos h0]at h ⊢
  rw[if_pos h0]
  exact⟨rfl,h1.resolve_left h0⟩
 ·rw[if_neg h0]at h ⊢
  rw[if_neg h0]
  by_cases hv:vM (dmM B)=true
  ·rw[if_pos hv]at h;exact absurd rfl h
  ·rw[if_neg hv,if_neg hv]
   exact⟨rfl,.inl rfl⟩
theorem dm_inv {B:List Int} (hB:inB B) (h:dmE B=0):vM (dmC B)=true/\byM (dmC B)=B:=by
 have h1:=dmL_e B
 have h2:=st_fn (dmL_ok hB)
 have h0:¬ fnV (dmL B)≠0:=fun q=>by unfold dmE at h;rw[if_pos q]at h;exact q h
 have hv:vM (dmM B)=true:=by
  unfold dmE at h
  rw[if_neg h0]at h
  by_cases hv:vM (dmM B)=true
  ·exact hv
  ·rw[if_neg hv]at h;cases h
 have hc:dmC B=dmM B:=by unfold dmC;rw[if_neg h0,if_pos hv]
 rw[hc]
 refine⟨hv,?_⟩
 have h3:=eOk_0 h1 (h2.trans (Decidable.of_not_not h0))
 have b1:=dm_st B
 have b2:=dm_sb B
 rw[h3]at b2
 cases hq:st (dmR B 6)with
 |er e=>rw[hq]at b2;cases congrArg Prod.snd b2
 |ok Q=>
  rw[hq]at b1 b2
  obtain⟨c1,c2,_⟩:=sIs_inv 6 B _ Q hB.1 b1
  have hQ:isB Q:=by have:=hB.1;rw[c2]at this;exact this.right
  obtain⟨d1,_⟩:=sB_inv hQ b2
  rw[List.append_nil]at d1
  rw[byM_i,<- d1,<- c2]
end Go.Sym