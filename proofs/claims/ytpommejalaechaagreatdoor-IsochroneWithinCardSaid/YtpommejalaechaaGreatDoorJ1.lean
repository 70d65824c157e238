import Derived.Test.YtpommejalaechaaGreatDoorN3
namespace Go.Sym
set_option linter.unusedVariables false
def swp (l:List Int) (j:Nat):List Int:=(l.set j (l.getD (j-1) default)).set (j-1) (l.getD j default)
def bubF (lt:Int->Int->Bool):Nat->List Int->List Int
 |0,l=>l
 |j+1,l=>if lt (l.getD (j+1) default) (l.getD j default)=true then bubF lt j (swp l (j+1))else l
def insAt (lt:Int->Int->Bool) (l:List Int) (i:Nat):List Int:=(List.range (i-1)).foldl (fun l k=>bubF lt (k+1) l) l
def insF (lt:Int->Int->Bool) (l:List Int):List Int:=insAt lt l l.length
theorem insAt_succ (lt:Int->Int->Bool) (l:List Int) {i:Nat} (h:1<=i):insAt lt l (i+1)=bubF lt i (insAt lt l i):=by
 unfold insAt
 rw[show i+1-1=(i-1)+1 by omega,List.range_succ,List.foldl_append]
 show bubF lt (i-1+1) _=_
 rw[show i-1+1=i by omega]
theorem swp_len (l:List Int) (j:Nat):(swp l j).length=l.length:=by simp[swp]
theorem bubF_len (lt:Int->Int->Bool):∀(j:Nat) (l:List Int),(bubF lt j l).length=l.length
 |0,l=>rfl
 |j+1,l=>by
  unfold bubF
  split
  ·rw[bubF_len lt j,swp_len]
  ·rfl
theorem foldl_keep {α β:Type} {f:β->α->β} (P:β->Prop) (h:∀ b a,P b->P (f b a)):∀(l:List α) (b:β),P b->P (l.foldl f b)
 | [],b,hb=>hb
 |a::l,b,hb=>foldl_keep P h l (f b a) (h b a hb)
theorem insAt_len (lt:Int->Int->Bool) (l:List Int) (i:Nat):(insAt lt l i).length=l.length:=
 foldl_keep (fun x:List Int=>x.length=l.length) (fun b a h=>by rw[bubF_len];exact h) _ _ rfl
theorem mem_set {l:List Int} {i:Nat} {a x:Int} (h:x∈l.set i a):x=a∨x∈l:=by
 rcases List.mem_or_eq_of_mem_set h with q|q
 ·exact .inr q
 ·exact .inl q
theorem getD_in {l:List Int} {j:Nat} (h:j<l.length):l.getD j default∈l:=by
 rw[List.getD_eq_getElem?_getD,List.getElem?_eq_getElem h];exact List.getElem_mem _
theorem swp_mem {l:List Int} {j:Nat} (h:j<l.length) {x:Int} (hx:x∈swp l j):x∈l:=by
 unfold swp at hx
 rcases mem_set hx with e|e
 ·subst e;exact getD_in h
 ·rcases mem_set e with e|e
  ·subst e;exact getD_in (by omega)
  ·exact e
theorem bubF_mem (lt:Int->Int->Bool):∀(j:Nat) (l:List Int),j<l.length->∀ x∈bubF lt j l,x∈l
 |0,l,_,x,hx=>hx
 |j+1,l,h,x,hx=>by
  unfold bubF at hx
  split at hx
  ·exact swp_mem h (bubF_mem lt j _ (by rw[swp_len];omega) x hx)
  ·exact hx
theorem insAt_mem (lt:Int->Int->Bool) (l:List Int):∀(i:Nat),i<=l.length->∀ x∈insAt lt l i,x∈l
 |0,_,x,hx=>hx
 |1,_,x,hx=>hx
 |i+2,h,x,hx=>by
  rw[insAt_succ lt l (by omega:1<=i+1)]at hx
  exact insAt_mem lt l (i+1) (by omega) x (bubF_mem lt (i+1) _ (by rw[insAt_len];omega) x hx)
theorem insF_mem {lt:Int->Int->Bool} {l:List Int} {x:Int} (h:x∈insF lt l):x∈l:=insAt_mem lt l l.length (Nat.le_refl _) x h
theorem insF_len (lt:Int->Int->Bool) (l:List Int):(insF lt l).length=l.length:=insAt_len lt l _
theorem bubF_stop {lt:Int->Int->Bool} {j:Nat} {l:List Int} (h:¬ (0<(j:Int)/\lt (l.getD j default) (l.getD (j-1) default)=true)):bubF lt j l=l:=by
 cases j with
 |zero=>rfl
 |succ j=>
  unfold bubF
  exact if_neg (fun q=>h ⟨by omega,q⟩)
theorem bubF_go {lt:Int->Int->Bool} {j:Nat} {l:List Int} (h0:0<j) (h:lt (l.getD j default) (l.getD (j-1) default)=true):bubF lt (j-1) (swp l j)=bubF lt j l:=by
 obtain⟨k,rfl⟩:∃ k,j=k+1:=⟨j-1,by omega⟩
 show _=(if lt (l.getD (k+1) default) (l.getD k default)=true then bubF lt k (swp l (k+1))else l)
 exact(if_pos h).symm
end Go.Sym