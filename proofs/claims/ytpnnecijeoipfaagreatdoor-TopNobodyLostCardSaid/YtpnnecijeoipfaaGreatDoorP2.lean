import Derived.Test.YtpnnecijeoipfaaGreatDoorN3
namespace Go.Sym
set_option linter.unusedVariables false
def bitsOf (w:Nat):List Nat:=(List.range 64).filter w.testBit
theorem filter_first {p:Nat->Bool} {c n:Nat} (hc:c<n) (h1:∀ j,j<c->p j=false) (h2:p c=true):(List.range n).filter p=c::(List.range n).filter (fun j=>p j&&decide (j≠c)):=by
 have e:List.range n=List.range c++(c::List.range' (c+1) (n-c-1)):=by
  rw[List.range_eq_range',List.range_eq_range']
  have:n=c+((n-c-1)+1):=by omega
  conv=>lhs;rw[this,<- List.range'_append_1]
  rw[List.range'_succ]
  simp
 rw[e,List.filter_append,List.filter_append,List.filter_cons,List.filter_cons,if_pos h2]
 have z1:(List.range c).filter p=[]:=by rw[List.filter_eq_nil_iff];intro a ha;rw[h1 a (List.mem_range.1 ha)];simp
 have z2:(List.range c).filter (fun j=>p j&&decide (j≠c))=[]:=by rw[List.filter_eq_nil_iff];intro a ha;rw[h1 a (List.mem_range.1 ha)];simp
 rw[z1,z2,if_neg (by simp)]
 simp only[List.nil_append]
 congr 1
 apply List.filter_congr
 intro a ha
 have:c+1<=a:=(List.mem_range'_1.1 ha).1
 simp[show a≠c by omega]
theorem low_bit {x:Nat} (h0:x≠0) (h:x<18446744073709551616):
  Lib.ctz 64 x<64/\x.testBit (Lib.ctz 64 x)=true/\(∀ j,j<Lib.ctz 64 x->x.testBit j=false)/\∀ j,(x&&&(x-1)).testBit j=(x.testBit j&&decide (j≠Lib.ctz 64 x)):=by
 have ec:Lib.ctz 64 x=Lib.ctzFrom 64 x:=by simp[Lib.ctz,h0]
 obtain⟨m,hm,hk⟩:=Lib.ctzFrom_spec 64 x (by omega) (by rw[two64]at h;exact h)
 rw[ec]
 generalize Lib.ctzFrom 64 x=c at*
 have e1:∀ j,x.testBit j=if j<c then false else(2*m+1).testBit (j-c):=by
  intro j
  have:=Nat.testBit_two_pow_mul_add (2*m+1) (b:=0) (i:=c) (Nat.two_pow_pos c) j
  rw[Nat.add_zero,<- hm,Nat.zero_testBit]at this
  exact this
 have e2:∀ j,(x-1).testBit j=if j<c then(2 ^ c-1).testBit j else(2*m).testBit (j-c):=by
  intro j
  have hp:=Nat.two_pow_pos c
  have e:x-1=2 ^ c*(2*m)+(2 ^ c-1):=by
   rw[hm,Nat.mul_add,Nat.mul_one];omega
  rw[e]
  exact Nat.testBit_two_pow_mul_add (2*m) (by omega) j
 refine⟨hk,?_,fun j hj=>?_,fun j=>?_⟩
 ·rw[e1,if_neg (by omega),Nat.sub_self];simp[Nat.testBit_zero]
 ·rw[e1,if_pos hj]
 ·rw[Nat.testBit_and,e1,e2]
  by_cases hj:j<c
  ·simp[hj]
  ·rw[if_neg hj,if_neg hj]
   by_cases he:j=c
   ·subst he;simp[Nat.testBit_zero]
   ·obtain⟨i,rfl⟩:∃ i,j=c+(i+1):=⟨j-c-1,by omega⟩
    rw[show c+(i+1)-c=i+1 by omega,Nat.testBit_succ,Nat.testBit_succ,show(2*m+1) / 2=m by omega,show(2*m) / 2=m by omega]
    simp
theorem bitsOf_cons {x:Nat} (h0:x≠0) (h:x<18446744073709551616):bitsOf x=Lib.ctz 64 x::bitsOf (x&&&(x-1)):=by
 obtain⟨h1,h2,h3,h4⟩:=low_bit h0 h
 unfold bitsOf
 rw[filter_first h1 h3 h2]
 congr 1
 apply List.filter_congr
 intro a _
 exact(h4 a).symm
theorem bitsOf_zero:bitsOf 0=[]:=by unfold bitsOf;rw[List.filter_eq_nil_iff];intro a _;simp
theorem bitsOf_lt {x j:Nat} (h:j∈bitsOf x):j<64/\x.testBit j=true:=by
 unfold bitsOf at h;rw[List.mem_filter,List.mem_range]at h;exact h
theorem and_pred_lt {x:Nat} (h0:x≠0):x&&&(x-1)<x:=Nat.lt_of_le_of_lt Nat.and_le_right (by omega)
def rowsFrom (ws:List Nat) (i:Nat):List Nat:=(List.range' i (64-i)).flatMap fun i=>(bitsOf (ws.getD i default)).map (64*i+·)
def elemsW (ws:List Nat):List Nat:=rowsFrom ws 0
theorem rowsFrom_succ {ws:List Nat} {i:Nat} (h:i<64):rowsFrom ws i=(bitsOf (ws.getD i default)).map (64*i+·)++rowsFrom ws (i+1):=by
 unfold rowsFrom
 rw[show 64-i=(64-(i+1))+1 by omega,List.range'_succ,List.flatMap_cons]
theorem rowsFrom_end (ws:List Nat):rowsFrom ws 64=[]:=rfl
theorem elemsW_mem {ws:List Nat} {k:Nat}:k∈elemsW ws↔k<4096/\hasW ws k=true:=by
 unfold elemsW rowsFrom hasW
 simp only[List.mem_flatMap,List.mem_map,List.mem_range'_1]
 constructor
 ·rintro⟨i,hi,j,hj,rfl⟩
  obtain⟨h1,h2⟩:=bitsOf_lt hj
  refine⟨by omega,?_⟩
  rw[show(64*i+j) / 64=i by omega,show(64*i+j)%64=j by omega]
  exact h2
 ·rintro⟨h1,h2⟩
  refine⟨k / 64,by omega,k%64,?_,by omega⟩
  unfold bitsOf
  rw[List.mem_filter,List.mem_range]
  exact⟨by omega,h2⟩
theorem bitsOf_len (x:Nat):(bitsOf x).length<=64:=by
 unfold bitsOf;have:=List.length_filter_le x.testBit (List.range 64);simpa using this
theorem rowsFrom_len (ws:List Nat):∀(d i:Nat),64-i=d->(rowsFrom ws i).length<=64*d
 |0,i,h=>by unfold rowsFrom;rw[h];simp
 |d+1,i,h=>by
  rw[rowsFrom_succ (by omega),List.length_append,List.length_map]
  have:=rowsFrom_len ws d (i+1) (by omega)
  have:=bitsOf_len (ws.getD i default)
  omega
theorem elemsW_len (ws:List Nat):(elemsW ws).length<=4096:=rowsFrom_len ws 64 0 rfl
def elemsZ (ws:List Nat):List Int:=(elemsW ws).map fun(n:Nat)=>(n:Int)
theorem elemsZ_len (ws:List Nat):(elemsZ ws).length=(elemsW ws).length:=List.length_map _
theorem sorted_bits (x:Nat):(bitsOf x).Pairwise (· <·):=by
 unfold bitsOf
 exact List.Pairwise.filter _ List.pairwise_lt_range
theorem rowsFrom_sorted (ws:List Nat):∀(d i:Nat),64-i=d->(rowsFrom ws i).Pairwise (· <·)/\∀ k∈rowsFrom ws i,64*i<=k
 |0,i,h=>by unfold rowsFrom;rw[h];simp
 |d+1,i,h=>by
  rw[rowsFrom_succ (by omega)]
  obtain⟨h1,h2⟩:=rowsFrom_sorted ws d (i+1) (by omega)
  refine⟨?_,fun k hk=>?_⟩
  ·rw[List.pairwise_append]
   refine⟨?_,h1,?_⟩
   ·rw[List.pairwise_map]
    exact(sorted_bits _).imp (fun h=>by omega)
   ·intro a ha b hb
    rw[List.mem_map]at ha
    obtain⟨j,hj,rfl⟩:=ha
    have:=h2 b hb
    have:=(bitsOf_lt hj).1
    omega
  ·rcases List.mem_append.1 hk with hk|hk
   ·rw[List.mem_map]at hk
    obtain⟨j,hj,rfl⟩:=hk
    omega
   ·have:=h2 k hk;omega
theorem elemsW_sorted (ws:List Nat):(elemsW ws).Pairwise (· <·):=(rowsFrom_sorted ws 64 0 rfl).1
theorem nilW_elems:elemsW nilW=[]:=by
 apply List.eq_nil_iff_forall_not_mem.2
 intro k hk
 have:=(elemsW_mem.1 hk).2
 rw[hasW_nil]at this;cases this
end Go.Sym