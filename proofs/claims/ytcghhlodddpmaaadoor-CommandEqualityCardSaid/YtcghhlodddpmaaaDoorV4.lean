import Derived.Test.YtcghhlodddpmaaaDoorV1
namespace Go.Sym
set_option linter.unusedVariables false
set_option linter.unusedSimpArgs false
open Go.Proofs
set_option maxRecDepth 100000
def zz (n:Int):Nat:=if 0<=n then(2*n).toNat else(-2*n-1).toNat
def unzz (u:Nat):Int:=if u%2=0 then(u / 2:Nat)else -((u / 2:Nat):Int)-1
theorem unzz_zz (n:Int):unzz (zz n)=n:=by
 unfold unzz zz
 split <;>split <;>omega
def byK:Nat->Nat->List Int
 |0,_=>[]
 |k+1,u=>if u<128 then [(u:Int)]else((u%128+128:Nat):Int)::byK k (u / 128)
def byU (u:Nat):List Int:=byK (10+(u-u)) u
theorem byU_eq (u:Nat):byU u=byK 10 u:=by unfold byU;rw[Nat.sub_self]
def byZ (n:Int):List Int:=byU (zz n)
def r64 (n:Int):Prop:= -9223372036854775808<=n/\n<=9223372036854775807
theorem zz_lt {n:Int} (h:r64 n):zz n<18446744073709551616:=by
 unfold r64 at h
 unfold zz
 split <;>omega
theorem byK_len (k u:Nat):(byK k u).length<=k:=by
 induction k generalizing u with
 |zero=>exact Nat.le_refl _
 |succ k ih=>
  unfold byK
  split
  ·exact Nat.succ_le_succ (Nat.zero_le k)
  ·exact Nat.succ_le_succ (ih _)
theorem byZ_len (n:Int):(byZ n).length<=10:=by unfold byZ;rw[byU_eq];exact byK_len _ _
def isB (l:List Int):Prop:=∀ b∈l,0<=b/\b<=255
theorem byK_isB (k u:Nat):isB (byK k u):=by
 induction k generalizing u with
 |zero=>intro b hb;cases hb
 |succ k ih=>
  unfold byK
  split
  ·intro b hb
   have:b=(u:Int):=by simpa using hb
   omega
  ·intro b hb
   rcases List.mem_cons.1 hb with h|h
   ·omega
   ·exact ih _ b h
theorem byZ_isB (n:Int):isB (byZ n):=byK_isB _ _
theorem isB.app {a b:List Int} (h1:isB a) (h2:isB b):isB (a++b):=fun x hx=>(List.mem_append.1 hx).elim (h1 x) (h2 x)
theorem enc_more {k u:Nat} (h:u<128 ^ k) (h1:¬ u<128):∃ j,k=j+1/\u / 128<128 ^ j/\byK k u=((u%128+128:Nat):Int)::byK j (u / 128):=by
 cases k with
 |zero=>simp at h;omega
 |succ j=>
  refine⟨j,rfl,?_,?_⟩
  ·rw[Nat.pow_succ]at h
   omega
  ·rw[byK,if_neg h1]
theorem enc_last {k u:Nat} (h:u<128 ^ k) (h1:u<128) (h0:0<k):byK k u=[(u:Int)]:=by
 cases k with
 |zero=>omega
 |succ j=>rw[byK,if_pos h1]
theorem u8_or (u:Nat):bitI .or .u8 (IntKind.u8.wrap (u:Int)) 128=((u%128+128:Nat):Int):=by
 have e:IntKind.u8.wrap (u:Int)=((u%256:Nat):Int):=by
  simp only[IntKind.wrap,IntKind.signed,IntKind.bits]
  have:((u:Int)%256)=((u%256:Nat):Int):=by omega
  simp
 rw[e]
 have h:∀ m:Fin 256,bitI .or .u8 ((m.val:Nat):Int) 128=((m.val%128+128:Nat):Int):=by decide+kernel
 have:=h ⟨u%256,Nat.mod_lt _ (by decide)⟩
 rw[this]
 show((u%256%128+128:Nat):Int)=_
 congr 1
 omega
theorem u8_wrap {u:Nat} (h:u<128):IntKind.u8.wrap (u:Int)=(u:Int):=by
 simp only[IntKind.wrap,IntKind.signed,IntKind.bits]
 have:((u:Int)%256)=u:=by omega
 simpa using this
theorem wrap64 (a:Int):IntKind.u64.wrap a=a%18446744073709551616:=by
 simp[IntKind.wrap,IntKind.signed,IntKind.bits]
theorem zz_bits {n:Int} (h:r64 n):bitI .xor .u64 (IntKind.u64.wrap (IntKind.u64.wrap n*2 ^ (min (Int.toNat 1) IntKind.u64.bits))) (IntKind.u64.wrap (n.fdiv (2 ^ (min (Int.toNat 63) IntKind.i64.bits))))=((zz n:Nat):Int):=by
 have e1:(min (Int.toNat 1) IntKind.u64.bits)=1:=rfl
 have e2:(min (Int.toNat 63) IntKind.i64.bits)=63:=rfl
 rw[e1,e2]
 unfold r64 at h
 have hz:=zz_lt h
 simp only[bitI,wrap64]
 have hb:IntKind.u64.bits=64:=rfl
 rw[hb]
 have hd:n.fdiv (2 ^ 63)=if 0<=n then 0 else -1:=by
  rw[Int.fdiv_eq_ediv_of_nonneg _ (by decide)]
  split <;>omega
 rw[hd]
 by_cases hn:0<=n
 ·rw[if_pos hn]
  have e3:n%18446744073709551616*2 ^ 1%18446744073709551616=((zz n:Nat):Int):=by unfold zz;rw[if_pos hn];omega
  rw[e3]
  have e4:(BitVec.ofInt 64 ((0:Int)%18446744073709551616))=0#64:=by decide
  rw[e4,BitVec.xor_zero,BitVec.ofInt_natCast,BitVec.toNat_ofNat,Nat.mod_eq_of_lt (by omega)]
  omega
 ·rw[if_neg hn]
  have e3:n%18446744073709551616*2 ^ 1%18446744073709551616=((18446744073709551615-zz n:Nat):Int):=by unfold zz at hz ⊢;rw[if_neg hn]at hz ⊢;omega
  rw[e3]
  have e4:(BitVec.ofInt 64 ((-1:Int)%18446744073709551616))=BitVec.allOnes 64:=by decide
  rw[e4,BitVec.xor_allOnes,BitVec.ofInt_natCast,BitVec.toNat_not,BitVec.toNat_ofNat,Nat.mod_eq_of_lt (by omega)]
  omega
theorem u64_shr (u:Nat):(u:Int).fdiv (2 ^ (min (Int.toNat 7) IntKind.u64.bits))=((u / 128:Nat):Int):=by
 have e1:(min (Int.toNat 7) IntKind.u64.bits)=7:=rfl
 rw[e1,Int.fdiv_eq_ediv_of_nonneg _ (by decide)]
 omega
end Go.Sym