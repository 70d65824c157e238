import Derived.Test.YtfflknhillcblaaDoorB1
namespace Go.Sym
set_option linter.unusedVariables false
structure WOk (ws:List Nat):Prop where
 len:ws.length=64
 lt:∀ i,ws.getD i default<18446744073709551616
def nilW:List Nat:=List.replicate 64 0
def addW (ws:List Nat) (n:Int):List Nat:=ws.set (n.toNat / 64) (ws.getD (n.toNat / 64) default|||2 ^ (n.toNat%64))
def hasW (ws:List Nat) (n:Nat):Bool:=(ws.getD (n / 64) default).testBit (n%64)
theorem two64:(18446744073709551616:Nat)=2 ^ 64:=by decide
theorem u64_wrap {a:Nat} (h:a<18446744073709551616):IntKind.u64.wrap (a:Int)=a:=by
 simp only[IntKind.wrap,IntKind.signed,IntKind.bits]
 have:((a:Int)%18446744073709551616)=a:=by omega
 simpa using this
theorem ofInt_nat {a:Nat} (h:a<18446744073709551616):(BitVec.ofInt IntKind.u64.bits (a:Int)).toNat=a:=by
 have e:IntKind.u64.bits=64:=rfl
 rw[e,BitVec.ofInt_natCast,BitVec.toNat_ofNat]
 exact Nat.mod_eq_of_lt (by omega)
theorem or_u64 {a b:Nat} (ha:a<18446744073709551616) (hb:b<18446744073709551616):IntKind.u64.wrap ((BitVec.ofInt IntKind.u64.bits (a:Int)|||BitVec.ofInt IntKind.u64.bits (b:Int)).toNat:Int)=(a|||b:Nat):=by
 rw[BitVec.toNat_or,ofInt_nat ha,ofInt_nat hb]
 exact u64_wrap (by rw[two64]at *;exact Nat.or_lt_two_pow ha hb)
theorem and_u64 {a b:Nat} (ha:a<18446744073709551616) (hb:b<18446744073709551616):IntKind.u64.wrap ((BitVec.ofInt IntKind.u64.bits (a:Int)&&&BitVec.ofInt IntKind.u64.bits (b:Int)).toNat:Int)=(a&&&b:Nat):=by
 rw[BitVec.toNat_and,ofInt_nat ha,ofInt_nat hb]
 exact u64_wrap (Nat.lt_of_le_of_lt Nat.and_le_left ha)
theorem shl_u64 {n:Int} (h:0<=n/\n<64):IntKind.u64.wrap (1*2 ^ min n.toNat IntKind.u64.bits)=(2 ^ n.toNat:Nat):=by
 have e:min n.toNat IntKind.u64.bits=n.toNat:=by
  have:IntKind.u64.bits=64:=rfl
  rw[this];omega
 rw[e,Int.one_mul]
 have h2:2 ^ n.toNat<18446744073709551616:=by rw[two64];exact Nat.pow_lt_pow_right (by decide) (by omega)
 have:=u64_wrap h2
 simpa using this
theorem pow_lt64 {n:Nat} (h:n<64):2 ^ n<18446744073709551616:=by rw[two64];exact Nat.pow_lt_pow_right (by decide) h
theorem getD_set {ws:List Nat} {i j v:Nat}:(ws.set i v).getD j default=if i=j/\j<ws.length then v else ws.getD j default:=by
 simp only[List.getD_eq_getElem?_getD,List.getElem?_set]
 by_cases h:i=j
 ·subst h
  by_cases h2:i<ws.length
  ·simp[h2]
  ·simp[h2]
 ·simp[h]
theorem WOk.add {ws:List Nat} (h:WOk ws) (n:Int):WOk (addW ws n):=by
 refine⟨by unfold addW;rw[List.length_set];exact h.len,fun i=>?_⟩
 unfold addW
 rw[getD_set]
 split
 ·have h1:=h.lt (n.toNat / 64)
  have h2:=pow_lt64 (Nat.mod_lt n.toNat (by decide:0<64))
  rw[two64]at*
  exact Nat.or_lt_two_pow h1 h2
 ·exact h.lt i
theorem nilW_at (i:Nat):nilW.getD i default=0:=by
 unfold nilW
 rw[List.getD_eq_getElem?_getD,List.getElem?_replicate]
 split <;>rfl
theorem WOk.nil:WOk nilW:=⟨List.length_replicate,fun i=>by rw[nilW_at];decide⟩
theorem hasW_add {ws:List Nat} (h:WOk ws) {n:Int} (hn:0<=n/\n<4096) (k:Nat):hasW (addW ws n) k=(hasW ws k||decide (k=n.toNat)):=by
 unfold hasW addW
 rw[getD_set,h.len]
 by_cases e:n.toNat / 64=k / 64
 ·rw[if_pos ⟨e,by omega⟩,Nat.testBit_or,e,Nat.testBit_two_pow]
  congr 1
  by_cases e2:n.toNat%64=k%64
  ·have:k=n.toNat:=by omega
   simp[e2,this]
  ·have:¬ k=n.toNat:=by omega
   simp[e2,this]
 ·rw[if_neg (fun q=>e q.1)]
  have:¬ k=n.toNat:=by omega
  simp[this]
theorem hasW_nil (k:Nat):hasW nilW k=false:=by
 unfold hasW
 rw[nilW_at,Nat.zero_testBit]
theorem hasW_big {ws:List Nat} (h:WOk ws) {k:Nat} (hk:4096<=k):hasW ws k=false:=by
 unfold hasW
 rw[List.getD_eq_getElem?_getD,List.getElem?_eq_none (by rw[h.len];omega)]
 simp
theorem shr_u64 {a j:Nat} (ha:a<18446744073709551616) (hj:j<64):IntKind.u64.wrap ((BitVec.ofInt IntKind.u64.bits ((a:Int).fdiv (2 ^ min j IntKind.u64.bits))&&&BitVec.ofInt IntKind.u64.bits 1).toNat:Int)=((a / 2 ^ j%2:Nat):Int):=by
 have e:min j IntKind.u64.bits=j:=by
  have:IntKind.u64.bits=64:=rfl
  rw[this];omega
 have e2:(a:Int).fdiv (2 ^ j)=((a / 2 ^ j:Nat):Int):=by
  rw[show((2:Int) ^ j)=((2 ^ j:Nat):Int) by simp,<- Int.ofNat_fdiv]
 rw[e,e2,show(1:Int)=((1:Nat):Int)from rfl,and_u64 (Nat.lt_of_le_of_lt (Nat.div_le_self _ _) ha) (by decide),Nat.and_one_is_mod]
theorem all_zero {ws:List Nat} (h:WOk ws) (hz:∀ r,r<64->((ws.getD r default:Nat):Int)=0):ws=nilW:=by
 apply List.ext_getElem (by rw[h.len];exact List.length_replicate.symm)
 intro i h1 h2
 have:=hz i (by rw[h.len]at h1;exact h1)
 have e:ws[i]=ws.getD i default:=by simp[List.getD_eq_getElem?_getD,h1]
 have e2:nilW[i]=nilW.getD i default:=by simp[List.getD_eq_getElem?_getD,h2]
 rw[e,e2,nilW_at]
 omega
theorem has_bit {ws:List Nat} (h:WOk ws) {n:Int} (hn:0<=n/\n<4096):
  decide (IntKind.u64.wrap ((BitVec.ofInt IntKind.u64.bits (((ws.getD (0+(n / 64).toNat) default:Nat):Int).fdiv (2 ^ min (n%64).toNat IntKind.u64.bits))&&&BitVec.ofInt IntKind.u64.bits 1).toNat:Int)=1)=(decide (0<=n)&&hasW ws n.toNat):=by
 have e1:(n / 64).toNat=n.toNat / 64:=by omega
 have e2:(n%64).toNat=n.toNat%64:=by omega
 rw[shr_u64 (h.lt _) (by omega),Nat.zero_add,e1,e2,decide_eq_true hn.1,Bool.true_and]
 unfold hasW
 rw[Nat.testBit_eq_decide_div_mod_eq]
 apply decide_eq_decide.2
 omega
end Go.Sym