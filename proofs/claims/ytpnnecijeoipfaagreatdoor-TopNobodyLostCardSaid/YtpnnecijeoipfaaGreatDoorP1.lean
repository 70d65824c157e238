import Derived.Test.YtpnnecijeoipfaaGreatDoorB1
namespace Go.Sym
set_option linter.unusedVariables false
structure WOk (ws:List Nat):Prop where
 len:ws.length=64
 lt:∀ i,ws.getD i default<18446744073709551616
def nilW:List Nat:=List.replicate 64 0
def addW (ws:List Nat) (n:Int):List Nat:=ws.set (n.toNat / 64) (ws.getD (n.toNat / 64) default|||2 ^ (n.toNat%64))
def hasW (ws:List Nat) (n:Nat):Bool:=(ws.getD (n / 64) default).testBit (n%64)
theorem two64:(18446744073709551616:Nat)=2 ^ 64:=by decide
theorem u64_wrap {a:Nat} (h:a<18446744073709551616):IntKind.u64.wrap (a:Int)=a:=by
 simp only[IntKind.wrap,IntKind.signed,IntKind.bits]
 have:((a:Int)%18446744073709551616)=a:=by omega
 simpa using this
theorem ofInt_nat {a:Nat} (h:a<18446744073709551616):(BitVec.ofInt IntKind.u64.bits (a:Int)).toNat=a:=by
 have e:IntKind.u64.bits=64:=rfl
 rw[e,BitVec.ofInt_natCast,BitVec.toNat_ofNat]
 exact Nat.mod_eq_of_lt (by omega)
theorem or_u64 {a b:Nat} (ha:a<18446744073709551616) (hb:b<18446744073709551616):IntKind.u64.wrap ((BitVec.ofInt IntKind.u64.bits (a:Int)|||BitVec.ofInt IntKind.u64.bits (b:Int)).toNat:Int)=(a|||b:Nat):=by
 rw[BitVec.toNat_or,ofInt_nat ha,ofInt_nat hb]
 exact u64_wrap (by rw[two64]at *;exact Nat.or_lt_two_pow ha hb)
theorem and_u64 {a b:Nat} (ha:a<18446744073709551616) (hb:b<18446744073709551616):IntKind.u64.wrap ((BitVec.ofInt IntKind.u64.bits (a:Int)&&&BitVec.ofInt IntKind.u64.bits (b:Int)).toNat:Int)=(a&&&b:Nat):=by
 rw[BitVec.toNat_and,ofInt_nat ha,ofInt_nat hb]
 exact u64_wrap (Nat.lt_of_le_of_lt Nat.and_le_left ha)
theorem shl_u64 {n:Int} (h:0<=n/\n<64):IntKind.u64.wrap (1*2 ^ min n.toNat IntKind.u64.bits)=(2 ^ n.toNat:Nat):=by
 have e:min n.toNat IntKind.u64.bits=n.toNat:=by
  have:IntKind.u64.bits=64:=rfl
  rw[this];omega
 rw[e,Int.one_mul]
 have h2:2 ^ n.toNat<18446744073709551616:=by rw[two64];exact Nat.pow_lt_pow_right (by decide) (by omega)
 have:=u64_wrap h2
 simpa using this
theorem pow_lt64 {n:Nat} (h:n<64):2 ^ n<18446744073709551616:=by rw[two64];exact Nat.pow_lt_pow_right (by decide) h
theorem getD_set {ws:List Nat} {i j v:Nat}:(ws.set i v).getD j default=if i=j/\j<ws.length then v else ws.getD j default:=by
 simp only[List.getD_eq_getElem?_getD,List.getElem?_set]
 by_cases h:i=j
 ·subst h
  by_cases h2:i<ws.length
  ·simp[h2]
  ·simp[h2]
 ·simp[h]
theorem WOk.add {ws:List Nat} (h:WOk ws) (n:Int):WOk (addW ws n):=by
 refine⟨by unfold addW;rw[List.length_set];exact h.len,fun i=>?_⟩
 unfold addW
 rw[getD_set]
 split
 ·have h1:=h.lt (n.toNat / 64)
  have h2:=pow_lt64 (Nat.mod_lt n.toNat (by decide:0<64))
  rw[two64]at*
  exact Nat.or_lt_two_pow h1 h2
 ·exact h.lt i
theorem nilW_at (i:Nat):nilW.getD i default=0:=by
 unfold nilW
 rw[List.getD_eq_getElem?_getD,List.getElem?_replicate]
 split <;>rfl
theorem WOk.nil:WOk nilW:=⟨List.length_replicate,fun i=>by rw[nilW_at];decide⟩
theorem hasW_nil (k:Nat):hasW nilW k=false:=by
 unfold hasW
 rw[nilW_at,Nat.zero_testBit]
theorem all_zero {ws:List Nat} (h:WOk ws) (hz:∀ r,r<64->((ws.getD r default:Nat):Int)=0):ws=nilW:=by
 apply List.ext_getElem (by rw[h.len];exact List.length_replicate.symm)
 intro i h1 h2
 have:=hz i (by rw[h.len]at h1;exact h1)
 have e:ws[i]=ws.getD i default:=by simp[List.getD_eq_getElem?_getD,h1]
 have e2:nilW[i]=nilW.getD i default:=by simp[List.getD_eq_getElem?_getD,h2]
 rw[e,e2,nilW_at]
 omega
end Go.Sym