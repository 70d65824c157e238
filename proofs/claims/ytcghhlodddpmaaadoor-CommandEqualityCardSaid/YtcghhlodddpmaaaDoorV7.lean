import Derived.Test.YtcghhlodddpmaaaDoorV5
namespace Go.Sym
set_option linter.unusedVariables false
set_option linter.unusedSimpArgs false
open Go.Proofs
set_option maxRecDepth 100000
structure Rd where
 B:List Int
 lo:Nat
 e:Int
structure RdOk (r:Rd):Prop where
 lo:r.lo<=r.B.length
 b:isB r.B
 len:r.B.length<=1000000
def bad (e:Int):Rd:=⟨[],0,e⟩
def rdB (l l':Nat) (r:Rd):List (Nat × Blk):=[(l,.one .own [.sl l' r.lo (r.B.length-r.lo),.i .i64 r.e]),(l',.rows .bor kB r.B.length (encL encI r.B))]
theorem bad_ok (e:Int):RdOk (bad e):=⟨Nat.le_refl _,fun b hb=>(by cases hb),Nat.zero_le _⟩
def nxt (r:Rd):Rd:=if r.e≠0 then r else if r.B.length<=r.lo then bad 11 else⟨r.B,r.lo+1,0⟩
def nxtOk (r:Rd):Bool:=decide (r.e=0/\r.lo<r.B.length)
def nxtB (r:Rd):Int:=if r.e=0/\r.lo<r.B.length then r.B.getD r.lo 0 else 0
def rdBad (i:Nat) (b:Int):Prop:=(i=9/\b≠1)∨(0<i/\b=0)
instance (i:Nat) (b:Int):Decidable (rdBad i b):=by unfold rdBad;infer_instance
def rdU:Nat->Nat->List Int->Int × Nat × List Int
 |_,_,[]=>(11,0,[])
 |i,u,b::l=>if rdBad i b then(2,0,[])else if b<128 then(0,u+(b.toNat%128)*2 ^ (7*i),l)else rdU (i+1) (u+(b.toNat%128)*2 ^ (7*i)) l
def rdV (r:Rd) (q:Int × Nat × List Int):Int:=if q.1=0 then unzz q.2.1 else 0
def rdR (r:Rd) (q:Int × Nat × List Int):Rd:=if q.1=0 then⟨r.B,r.B.length-q.2.2.length,0⟩else bad q.1
def inV (r:Rd) (i u:Nat):Int:=if r.e≠0 then 0 else rdV r (rdU i u (r.B.drop r.lo))
def inR' (r:Rd) (i u:Nat):Rd:=if r.e≠0 then r else rdR r (rdU i u (r.B.drop r.lo))
def intV (r:Rd):Int:=inV r 0 0
def intR (r:Rd):Rd:=inR' r 0 0
theorem nxt_ok {r:Rd} (h:RdOk r):RdOk (nxt r):=by
 unfold nxt
 split
 ·exact h
 ·split
  ·exact bad_ok _
  ·exact⟨(by show r.lo+1<=r.B.length;omega),h.b,h.len⟩
theorem rdU_len:∀(l:List Int) (i u:Nat),(rdU i u l).2.2.length<=l.length
 | [],_,_=>Nat.le_refl _
 |b::l,i,u=>by
  unfold rdU
  split
  ·exact Nat.zero_le _
  ·split
   ·exact Nat.le_succ _
   ·exact Nat.le_trans (rdU_len l _ _) (Nat.le_succ _)
theorem intR_ok {r:Rd} (h:RdOk r):RdOk (intR r):=by
 unfold intR inR' rdR
 split
 ·exact h
 ·split
  ·have:=rdU_len (r.B.drop r.lo) 0 0
   exact⟨Nat.sub_le _ _,h.b,h.len⟩
  ·exact bad_ok _
theorem and127 {b:Int} (h:0<=b/\b<=255):bitI .and .u8 b 127=((b.toNat%128:Nat):Int):=by
 have h1:∀ m:Fin 256,bitI .and .u8 ((m.val:Nat):Int) 127=((m.val%128:Nat):Int):=by decide+kernel
 have:=h1 ⟨b.toNat,by omega⟩
 rw[show b=((b.toNat:Nat):Int) by omega]
 exact this
theorem ofInt64 {a:Nat} (h:a<18446744073709551616):(BitVec.ofInt IntKind.u64.bits (a:Int)).toNat=a:=by
 have e:IntKind.u64.bits=64:=rfl
 rw[e,BitVec.ofInt_natCast,BitVec.toNat_ofNat]
 exact Nat.mod_eq_of_lt (by omega)
theorem or_add {u m i:Nat} (h:u<2 ^ (7*i)) (h1:u+m*2 ^ (7*i)<18446744073709551616) (hi:i<=9):
  bitI .or .u64 (u:Int) (IntKind.u64.wrap ((m:Int)*2 ^ (min (Int.toNat (7*(i:Int))) IntKind.u64.bits)))=((u+m*2 ^ (7*i):Nat):Int):=by
 have e1:min (Int.toNat (7*(i:Int))) IntKind.u64.bits=7*i:=by
  have:IntKind.u64.bits=64:=rfl
  rw[this]
  omega
 rw[e1]
 have e2:(m:Int)*2 ^ (7*i)=((m*2 ^ (7*i):Nat):Int):=by
  rw[Int.natCast_mul,Int.natCast_pow]
  rfl
 rw[e2]
 have e3:IntKind.u64.wrap ((m*2 ^ (7*i):Nat):Int)=((m*2 ^ (7*i):Nat):Int):=by
  rw[wrap64]
  omega
 rw[e3]
 simp only[bitI]
 rw[BitVec.toNat_or,ofInt64 (by omega),ofInt64 (by omega),Nat.or_comm,<- Nat.shiftLeft_eq,<- Nat.shiftLeft_add_eq_or_of_lt h,Nat.shiftLeft_eq,wrap64]
 omega
theorem unzz_bits {u:Nat} (h:u<18446744073709551616):bitI .xor .i64 ((u:Int).fdiv (2 ^ (min (Int.toNat 1) IntKind.u64.bits))) (0-bitI .and .u64 (u:Int) 1)=unzz u:=by
 have e1:min (Int.toNat 1) IntKind.u64.bits=1:=rfl
 rw[e1,Int.fdiv_eq_ediv_of_nonneg _ (by decide)]
 have e2:bitI .and .u64 (u:Int) 1=((u%2:Nat):Int):=by
  simp only[bitI]
  rw[BitVec.toNat_and,ofInt64 h]
  have:(BitVec.ofInt IntKind.u64.bits 1).toNat=1:=rfl
  rw[this,Nat.and_one_is_mod,wrap64]
  omega
 rw[e2]
 have hb:IntKind.i64.bits=64:=rfl
 have e3:(u:Int) / 2 ^ 1=((u / 2:Nat):Int):=by omega
 rw[e3]
 have e4:(BitVec.ofInt 64 ((u / 2:Nat):Int)).toNat=u / 2:=by rw[BitVec.ofInt_natCast,BitVec.toNat_ofNat];omega
 have hw:∀ a:Nat,a<18446744073709551616->IntKind.i64.wrap (a:Int)=if a<9223372036854775808 then(a:Int)else(a:Int)-18446744073709551616:=by
  intro a ha
  have e:IntKind.i64.wrap (a:Int)=if((a:Int)%18446744073709551616) ≥ 9223372036854775808 then(a:Int)%18446744073709551616-18446744073709551616 else(a:Int)%18446744073709551616:=by
   unfold IntKind.wrap
   have b1:((2:Int) ^ IntKind.i64.bits)=18446744073709551616:=by decide
   have b2:((2:Int) ^ (IntKind.i64.bits-1))=9223372036854775808:=by decide
   have b3:IntKind.i64.signed=true:=rfl
   simp only[b1,b2,b3,Bool.true_and,decide_eq_true_eq]
  rw[e]
  split <;>split <;>omega
 unfold unzz
 simp only[bitI]
 rcases(show u%2=0∨u%2=1 by omega)with h0|h0
 ·rw[h0]
  change IntKind.i64.wrap (((BitVec.ofInt 64 ((u / 2:Nat):Int) ^^^ BitVec.ofInt 64 (0-((0:Nat):Int))).toNat:Nat):Int)=_
  have:(BitVec.ofInt 64 (0-((0:Nat):Int)))=0#64:=by decide
  rw[this,BitVec.xor_zero,e4,hw _ (by omega),if_pos (by omega),if_pos rfl]
 ·rw[h0]
  change IntKind.i64.wrap (((BitVec.ofInt 64 ((u / 2:Nat):Int) ^^^ BitVec.ofInt 64 (0-((1:Nat):Int))).toNat:Nat):Int)=_
  have:(BitVec.ofInt 64 (0-((1:Nat):Int)))=BitVec.allOnes 64:=by decide
  rw[this,BitVec.xor_allOnes,BitVec.toNat_not,e4,hw _ (by omega),if_neg (by omega),if_neg (by decide)]
  omega
end Go.Sym