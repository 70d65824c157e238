import Derived.Test.YtfflknhillcblaaDoorXR
import Derived.Test.YtfflknhillcblaaDoorXD
namespace Go.Sym
set_option linter.unusedVariables false
set_option linter.unusedSimpArgs false
open Go.Proofs
set_option maxRecDepth 100000
set_option maxHeartbeats 4000000
def anW (x y:Nat):Nat:=(BitVec.ofInt IntKind.u64.bits (x:Int)&&& ~~~ BitVec.ofInt IntKind.u64.bits (y:Int)).toNat
theorem anW_lt {x y:Nat} (hx:x<18446744073709551616):anW x y<18446744073709551616:=by
 unfold anW
 rw[BitVec.toNat_and,ofInt_nat hx]
 exact Nat.lt_of_le_of_lt Nat.and_le_left hx
theorem anW_bit {x y:Nat} (hx:x<18446744073709551616) (hy:y<18446744073709551616) (j:Nat):(anW x y).testBit j=(x.testBit j&& !y.testBit j):=by
 unfold anW
 rw[BitVec.testBit_toNat,BitVec.getLsbD_and,BitVec.getLsbD_not,<- BitVec.testBit_toNat,<- BitVec.testBit_toNat,ofInt_nat hx,ofInt_nat hy]
 by_cases h:j<64
 ·have:decide (j<IntKind.u64.bits)=true:=decide_eq_true h
  rw[this,Bool.true_and]
 ·have:x.testBit j=false:=Nat.testBit_lt_two_pow (Nat.lt_of_lt_of_le hx (by rw[two64];exact Nat.pow_le_pow_right (by decide) (by omega)))
  rw[this,Bool.false_and,Bool.false_and]
def diffAt (a b:List Nat) (k:Nat):List Nat:=(List.range 64).map fun i=>if i<k then anW (a.getD i default) (b.getD i default)else a.getD i default
def diffW (a b:List Nat):List Nat:=diffAt a b 64
theorem diffAt_len (a b:List Nat) (k:Nat):(diffAt a b k).length=64:=by simp[diffAt]
theorem diffAt_at {a b:List Nat} {k i:Nat} (h:i<64):(diffAt a b k).getD i default=if i<k then anW (a.getD i default) (b.getD i default)else a.getD i default:=by
 unfold diffAt;rw[List.getD_eq_getElem?_getD,List.getElem?_map,List.getElem?_range h];rfl
theorem diffAt_ok {a b:List Nat} (ha:WOk a) (k:Nat):WOk (diffAt a b k):=by
 refine⟨diffAt_len a b k,fun i=>?_⟩
 by_cases hi:i<64
 ·rw[diffAt_at hi]
  split
  ·exact anW_lt (ha.lt i)
  ·exact ha.lt i
 ·rw[getD_out (diffAt_len a b k) hi];decide
theorem diffAt_zero {a b:List Nat} (ha:WOk a):diffAt a b 0=a:=by
 apply List.ext_getElem (by rw[diffAt_len,ha.len])
 intro i h1 h2
 rw[ge_getD h1,ge_getD h2,diffAt_at (by rw[ha.len]at h2;exact h2),if_neg (by omega)]
theorem getD_setN {l:List Nat} {v i:Nat} {x:Nat}:(l.set v x).getD i default=if v=i/\i<l.length then x else l.getD i default:=by
 simp only[List.getD_eq_getElem?_getD,List.getElem?_set]
 by_cases h:v=i
 ·subst h
  by_cases h2:v<l.length
  ·simp[h2]
  ·simp[h2]
 ·simp[h]
theorem diffAt_succ {a b:List Nat} {k:Nat} (hk:k<64):diffAt a b (k+1)=(diffAt a b k).set k (anW (a.getD k default) (b.getD k default)):=by
 apply List.ext_getElem (by rw[List.length_set,diffAt_len,diffAt_len])
 intro i h1 h2
 have hi:i<64:=by rw[diffAt_len]at h1;exact h1
 rw[ge_getD h1,ge_getD h2,diffAt_at hi,getD_setN,diffAt_len,diffAt_at hi]
 by_cases e:k=i
 ·subst e;rw[if_pos (by omega),if_pos ⟨rfl,hi⟩]
 ·rw[if_neg (show ¬ (k=i/\i<64)from fun q=>e q.1)]
  by_cases h3:i<k
  ·rw[if_pos (show i<k+1 by omega),if_pos h3]
  ·rw[if_neg (show ¬ i<k+1 by omega),if_neg h3]
theorem diff_step {a b:List Nat} {k:Nat} (ha:WOk a) (hb:WOk b) (hk:k<64):IntKind.u64.wrap ((BitVec.ofInt IntKind.u64.bits (((diffAt a b k).getD (0+((k:Nat):Int).toNat) default:Nat):Int)&&& ~~~ BitVec.ofInt IntKind.u64.bits ((b.getD (0+((k:Nat):Int).toNat) default:Nat):Int)).toNat:Int)=((anW (a.getD k default) (b.getD k default):Nat):Int):=by
 rw[Nat.zero_add,Int.toNat_natCast,diffAt_at hk,if_neg (by omega)]
 exact u64_wrap (anW_lt (ha.lt _))
theorem hasW_diff {a b:List Nat} (ha:WOk a) (hb:WOk b) (k:Nat):hasW (diffW a b) k=(hasW a k&& !hasW b k):=by
 unfold hasW diffW
 by_cases hi:k / 64<64
 ·rw[diffAt_at hi,if_pos hi,anW_bit (ha.lt _) (hb.lt _)]
 ·rw[getD_out (diffAt_len a b 64) hi,getD_out ha.len hi,Nat.zero_testBit,Bool.false_and]
theorem diff_none {a b:List Nat} (ha:WOk a) (hb:WOk b) (h:∀ z∈elemsZ a,z∈elemsZ b):lenW (diffW a b)=0:=by
 have e:diffW a b=nilW:=by
  refine words_ext (diffAt_ok ha 64) .nil fun k=>?_
  rw[hasW_diff ha hb,hasW_nil]
  cases q:hasW a k with
  |false=>rfl
  |true=>
   have hk:k<4096:=by
    rcases Classical.em (k<4096)with w|w
    ·exact w
    ·rw[hasW_big ha (by omega)]at q;cases q
   have:=(elemsZ_mem.1 (h k (elemsZ_mem.2 ⟨by omega,by omega,by rw[Int.toNat_natCast];exact q⟩))).2.2
   rw[Int.toNat_natCast]at this
   rw[this];rfl
 rw[e];exact if_pos rfl
def diffC:CT where
 X:=TwoX
 pre:=fun x=>WOk x.a/\WOk x.b
 args:=fun x=>[setV x.a 100000,setV x.b 100001]
 g0:=fun x=>setH x.a .bor 100000++setH x.b .bor 100001
 res:=fun x=>setV (diffW x.a x.b) 1
 g1:=fun x=>setH (diffW x.a x.b) .own 1
def diffI (x:TwoX) (id:Nat):Option Inv:=match id with
 |0=>some { X:=Nat,ok:=fun k=>k<=64,fr:=fun k=>[(12,.i .i64 k),(4,.p 4 0 0),(5,.p 5 0 0),(6,.p 6 0 0)],hp:=fun k=>[(4,.one .own [.np]),(5,.rows .own kW 64 (encL encW (diffAt x.a x.b k))),(6,.rows .own kW 64 (encL encW x.b))],me:=fun k=>64-k }
 |_=>none
set_option maxRecDepth 100000 in
theorem diff_keeps:Keeps cfgN2 Tryd.f30 diffC diffI:=Eq.mp (show((∀ x1:TwoX,((WOk x1.a/\WOk x1.b)->(∃ x3:List Nat,((WOk x3)/\((((szW x1.a=szW x3)/\True)/\True)/\((((RLe (szW x3) (szW x1.a))/\(RowsEq [.int .u64] (szW x3) (encL encW x1.a) (encL encW x3)))/\True)/\(∃ x4:List Nat,((WOk x4)/\((((szW x1.b=szW x4)/\True)/\True)/\((((RLe (szW x4) (szW x1.b))/\(RowsEq [.int .u64] (szW x4) (encL encW x1.b) (encL encW x4)))/\True)/\((0=0/\((64:Nat)=(64:Nat)))/\((0=0/\((64:Nat)=(64:Nat)))/\(∃ x5:Nat,(((x5<=(64:Nat))/\(((0=(x5:Int))/\((0=0/\0=0)/\((0=0/\0=0)/\((0=0/\0=0)/\((((64:Nat)=(64:Nat))/\(RowsEq [.int .u64] 64 (encL encW x4) (encL encW x4)))/\(((szW x1.b=szW x1.b)/\True)/\((((64:Nat)=(64:Nat))/\(RowsEq [.int .u64] 64 (encL encW x3) (encL encW x3)))/\(((szW x1.a=szW x1.a)/\True)/\((0=0/\0=0)/\((0=0/\0=0)/\(((szW x1.a=szW x1.a)/\True)/\(((szW x1.b=szW x1.b)/\True)/\True))))))))))))/\((True/\True)/\((RLe 64 64/\(RowsEq [.int .u64] 64 (encL encW x3) (encL encW (diffAt x1.a x1.b x5))))/\((RLe 64 64/\(RowsEq [.int .u64] 64 (encL encW x4) (encL encW x1.b)))/\(((szW x1.b=szW x1.b)/\True)/\(((szW x1.a=szW x1.a)/\True)/\(((RLe (szW x1.a) (szW x1.a))/\(RowsEq [.int .u64] (szW x1.a) (encL encW x1.a) (encL encW x1.a)))/\(((RLe (szW x1.b) (szW x1.b))/\(RowsEq [.int .u64] (szW x1.b) (encL encW x1.b) (encL encW x1.b)))/\True)))))))))/\(∀ x6:Nat,((x6<=(64:Nat))->(((decide ((x6:Int)<64)=true)->((((0:Int)<=(x6:Int))/\((x6:Int)<(↑(64:Nat):Int)))/\((0+Int.toNat (x6:Int)<(64:Nat))/\((((0:Int)<=(x6:Int))/\((x6:Int)<(↑(64:Nat):Int)))/\((0+Int.toNat (x6:Int)<(64:Nat))/\((((0:Int)<=(x6:Int))/\((x6:Int)<(↑(64:Nat):Int)))/\(((0+Int.toNat (x6:Int)<(64:Nat))/\(True/\True))/\((((-9223372036854775808:Int)<=(x6:Int)+1)/\((x6:Int)+1<=(9223372036854775807:Int)))/\(∃ x9:Nat,(((64:Nat)-x9<(64:Nat)-x6)/\((x9<=(64:Nat))/\((((x6:Int)+1=(x9:Int))/\((0=0/\0=0)/\((0=0/\0=0)/\((0=0/\0=0)/\((((64:Nat)=(64:Nat))/\(RowsEq [.int .u64] 64 (encL encW x4) (encL encW x4)))/\(((szW x1.b=szW x1.b)/\True)/\((((64:Nat)=(64:Nat))/\(RowsEq [.int .u64] 64 (encL encW x3) (encL encW x3)))/\(((szW x1.a=szW x1.a)/\True)/\((0=0/\0=0)/\((0=0/\0=0)/\(((szW x1.a=szW x1.a)/\True)/\(((szW x1.b=szW x1.b)/\True)/\True))))))))))))/\((True/\True)/\((RLe 64 64/\(RowsEq [.int .u64] 64 (setRow (encL encW (diffAt x1.a x1.b x6)) (0+Int.toNat (x6:Int)) 0 (D.i (IntKind.wrap .u64 (↑(BitVec.toNat (BitVec.ofInt (IntKind.bits .u64) (↑((diffAt x1.a x1.b x6).getD (0+Int.toNat (x6:Int)) default):Int)&&& ~~~BitVec.ofInt (IntKind.bits .u64) (↑(x1.b.getD (0+Int.toNat (x6:Int)) default):Int))):Int))::@List.nil D)) (encL encW (diffAt x1.a x1.b x9))))/\((RLe 64 64/\(RowsEq [.int .u64] 64 (encL encW x1.b) (encL encW x1.b)))/\(((szW x1.b=szW x1.b)/\True)/\(((szW x1.a=szW x1.a)/\True)/\(((RLe (szW x1.a) (szW x1.a))/\(RowsEq [.int .u64] (szW x1.a) (encL encW x1.a) (encL encW x1.a)))/\(((RLe (szW x1.b) (szW x1.b))/\(RowsEq [.int .u64] (szW x1.b) (encL encW x1.b) (encL encW x1.b)))/\True)))))))))))))))))))/\((decide ((x6:Int)<64)=false)->(∃ x11:List Nat,((WOk x11)/\(((0=0/\0=0)/\True)/\(((RLe 64 64/\(RowsEq [.int .u64] 64 (encL encW (diffAt x1.a x1.b x6)) (encL encW x11)))/\True)/\(((szW x11=szW (diffW x1.a x1.b))/\True)/\(((RLe (szW (diffW x1.a x1.b)) (szW x11))/\(RowsEq [.int .u64] (szW (diffW x1.a x1.b)) (encL encW x11) (encL encW (diffW x1.a x1.b))))/\True)))))))))))))))))))))))))=(Keeps cfgN2 Tryd.f30 diffC diffI) by kernel_rfl) (fun x1=>fun h2=>⟨(TwoX.a x1),
(by(try dsimp only at *);grind),
⟨⟨rfl,trivial⟩,trivial⟩,
⟨⟨rl,rr⟩,trivial⟩,
(TwoX.b x1),
(by(try dsimp only at *);grind),
⟨⟨rfl,trivial⟩,trivial⟩,
⟨⟨rl,rr⟩,trivial⟩,
⟨rfl,rfl⟩,
⟨rfl,rfl⟩,
((0:Nat)),
⟨(by(try dsimp only at *);omega),
⟨(by(try dsimp only at *);omega),
⟨rfl,rfl⟩,
⟨rfl,rfl⟩,
⟨rfl,rfl⟩,
⟨rfl,rr⟩,
⟨rfl,trivial⟩,
⟨rfl,rr⟩,
⟨rfl,trivial⟩,
⟨rfl,rfl⟩,
⟨rfl,rfl⟩,
⟨rfl,trivial⟩,
⟨rfl,trivial⟩,trivial⟩,
⟨trivial,trivial⟩,
⟨rl,
(by
       (rw[diffAt_zero h2.1];exact rr))⟩,
⟨rl,rr⟩,
⟨rfl,trivial⟩,
⟨rfl,trivial⟩,
⟨rl,rr⟩,
⟨rl,rr⟩,trivial⟩,
fun x6=>fun h7=>⟨fun g8=>have h8:=dT g8;⟨⟨(by(try dsimp only at *);omega),
(by(try dsimp only at *);omega)⟩,
(by(try dsimp only at *);omega),
⟨(by(try dsimp only at *);omega),
(by(try dsimp only at *);omega)⟩,
(by(try dsimp only at *);omega),
⟨(by(try dsimp only at *);omega),
(by(try dsimp only at *);omega)⟩,
⟨(by(try dsimp only at *);omega),trivial,trivial⟩,
⟨(by(try dsimp only at *);omega),
(by(try dsimp only at *);omega)⟩,
(x6+(1:Nat)),
(by(try dsimp only at *);omega),
(by(try dsimp only at *);omega),
⟨(by(try dsimp only at *);omega),
⟨rfl,rfl⟩,
⟨rfl,rfl⟩,
⟨rfl,rfl⟩,
⟨rfl,rr⟩,
⟨rfl,trivial⟩,
⟨rfl,rr⟩,
⟨rfl,trivial⟩,
⟨rfl,rfl⟩,
⟨rfl,rfl⟩,
⟨rfl,trivial⟩,
⟨rfl,trivial⟩,trivial⟩,
⟨trivial,trivial⟩,
⟨rl,
(by
       (rw[diff_step h2.1 h2.2 (by omega),diffAt_succ (by omega),Nat.zero_add,Int.toNat_natCast];exact rowsEq_set (v:=_) (by rw[diffAt_len];omega) (by simp only[rowEq,Kd.eqv,kW];exact⟨rfl,trivial⟩)))⟩,
⟨rl,rr⟩,
⟨rfl,trivial⟩,
⟨rfl,trivial⟩,
⟨rl,rr⟩,
⟨rl,rr⟩,trivial⟩,
fun g10=>have h10:=dF g10;⟨(diffAt (TwoX.a x1) (TwoX.b x1) x6),
(by(try dsimp only at *);exact diffAt_ok h2.1 _),
⟨⟨rfl,rfl⟩,trivial⟩,
⟨⟨rl,rr⟩,trivial⟩,
⟨(by
       (obtain rfl:x6=64:=(by omega);first|rfl|exact Nat.le_refl _|exact rr)),trivial⟩,
⟨⟨(by
       (obtain rfl:x6=64:=(by omega);first|rfl|exact Nat.le_refl _|exact rr))⟩,
(by
       (obtain rfl:x6=64:=(by omega);first|rfl|exact Nat.le_refl _|exact rr))⟩,trivial⟩⟩⟩)
theorem diff_good:Good Tryd.prog 30 diffC/\FnOk Tryd.prog 30:=good_of tok conN2 (fn:=Tryd.f30) rfl (by decide+kernel) (fun _=>rfl) diff_keeps
end Go.Sym