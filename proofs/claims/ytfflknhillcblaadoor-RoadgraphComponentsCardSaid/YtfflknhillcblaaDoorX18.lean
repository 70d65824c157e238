import Derived.Test.YtfflknhillcblaaDoorX12
import Derived.Test.YtfflknhillcblaaDoorXD
namespace Go.Sym
set_option linter.unusedVariables false
set_option linter.unusedSimpArgs false
open Go.Proofs
set_option maxRecDepth 100000
set_option maxHeartbeats 4000000
def uoW (x y:Nat):Nat:=(BitVec.ofInt IntKind.u64.bits (x:Int)|||BitVec.ofInt IntKind.u64.bits (y:Int)).toNat
theorem uoW_lt {x y:Nat}:uoW x y<18446744073709551616:=by
 have h:=BitVec.isLt (BitVec.ofInt IntKind.u64.bits (x:Int)|||BitVec.ofInt IntKind.u64.bits (y:Int))
 exact h
theorem uoW_bit {x y:Nat} (hx:x<18446744073709551616) (hy:y<18446744073709551616) (j:Nat):(uoW x y).testBit j=(x.testBit j||y.testBit j):=by
 unfold uoW
 rw[BitVec.testBit_toNat,BitVec.getLsbD_or,<- BitVec.testBit_toNat,<- BitVec.testBit_toNat,ofInt_nat hx,ofInt_nat hy]
def unAt (a b:List Nat) (k:Nat):List Nat:=(List.range 64).map fun i=>if i<k then uoW (a.getD i default) (b.getD i default)else a.getD i default
def unW (a b:List Nat):List Nat:=unAt a b 64
theorem unAt_len (a b:List Nat) (k:Nat):(unAt a b k).length=64:=by simp[unAt]
theorem unAt_at {a b:List Nat} {k i:Nat} (h:i<64):(unAt a b k).getD i default=if i<k then uoW (a.getD i default) (b.getD i default)else a.getD i default:=by
 unfold unAt;rw[List.getD_eq_getElem?_getD,List.getElem?_map,List.getElem?_range h];rfl
theorem unAt_ok {a b:List Nat} (ha:WOk a) (k:Nat):WOk (unAt a b k):=by
 refine⟨unAt_len a b k,fun i=>?_⟩
 by_cases hi:i<64
 ·rw[unAt_at hi]
  split
  ·exact uoW_lt
  ·exact ha.lt i
 ·rw[getD_out (unAt_len a b k) hi];decide
theorem unAt_zero {a b:List Nat} (ha:WOk a):unAt a b 0=a:=by
 apply List.ext_getElem (by rw[unAt_len,ha.len])
 intro i h1 h2
 rw[ge_getD h1,ge_getD h2,unAt_at (by rw[ha.len]at h2;exact h2),if_neg (by omega)]
theorem unAt_succ {a b:List Nat} {k:Nat} (hk:k<64):unAt a b (k+1)=(unAt a b k).set k (uoW (a.getD k default) (b.getD k default)):=by
 apply List.ext_getElem (by rw[List.length_set,unAt_len,unAt_len])
 intro i h1 h2
 have hi:i<64:=by rw[unAt_len]at h1;exact h1
 rw[ge_getD h1,ge_getD h2,unAt_at hi,getD_setN,unAt_len,unAt_at hi]
 by_cases e:k=i
 ·subst e;rw[if_pos (by omega),if_pos ⟨rfl,hi⟩]
 ·rw[if_neg (show ¬ (k=i/\i<64)from fun q=>e q.1)]
  by_cases h3:i<k
  ·rw[if_pos (show i<k+1 by omega),if_pos h3]
  ·rw[if_neg (show ¬ i<k+1 by omega),if_neg h3]
theorem un_step {a b:List Nat} {k:Nat} (ha:WOk a) (hb:WOk b) (hk:k<64):IntKind.u64.wrap ((BitVec.ofInt IntKind.u64.bits (((unAt a b k).getD (0+((k:Nat):Int).toNat) default:Nat):Int)|||BitVec.ofInt IntKind.u64.bits ((b.getD (0+((k:Nat):Int).toNat) default:Nat):Int)).toNat:Int)=((uoW (a.getD k default) (b.getD k default):Nat):Int):=by
 rw[Nat.zero_add,Int.toNat_natCast,unAt_at hk,if_neg (by omega)]
 exact u64_wrap uoW_lt
theorem hasW_un {a b:List Nat} (ha:WOk a) (hb:WOk b) (k:Nat):hasW (unW a b) k=(hasW a k||hasW b k):=by
 unfold hasW unW
 by_cases hi:k / 64<64
 ·rw[unAt_at hi,if_pos hi,uoW_bit (ha.lt _) (hb.lt _)]
 ·rw[getD_out (unAt_len a b 64) hi,getD_out ha.len hi,getD_out hb.len hi,Nat.zero_testBit,Bool.false_or]
def unC:CT where
 X:=TwoX
 pre:=fun x=>WOk x.a/\WOk x.b
 args:=fun x=>[setV x.a 100000,setV x.b 100001]
 g0:=fun x=>setH x.a .bor 100000++setH x.b .bor 100001
 res:=fun x=>setV (unW x.a x.b) 1
 g1:=fun x=>setH (unW x.a x.b) .own 1
def unI (x:TwoX) (id:Nat):Option Inv:=match id with
 |0=>some { X:=Nat,ok:=fun k=>k<=64,fr:=fun k=>[(12,.i .i64 k),(4,.p 4 0 0),(5,.p 5 0 0),(6,.p 6 0 0)],hp:=fun k=>[(4,.one .own [.np]),(5,.rows .own kW 64 (encL encW (unAt x.a x.b k))),(6,.rows .own kW 64 (encL encW x.b))],me:=fun k=>64-k }
 |_=>none
set_option maxRecDepth 100000 in
theorem un_keeps:Keeps cfgN2 Tryd.f27 unC unI:=Eq.mp (show((∀ x1:TwoX,((WOk x1.a/\WOk x1.b)->(∃ x3:List Nat,((WOk x3)/\((((szW x1.a=szW x3)/\True)/\True)/\((((RLe (szW x3) (szW x1.a))/\(RowsEq [.int .u64] (szW x3) (encL encW x1.a) (encL encW x3)))/\True)/\(∃ x4:List Nat,((WOk x4)/\((((szW x1.b=szW x4)/\True)/\True)/\((((RLe (szW x4) (szW x1.b))/\(RowsEq [.int .u64] (szW x4) (encL encW x1.b) (encL encW x4)))/\True)/\((0=0/\((64:Nat)=(64:Nat)))/\((0=0/\((64:Nat)=(64:Nat)))/\(∃ x5:Nat,(((x5<=(64:Nat))/\(((0=(x5:Int))/\((0=0/\0=0)/\((0=0/\0=0)/\((0=0/\0=0)/\((((64:Nat)=(64:Nat))/\(RowsEq [.int .u64] 64 (encL encW x4) (encL encW x4)))/\(((szW x1.b=szW x1.b)/\True)/\((((64:Nat)=(64:Nat))/\(RowsEq [.int .u64] 64 (encL encW x3) (encL encW x3)))/\(((szW x1.a=szW x1.a)/\True)/\((0=0/\0=0)/\((0=0/\0=0)/\(((szW x1.a=szW x1.a)/\True)/\(((szW x1.b=szW x1.b)/\True)/\True))))))))))))/\((True/\True)/\((RLe 64 64/\(RowsEq [.int .u64] 64 (encL encW x3) (encL encW (unAt x1.a x1.b x5))))/\((RLe 64 64/\(RowsEq [.int .u64] 64 (encL encW x4) (encL encW x1.b)))/\(((szW x1.b=szW x1.b)/\True)/\(((szW x1.a=szW x1.a)/\True)/\(((RLe (szW x1.a) (szW x1.a))/\(RowsEq [.int .u64] (szW x1.a) (encL encW x1.a) (encL encW x1.a)))/\(((RLe (szW x1.b) (szW x1.b))/\(RowsEq [.int .u64] (szW x1.b) (encL encW x1.b) (encL encW x1.b)))/\True)))))))))/\(∀ x6:Nat,((x6<=(64:Nat))->(((decide ((x6:Int)<64)=true)->((((0:Int)<=(x6:Int))/\((x6:Int)<(↑(64:Nat):Int)))/\((0+Int.toNat (x6:Int)<(64:Nat))/\((((0:Int)<=(x6:Int))/\((x6:Int)<(↑(64:Nat):Int)))/\((0+Int.toNat (x6:Int)<(64:Nat))/\((((0:Int)<=(x6:Int))/\((x6:Int)<(↑(64:Nat):Int)))/\(((0+Int.toNat (x6:Int)<(64:Nat))/\(True/\True))/\((((-9223372036854775808:Int)<=(x6:Int)+1)/\((x6:Int)+1<=(9223372036854775807:Int)))/\(∃ x9:Nat,(((64:Nat)-x9<(64:Nat)-x6)/\((x9<=(64:Nat))/\((((x6:Int)+1=(x9:Int))/\((0=0/\0=0)/\((0=0/\0=0)/\((0=0/\0=0)/\((((64:Nat)=(64:Nat))/\(RowsEq [.int .u64] 64 (encL encW x4) (encL encW x4)))/\(((szW x1.b=szW x1.b)/\True)/\((((64:Nat)=(64:Nat))/\(RowsEq [.int .u64] 64 (encL encW x3) (encL encW x3)))/\(((szW x1.a=szW x1.a)/\True)/\((0=0/\0=0)/\((0=0/\0=0)/\(((szW x1.a=szW x1.a)/\True)/\(((szW x1.b=szW x1.b)/\True)/\True))))))))))))/\((True/\True)/\((RLe 64 64/\(RowsEq [.int .u64] 64 (setRow (encL encW (unAt x1.a x1.b x6)) (0+Int.toNat (x6:Int)) 0 (D.i (IntKind.wrap .u64 (↑(BitVec.toNat (BitVec.ofInt (IntKind.bits .u64) (↑((unAt x1.a x1.b x6).getD (0+Int.toNat (x6:Int)) default):Int)|||BitVec.ofInt (IntKind.bits .u64) (↑(x1.b.getD (0+Int.toNat (x6:Int)) default):Int))):Int))::@List.nil D)) (encL encW (unAt x1.a x1.b x9))))/\((RLe 64 64/\(RowsEq [.int .u64] 64 (encL encW x1.b) (encL encW x1.b)))/\(((szW x1.b=szW x1.b)/\True)/\(((szW x1.a=szW x1.a)/\True)/\(((RLe (szW x1.a) (szW x1.a))/\(RowsEq [.int .u64] (szW x1.a) (encL encW x1.a) (encL encW x1.a)))/\(((RLe (szW x1.b) (szW x1.b))/\(RowsEq [.int .u64] (szW x1.b) (encL encW x1.b) (encL encW x1.b)))/\True)))))))))))))))))))/\((decide ((x6:Int)<64)=false)->(∃ x11:List Nat,((WOk x11)/\(((0=0/\0=0)/\True)/\(((RLe 64 64/\(RowsEq [.int .u64] 64 (encL encW (unAt x1.a x1.b x6)) (encL encW x11)))/\True)/\(((szW x11=szW (unW x1.a x1.b))/\True)/\(((RLe (szW (unW x1.a x1.b)) (szW x11))/\(RowsEq [.int .u64] (szW (unW x1.a x1.b)) (encL encW x11) (encL encW (unW x1.a x1.b))))/\True)))))))))))))))))))))))))=(Keeps cfgN2 Tryd.f27 unC unI) by kernel_rfl) (fun x1=>fun h2=>⟨(TwoX.a x1),
(by(try dsimp only at *);grind),
⟨⟨rfl,trivial⟩,trivial⟩,
⟨⟨rl,rr⟩,trivial⟩,
(TwoX.b x1),
(by(try dsimp only at *);grind),
⟨⟨rfl,trivial⟩,trivial⟩,
⟨⟨rl,rr⟩,trivial⟩,
⟨rfl,rfl⟩,
⟨rfl,rfl⟩,
((0:Nat)),
⟨(by(try dsimp only at *);omega),
⟨(by(try dsimp only at *);omega),
⟨rfl,rfl⟩,
⟨rfl,rfl⟩,
⟨rfl,rfl⟩,
⟨rfl,rr⟩,
⟨rfl,trivial⟩,
⟨rfl,rr⟩,
⟨rfl,trivial⟩,
⟨rfl,rfl⟩,
⟨rfl,rfl⟩,
⟨rfl,trivial⟩,
⟨rfl,trivial⟩,trivial⟩,
⟨trivial,trivial⟩,
⟨rl,
(by
       (rw[unAt_zero h2.1];exact rr))⟩,
⟨rl,rr⟩,
⟨rfl,trivial⟩,
⟨rfl,trivial⟩,
⟨rl,rr⟩,
⟨rl,rr⟩,trivial⟩,
fun x6=>fun h7=>⟨fun g8=>have h8:=dT g8;⟨⟨(by(try dsimp only at *);omega),
(by(try dsimp only at *);omega)⟩,
(by(try dsimp only at *);omega),
⟨(by(try dsimp only at *);omega),
(by(try dsimp only at *);omega)⟩,
(by(try dsimp only at *);omega),
⟨(by(try dsimp only at *);omega),
(by(try dsimp only at *);omega)⟩,
⟨(by(try dsimp only at *);omega),trivial,trivial⟩,
⟨(by(try dsimp only at *);omega),
(by(try dsimp only at *);omega)⟩,
(x6+(1:Nat)),
(by(try dsimp only at *);omega),
(by(try dsimp only at *);omega),
⟨(by(try dsimp only at *);omega),
⟨rfl,rfl⟩,
⟨rfl,rfl⟩,
⟨rfl,rfl⟩,
⟨rfl,rr⟩,
⟨rfl,trivial⟩,
⟨rfl,rr⟩,
⟨rfl,trivial⟩,
⟨rfl,rfl⟩,
⟨rfl,rfl⟩,
⟨rfl,trivial⟩,
⟨rfl,trivial⟩,trivial⟩,
⟨trivial,trivial⟩,
⟨rl,
(by
       (rw[un_step h2.1 h2.2 (by omega),unAt_succ (by omega),Nat.zero_add,Int.toNat_natCast];exact rowsEq_set (v:=_) (by rw[unAt_len];omega) (by simp only[rowEq,Kd.eqv,kW];exact⟨rfl,trivial⟩)))⟩,
⟨rl,rr⟩,
⟨rfl,trivial⟩,
⟨rfl,trivial⟩,
⟨rl,rr⟩,
⟨rl,rr⟩,trivial⟩,
fun g10=>have h10:=dF g10;⟨(unAt (TwoX.a x1) (TwoX.b x1) x6),
(by(try dsimp only at *);exact unAt_ok h2.1 _),
⟨⟨rfl,rfl⟩,trivial⟩,
⟨⟨rl,rr⟩,trivial⟩,
⟨(by
       (obtain rfl:x6=64:=(by omega);first|rfl|exact Nat.le_refl _|exact rr)),trivial⟩,
⟨⟨(by
       (obtain rfl:x6=64:=(by omega);first|rfl|exact Nat.le_refl _|exact rr))⟩,
(by
       (obtain rfl:x6=64:=(by omega);first|rfl|exact Nat.le_refl _|exact rr))⟩,trivial⟩⟩⟩)
theorem un_good:Good Tryd.prog 27 unC/\FnOk Tryd.prog 27:=good_of tok conN2 (fn:=Tryd.f27) rfl (by decide+kernel) (fun _=>rfl) un_keeps
theorem un_mem {a b:List Nat} (ha:WOk a) (hb:WOk b) {z:Int}:z∈elemsZ (unW a b)↔z∈elemsZ a∨z∈elemsZ b:=by
 rw[elemsZ_mem,elemsZ_mem,elemsZ_mem,hasW_un ha hb,Bool.or_eq_true]
 constructor
 ·rintro⟨h1,h2,h3⟩;exact h3.imp (fun q=>⟨h1,h2,q⟩) (fun q=>⟨h1,h2,q⟩)
 ·rintro(⟨h1,h2,h3⟩|⟨h1,h2,h3⟩)
  ·exact⟨h1,h2,.inl h3⟩
  ·exact⟨h1,h2,.inr h3⟩
theorem ones_small:∀ x,x<4096->onesF x=(((List.range 64).filter fun j=>x.testBit j).length:Nat):=by
 have h:((List.range 4096).all fun x=>decide (onesF x=(((List.range 64).filter fun j=>x.testBit j).length:Nat)))=true:=by decide+kernel
 intro x hx
 exact of_decide_eq_true (List.all_eq_true.1 h x (List.mem_range.2 hx))
theorem ones_bits {x:Nat} (h:x<4096):onesF x=((bitsOf x).length:Nat):=ones_small x h
theorem len_small {ws:List Nat} (h:WOk ws) (hs:∀ z∈elemsZ ws,z<12):lenW ws=(elemsZ ws).length:=by
 have no:∀ k,12<=k->hasW ws k=false:=by
  intro k hk
  cases q:hasW ws k with
  |false=>rfl
  |true=>
   have hb:k<4096:=by
    rcases Classical.em (k<4096)with w|w
    ·exact w
    ·rw[hasW_big h (by omega)]at q;cases q
   have:=hs (k:Int) (elemsZ_mem.2 ⟨by omega,by omega,by rw[Int.toNat_natCast];exact q⟩)
   omega
 have w0:∀ i,1<=i->ws.getD i default=0:=by
  intro i hi
  apply Nat.eq_of_testBit_eq
  intro j
  rw[Nat.zero_testBit]
  by_cases hj:j<64
  ·have:=no (64*i+j) (by omega)
   unfold hasW at this
   rwa [show(64*i+j) / 64=i by omega,show(64*i+j)%64=j by omega]at this
  ·exact Nat.testBit_lt_two_pow (Nat.lt_of_lt_of_le (h.lt i) (by rw[two64];exact Nat.pow_le_pow_right (by decide) (by omega)))
 have x0:ws.getD 0 default<4096:=by
  rcases Nat.lt_or_ge (ws.getD 0 default) (2 ^ 12)with q|q
  ·exact q
  ·obtain⟨j,hj,hb⟩:=Nat.exists_ge_and_testBit_of_ge_two_pow q
   have hj2:j<64:=by
    rcases Nat.lt_or_ge j 64 with r|r
    ·exact r
    ·rw[Nat.testBit_lt_two_pow (Nat.lt_of_lt_of_le (h.lt 0) (by rw[two64];exact Nat.pow_le_pow_right (by decide) r))]at hb;cases hb
   have:=no j hj
   unfold hasW at this
   rw[show j / 64=0 by omega,show j%64=j by omega]at this
   rw[this]at hb;cases hb
 have e1:∀ k,lenAt ws (k+1)=onesF (ws.getD 0 default):=by
  intro k
  induction k with
  |zero=>rw[lenAt_succ];simp[lenAt]
  |succ k ih=>rw[lenAt_succ,ih,w0 (k+1) (by omega)];rw[show onesF 0=0 by decide+kernel];omega
 have e2:(elemsZ ws).length=(bitsOf (ws.getD 0 default)).length:=by
  rw[elemsZ_len]
  unfold elemsW rowsFrom
  rw[show 64-0=63+1 from rfl,List.range'_succ,List.flatMap_cons,List.length_append,List.length_map]
  have:((List.range' (0+1) 63).flatMap fun i=>(bitsOf (ws.getD i default)).map (64*i+·))=[]:=by
   rw[List.flatMap_eq_nil_iff]
   intro i hi
   rw[w0 i (by have:=List.mem_range'_1.1 hi;omega),bitsOf_zero];rfl
  rw[this];rfl
 rw[e2,<- ones_bits x0]
 unfold lenW
 split
 ·rename_i q
  rw[q]
  show(0:Int)=_
  decide+kernel
 ·exact e1 63
end Go.Sym