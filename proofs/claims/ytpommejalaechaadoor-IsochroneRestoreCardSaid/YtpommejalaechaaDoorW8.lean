import Derived.Test.YtpommejalaechaaDoorW6
import Derived.Test.YtpommejalaechaaDoorW7
import Derived.Test.YtpommejalaechaaDoorXD
namespace Go.Sym
open Go.Proofs
set_option maxRecDepth 100000
set_option maxHeartbeats 4000000
abbrev RG (a b : Gr) : Prop := RowsEq kG 1 (encG a) (encG b)
abbrev RB (n : Nat) (a b : List Bool) : Prop := RowsEq kB n (encL encBo a) (encL encBo b)
def exE : List Ed := [⟨0, 1, 5⟩, ⟨1, 2, 5⟩]
def exG : Gr := ⟨3, exE⟩
def e0 : MS := ⟨exG, [5, 5], [false, false, false], [], [], true⟩
def e1 : MS := addM e0 0
def e2 : MS := tmM e1 2
def e3 : MS := addM e2 1
def e4 : MS := tmM e3 2
def e5 : MS := setM e4 1 4611686018427387904
def exW : List Nat := ofW (wiL e5.dI 9) (wiL e5.dI 9).length
theorem ex_1 : addE e0 0 = 0 /\ tmD e1 2 = 10 /\ tmS e1 2 = 0 /\ addE e2 1 = 0 /\ tmD e3 2 = 5 /\ tmS e3 2 = 1 := by decide +kernel
theorem ex_2 : setN e4 1 4611686018427387904 = 1 /\ setE e4 1 4611686018427387904 = 0 /\ (faL e5.dI).1 = 4611686018427387904 /\ (faL e5.dI).2 = 2 := by decide +kernel
theorem e0_ok : MSok e0 := by
 have g : GOk exG := gok (x := ⟨3, exE⟩) (by decide) (by decide) (by decide) (by decide)
 refine ⟨g, by decide, rfl, fun i hi => ?_, rfl, by decide, by decide, fun q => by cases q⟩
 have hi : i < 2 := hi
 rcases (show i = 0 ∨ i = 1 by omega) with h | h <;> subst h <;> exact .inr ⟨by decide, by decide⟩
theorem tmM_ok {x : MS} (h : MSok x) (v : Int) : MSok (tmM x v) := by
 unfold tmM; split
 ·exact mup_ok h
 ·exact h
theorem e1_ok : MSok e1 := addM_ok e0_ok 0
theorem e2_ok : MSok e2 := tmM_ok e1_ok 2
theorem e3_ok : MSok e3 := addM_ok e2_ok 1
theorem e4_ok : MSok e4 := tmM_ok e3_ok 2
theorem e5_ok : MSok e5 := setM_ok e4_ok 1 _
def niC (x : MS) : List SV := [.p 100001 0 0, .sl 100002 0 x.g.es.length, .sl 100003 0 x.g.n, .ns, .ns, .b x.od]
def addNC : CT where
 X := MNx
 pre := fun x => x.m.src.length = x.m.g.n
 args := fun x => [.p 100000 0 0, .i .i64 x.v]
 g0 := fun x => [(100000, .one .own (niC x.m)), (100001, .rows .bor kG 1 (encG x.m.g)), (100002, .rows .bor k1 x.m.g.es.length (encL encI x.m.ts)), (100003, .rows .own kB x.m.g.n (encL encBo x.m.src))]
 res := fun x => .i .i64 (addE x.m x.v)
 g1 := fun x => [(100000, .one .own (niC ⟨x.m.g, x.m.ts, x.m.src, [], [], (addM x.m x.v).od⟩)), (100003, .rows .own kB x.m.g.n (encL encBo (addM x.m x.v).src))]
set_option maxRecDepth 100000 in
theorem addN_keeps : Keeps cfgJ4 Tryd.f12 addNC noIv := Eq.mp (show ((∀ x1 : MNx, (x1.m.src.length = x1.m.g.n -> (∃ x3 : MNx, (True/\(((0=0 /\ 0=0)/\(x1.v = x3.v/\True))/\((((0=0 /\ 0=0)/\((0=0 /\ x1.m.g.es.length = x3.m.g.es.length)/\((0=0 /\ x1.m.g.n = x3.m.g.n)/\((True/\(0=0/\(x3.m.dist.length = (0 : Nat))))/\((True/\(0=0/\(x3.m.so.length = (0 : Nat))))/\(x1.m.od = x3.m.od/\True))))))/\((RLe 1 1/\(RG x1.m.g x3.m.g))/\(((RLe x3.m.g.es.length x1.m.g.es.length)/\(RI x3.m.g.es.length x1.m.ts x3.m.ts))/\(((RLe x3.m.g.n x1.m.g.n)/\(RB x3.m.g.n x1.m.src x3.m.src))/\((x3.m.dist.length = (0 : Nat))/\((x3.m.so.length = (0 : Nat))/\True))))))/\((((!inN1 x3.m x3.v) = true)-> (((1 : Int) = addE x1.m x1.v)/\(((0=0 /\ 0=0)/\((0=0 /\ x1.m.g.es.length = x1.m.g.es.length)/\((0=0 /\ x1.m.g.n = x1.m.g.n)/\(True/\(True/\((x1.m.od = (addM x1.m x1.v).od)/\True))))))/\(((RLe x1.m.g.n x1.m.g.n)/\(RB x1.m.g.n x1.m.src (addM x1.m x1.v).src))/\True))))/\(((!inN1 x3.m x3.v) = false)-> ((((0 : Int) <= x1.v)/\(x1.v < (x1.m.g.n : Int)))/\((0 + Int.toNat x1.v < x1.m.g.n)/\(((x1.m.src.getD (0 + Int.toNat x1.v) default = true)-> (((5 : Int) = addE x1.m x1.v)/\(((0=0 /\ 0=0)/\((0=0 /\ x1.m.g.es.length = x1.m.g.es.length)/\((0=0 /\ x1.m.g.n = x1.m.g.n)/\(True/\(True/\((x1.m.od = (addM x1.m x1.v).od)/\True))))))/\(((RLe x1.m.g.n x1.m.g.n)/\(RB x1.m.g.n x1.m.src (addM x1.m x1.v).src))/\True))))/\((x1.m.src.getD (0 + Int.toNat x1.v) default = false)-> ((((0 : Int) <= x1.v)/\(x1.v < (x1.m.g.n : Int)))/\(((0 + Int.toNat x1.v < x1.m.g.n)/\(True/\True))/\(((0 : Int) = addE x1.m x1.v)/\(((0=0 /\ 0=0)/\((0=0 /\ x1.m.g.es.length = x1.m.g.es.length)/\((0=0 /\ x1.m.g.n = x1.m.g.n)/\(True/\(True/\((true = (addM x1.m x1.v).od)/\True))))))/\(((RLe x1.m.g.n x1.m.g.n)/\(RowsEq (Kd.bool :: []) x1.m.g.n (setRow (encL encBo x1.m.src) (0 + Int.toNat x1.v) 0 (D.b true :: @List.nil D)) (encL encBo (addM x1.m x1.v).src)))/\True)))))))))))))))))) = (Keeps cfgJ4 Tryd.f12 addNC noIv) by kernel_rfl) (fun x1 => fun h2 => ⟨({ m := { g := MS.g (MNx.m x1), ts := MS.ts (MNx.m x1), src := MS.src (MNx.m x1), dist := @List.nil Int, so := @List.nil Int, od := MS.od (MNx.m x1) : MS }, v := MNx.v x1 : MNx }),trivial,
⟨⟨rfl,rfl⟩,rfl,trivial⟩,
⟨⟨⟨rfl,rfl⟩,
⟨rfl,rfl⟩,
⟨rfl,rfl⟩,
⟨trivial,rfl,
(by grind)⟩,
⟨trivial,rfl,
(by grind)⟩,rfl,trivial⟩,
⟨rl,rr⟩,
⟨rl,rr⟩,
⟨rl,rr⟩,
(by grind),
(by grind),trivial⟩,
fun h4 => ⟨((add_1 (x := x1.m) (v := x1.v) ‹_›).2.symm),
⟨⟨rfl,rfl⟩,
⟨rfl,rfl⟩,
⟨rfl,rfl⟩,trivial,trivial,
(by rw [(add_1 (x := x1.m) (v := x1.v) ‹_›).1]),trivial⟩,
⟨rl,
(by rw [(add_1 (x := x1.m) (v := x1.v) ‹_›).1]; exact rr)⟩,trivial⟩,
fun h5 => ⟨⟨(by have q := inN1_yes (x := x1.m) (v := x1.v) h5; omega),
(by have q := inN1_yes (x := x1.m) (v := x1.v) h5; omega)⟩,
(by have q := inN1_yes (x := x1.m) (v := x1.v) h5; omega),
fun h6 => ⟨(by (try simp only [Nat.zero_add] at *); have e := add_2 (x := x1.m) (v := x1.v) ‹_› ‹_›; exact e.2.symm),
⟨⟨rfl,rfl⟩,
⟨rfl,rfl⟩,
⟨rfl,rfl⟩,trivial,trivial,
(by (try simp only [Nat.zero_add] at *); have e := add_2 (x := x1.m) (v := x1.v) ‹_› ‹_›; (rw [e.1]; done)),trivial⟩,
⟨rl,
(by (try simp only [Nat.zero_add] at *); have e := add_2 (x := x1.m) (v := x1.v) ‹_› ‹_›; (rw [e.1]; exact rr))⟩,trivial⟩,
fun h7 => ⟨⟨(by have q := inN1_yes (x := x1.m) (v := x1.v) h5; omega),
(by have q := inN1_yes (x := x1.m) (v := x1.v) h5; omega)⟩,
⟨(by have q := inN1_yes (x := x1.m) (v := x1.v) h5; omega),trivial,trivial⟩,
(by (try simp only [Nat.zero_add] at *); have e := add_3 (x := x1.m) (v := x1.v) ‹_› ‹_›; exact e.2.symm),
⟨⟨rfl,rfl⟩,
⟨rfl,rfl⟩,
⟨rfl,rfl⟩,trivial,trivial,
(by (try simp only [Nat.zero_add] at *); have e := add_3 (x := x1.m) (v := x1.v) ‹_› ‹_›; (rw [e.1]; done)),trivial⟩,
⟨rl,
(by rw [(add_3 (x := x1.m) (v := x1.v) h5 (by simpa using h7)).1]; simp only [Nat.zero_add]; exact rows_setB (by have q := inN1_yes (x := x1.m) (v := x1.v) h5; omega))⟩,trivial⟩⟩⟩)
theorem addN_good : Good Tryd.prog 12 addNC /\ FnOk Tryd.prog 12 := good_of tok conJ4 (fn := Tryd.f12) rfl (by decide +kernel) (fun _ => rfl) addN_keeps
def selN : List SV -> Hp -> Bool := fun args G => match args with
 | .p l _ _ :: _ => (match G l with
  | some (.one _ cs) => (match cs with
   | [_, _, _, .ns, _, _] => true
   | _ => false)
  | _ => false)
 | _ => false
def awC : CT where
 X := Unit
 pre := fun _ => True
 args := fun _ => []
 g0 := fun _ => []
 res := fun _ => .b true
 g1 := fun _ => []
def cfgAw : Cfg := ⟨T, [], [(17, .one (netYC .own)), (18, .one newIC), (12, .two selN (.one addNC) (.one addSC)), (11, .one timC), (16, .one setTC), (23, .one farC), (20, .one wiC), (27, .one strC)], noInv, 14, {}⟩
theorem conAw : ConOk Tryd.prog cfgAw := ConL.ok (.cons (ConL.one netYo_good) (.cons (ConL.one newI_good) (.cons (ConL.two (ConL.one addN_good) (ConL.one addS_good)) (.cons (ConL.one tim_good) (.cons (ConL.one setT_good) (.cons (ConL.one far_good) (.cons (ConL.one wi_good) (.cons (ConL.one str_good) .nil))))))))
set_option maxRecDepth 100000 in
theorem aw_keeps : Keeps cfgAw Tryd.f9 awC noIv := Eq.mp (show ((∀ x1 : Unit, (True -> (((True/\(True/\(True/\True)))/\((True/\(True/\(True/\True)))/\True))/\(∃ x3 : NewX, ((rightB x3 = true)/\(((3 = x3.n/\((0=0/\((2 : Nat) = x3.es.length))/\True))/\True)/\((((RLe x3.es.length 2)/\(RowsEq [.int .i64, .int .i64, .int .i64] x3.es.length (litRows ((D.i 0 :: D.i 1 :: D.i 5 :: @List.nil D) :: (D.i 1 :: D.i 2 :: D.i 5 :: @List.nil D) :: @List.nil (List D))) (encL encE x3.es)))/\True)/\(((True/\True)/\((True/\True)/\True))/\(∃ x4 : NIx, ((GOk x4.g)/\(((0=0 /\ 0=0)/\((0=0/\((2 : Nat) = x4.ts.length))/\True))/\(((RLe 1 1/\(RG (NewX.g x3) x4.g))/\(((RLe x4.ts.length 2)/\(RowsEq [.int .i64] x4.ts.length (litRows ((D.i 5 :: @List.nil D) :: (D.i 5 :: @List.nil D) :: @List.nil (List D))) (encL encI x4.ts)))/\True))/\(((decide ((0 : Int) ≠ (0 : Int)) = false)-> (∃ x6 : MNx, (x6.m.src.length = x6.m.g.n/\(((0=0 /\ 0=0)/\(0 = x6.v/\True))/\((((0=0 /\ 0=0)/\((0=0 /\ x4.g.es.length = x6.m.g.es.length)/\((0=0 /\ x4.g.n = x6.m.g.n)/\(True/\(True/\(true = x6.m.od/\True))))))/\((RLe 1 1/\(RG (NewX.g x3) x6.m.g))/\(((RLe x6.m.g.es.length x4.g.es.length)/\(RI x6.m.g.es.length (ttL x4.ts x4.g.es.length) x6.m.ts))/\(((RLe x6.m.g.n x4.g.n)/\(RB x6.m.g.n (List.replicate x4.g.n false) x6.m.src))/\True))))/\(((decide (addE x6.m x6.v ≠ (0 : Int)) = true)-> (false = true/\True))/\((decide (addE x6.m x6.v ≠ (0 : Int)) = false)-> (∃ x9 : MNx, ((MSok x9.m)/\(((0=0 /\ 0=0)/\(2 = x9.v/\True))/\((((0=0 /\ 0=0)/\((0=0 /\ x6.m.g.es.length = x9.m.g.es.length)/\((0=0 /\ x6.m.g.n = x9.m.g.n)/\((True/\(0=0/\(x9.m.dist.length = (0 : Nat))))/\((True/\(0=0/\(x9.m.so.length = (0 : Nat))))/\(((addM x6.m x6.v).od = x9.m.od)/\True))))))/\((RLe 1 1/\(RG (NewX.g x3) x9.m.g))/\(((RLe x9.m.g.es.length x4.g.es.length)/\(RI x9.m.g.es.length (ttL x4.ts x4.g.es.length) x9.m.ts))/\(((RLe x9.m.g.n x6.m.g.n)/\(RB x9.m.g.n (addM x6.m x6.v).src x9.m.src))/\((x9.m.dist.length = (0 : Nat))/\((x9.m.so.length = (0 : Nat))/\True))))))/\(((decide (tmD x9.m x9.v ≠ (10 : Int)) = false)-> (((decide (tmS x9.m x9.v ≠ (0 : Int)) = false)-> (∃ x12 : MNx, (x12.m.src.length = x12.m.g.n/\(((0=0 /\ 0=0)/\(1 = x12.v/\True))/\((((0=0 /\ 0=0)/\((0=0 /\ x9.m.g.es.length = x12.m.g.es.length)/\((0=0 /\ x9.m.g.n = x12.m.g.n)/\((0=0/\((tmM x9.m x9.v).dist.length = x12.m.dist.length))/\((0=0/\((tmM x9.m x9.v).so.length = x12.m.so.length))/\(((tmM x9.m x9.v).od = x12.m.od)/\True))))))/\((RLe 1 1/\(RG (NewX.g x3) x12.m.g))/\(((RLe x12.m.g.es.length x4.g.es.length)/\(RI x12.m.g.es.length (ttL x4.ts x4.g.es.length) x12.m.ts))/\(((RLe x12.m.g.n x6.m.g.n)/\(RB x12.m.g.n (addM x6.m x6.v).src x12.m.src))/\(((RLe x12.m.dist.length (tmM x9.m x9.v).dist.length)/\(RI x12.m.dist.length (tmM x9.m x9.v).dist x12.m.dist))/\(((RLe x12.m.so.length (tmM x9.m x9.v).so.length)/\(RI x12.m.so.length (tmM x9.m x9.v).so x12.m.so))/\True))))))/\(((decide (addE x12.m x12.v ≠ (0 : Int)) = true)-> (false = true/\True))/\((decide (addE x12.m x12.v ≠ (0 : Int)) = false)-> (∃ x15 : MNx, ((MSok x15.m)/\(((0=0 /\ 0=0)/\(2 = x15.v/\True))/\((((0=0 /\ 0=0)/\((0=0/\((addM x12.m x12.v).g.es.length = x15.m.g.es.length))/\((0=0/\((addM x12.m x12.v).g.n = x15.m.g.n))/\((0=0/\((addM x12.m x12.v).dist.length = x15.m.dist.length))/\((0=0/\((addM x12.m x12.v).so.length = x15.m.so.length))/\(((addM x12.m x12.v).od = x15.m.od)/\True))))))/\((RLe 1 1/\(RG (NewX.g x3) x15.m.g))/\(((RLe x15.m.g.es.length x4.g.es.length)/\(RI x15.m.g.es.length (ttL x4.ts x4.g.es.length) x15.m.ts))/\(((RLe x15.m.g.n (addM x12.m x12.v).g.n)/\(RB x15.m.g.n (addM x12.m x12.v).src x15.m.src))/\(((RLe x15.m.dist.length (tmM x9.m x9.v).dist.length)/\(RI x15.m.dist.length (tmM x9.m x9.v).dist x15.m.dist))/\(((RLe x15.m.so.length (tmM x9.m x9.v).so.length)/\(RI x15.m.so.length (tmM x9.m x9.v).so x15.m.so))/\True))))))/\(∃ x16 : METx, ((MSok x16.m)/\(((0=0 /\ 0=0)/\(1 = x16.e/\(4611686018427387904 = x16.t/\True)))/\((((0=0 /\ 0=0)/\((0=0 /\ x15.m.g.es.length = x16.m.g.es.length)/\((0=0 /\ x15.m.g.n = x16.m.g.n)/\((0=0/\((tmM x15.m x15.v).dist.length = x16.m.dist.length))/\((0=0/\((tmM x15.m x15.v).so.length = x16.m.so.length))/\(((tmM x15.m x15.v).od = x16.m.od)/\True))))))/\((RLe 1 1/\(RG (NewX.g x3) x16.m.g))/\(((RLe x16.m.g.es.length x4.g.es.length)/\(RI x16.m.g.es.length (ttL x4.ts x4.g.es.length) x16.m.ts))/\(((RLe x16.m.g.n (addM x12.m x12.v).g.n)/\(RB x16.m.g.n (addM x12.m x12.v).src x16.m.src))/\(((RLe x16.m.dist.length (tmM x15.m x15.v).dist.length)/\(RI x16.m.dist.length (tmM x15.m x15.v).dist x16.m.dist))/\(((RLe x16.m.so.length (tmM x15.m x15.v).so.length)/\(RI x16.m.so.length (tmM x15.m x15.v).so x16.m.so))/\True))))))/\(∃ x17 : MS, ((MSok x17)/\(((0=0 /\ 0=0)/\True)/\((((0=0 /\ 0=0)/\((0=0 /\ x16.m.g.es.length = x17.g.es.length)/\((0=0 /\ x16.m.g.n = x17.g.n)/\((0=0/\((setM x16.m x16.e x16.t).dist.length = x17.dist.length))/\((0=0/\((setM x16.m x16.e x16.t).so.length = x17.so.length))/\(((setM x16.m x16.e x16.t).od = x17.od)/\True))))))/\((RLe 1 1/\(RG (NewX.g x3) x17.g))/\(((RLe x17.g.es.length x16.m.g.es.length)/\(RI x17.g.es.length (setM x16.m x16.e x16.t).ts x17.ts))/\(((RLe x17.g.n (addM x12.m x12.v).g.n)/\(RB x17.g.n (addM x12.m x12.v).src x17.src))/\(((RLe x17.dist.length (setM x16.m x16.e x16.t).dist.length)/\(RI x17.dist.length (setM x16.m x16.e x16.t).dist x17.dist))/\(((RLe x17.so.length (setM x16.m x16.e x16.t).so.length)/\(RI x17.so.length (setM x16.m x16.e x16.t).so x17.so))/\True))))))/\(((decide (tmD x15.m x15.v = (5 : Int)) = true)-> (((decide (tmS x15.m x15.v = (1 : Int)) = true)-> (((decide (setN x16.m x16.e x16.t = (1 : Int)) = true)-> (((decide (setE x16.m x16.e x16.t = (0 : Int)) = true)-> (((decide (Prod.fst (faL (MS.dI x17)) = (4611686018427387904 : Int)) = true)-> (((decide (Prod.snd (faL (MS.dI x17)) = (2 : Int)) = true)-> (∃ x24 : MNx, ((MSok x24.m)/\(((0=0 /\ 0=0)/\(9 = x24.v/\True))/\((((0=0 /\ 0=0)/\((0=0 /\ x17.g.es.length = x24.m.g.es.length)/\((0=0 /\ x17.g.n = x24.m.g.n)/\((0=0 /\ x17.g.n = x24.m.dist.length)/\((0=0 /\ x17.g.n = x24.m.so.length)/\(false = x24.m.od/\True))))))/\((RLe 1 1/\(RG (NewX.g x3) x24.m.g))/\(((RLe x24.m.g.es.length x16.m.g.es.length)/\(RI x24.m.g.es.length (setM x16.m x16.e x16.t).ts x24.m.ts))/\(((RLe x24.m.g.n (addM x12.m x12.v).g.n)/\(RB x24.m.g.n (addM x12.m x12.v).src x24.m.src))/\(((RLe x24.m.dist.length x17.g.n)/\(RI x24.m.dist.length (MS.dI x17) x24.m.dist))/\(((RLe x24.m.so.length x17.g.n)/\(RI x24.m.so.length (soF x17 (MS.dI x17)) x24.m.so))/\True))))))/\(∃ x25 : List Nat, (((WOk x25)/\(elemsZ x25 = 0 :: (1 : Int) :: @List.nil Int))/\((((szW (ofW (wiL (MS.dI x24.m) x24.v) (wiL (MS.dI x24.m) x24.v).length) = szW x25)/\True)/\True)/\((((RLe (szW x25) (szW (ofW (wiL (MS.dI x24.m) x24.v) (wiL (MS.dI x24.m) x24.v).length)))/\(RowsEq [.int .u64] (szW x25) (encL encW (ofW (wiL (MS.dI x24.m) x24.v) (wiL (MS.dI x24.m) x24.v).length)) (encL encW x25)))/\True)/\(((ByteArray.toList t01 == ByteArray.toList (ByteArray.mk (List.toArray ((48 : UInt8) :: (45 : UInt8) :: (49 : UInt8) :: @List.nil UInt8)))) = true)/\True))))))))))/\((decide (Prod.snd (faL (MS.dI x17)) = (2 : Int)) = false)-> (false = true/\True))))/\((decide (Prod.fst (faL (MS.dI x17)) = (4611686018427387904 : Int)) = false)-> (false = true/\True))))/\((decide (setE x16.m x16.e x16.t = (0 : Int)) = false)-> (false = true/\True))))/\((decide (setN x16.m x16.e x16.t = (1 : Int)) = false)-> (false = true/\True))))/\((decide (tmS x15.m x15.v = (1 : Int)) = false)-> (false = true/\True))))/\((decide (tmD x15.m x15.v = (5 : Int)) = false)-> (false = true/\True))))))))))))))))))))))/\((decide (tmS x9.m x9.v ≠ (0 : Int)) = true)-> (false = true/\True))))/\((decide (tmD x9.m x9.v ≠ (10 : Int)) = true)-> (false = true/\True))))))))))))))/\((decide ((0 : Int) ≠ (0 : Int)) = true)-> (false = true/\True)))))))))))))))) = (Keeps cfgAw Tryd.f9 awC noIv) by kernel_rfl) (fun x1 => fun h2 => ⟨⟨⟨trivial,
 trivial,trivial,trivial⟩,
⟨trivial,trivial,trivial,trivial⟩,trivial⟩,
({ n := (3 : Int), es := exE : NewX }),rfl,
⟨⟨rfl,
⟨rfl,rfl⟩,trivial⟩,trivial⟩,
⟨⟨⟨(Nat.le_refl _)⟩,
(by exact ⟨fun r hr => by have hr : r < 2 := hr; rcases (show r = 0 ∨ r = 1 by omega) with h | h <;> subst h <;> exact ⟨rfl, rfl, rfl, trivial⟩⟩)⟩,trivial⟩,
⟨⟨trivial,trivial⟩,
⟨trivial,trivial⟩,trivial⟩,
({ g := exG, ts := (5 : Int) :: (5 : Int) :: @List.nil Int : NIx }),
((gok (x := ⟨3, exE⟩) (by decide) (by decide) (by decide) (by decide))),
⟨⟨rfl,rfl⟩,
⟨rfl,
(by grind)⟩,trivial⟩,
⟨⟨rl,rr⟩,
⟨⟨(by grind)⟩,
(by exact ⟨fun r hr => by have hr : r < 2 := hr; rcases (show r = 0 ∨ r = 1 by omega) with h | h <;> subst h <;> exact ⟨rfl, trivial⟩⟩)⟩,trivial⟩,
fun g5 => have h5 := dF g5; ⟨({ m := e0, v := (0 : Int) : MNx }),rfl,
⟨⟨rfl,rfl⟩,rfl,trivial⟩,
⟨⟨⟨rfl,rfl⟩,
⟨rfl,rfl⟩,
⟨rfl,rfl⟩,trivial,trivial,rfl,trivial⟩,
⟨rl,rr⟩,
⟨⟨(Nat.le_refl _)⟩,rr⟩,
⟨⟨(Nat.le_refl _)⟩,rr⟩,trivial⟩,
fun g7 => have h7 := dT g7; ⟨(by assumption),trivial⟩,
fun g8 => have h8 := dF g8; ⟨({ m := e1, v := (2 : Int) : MNx }),e1_ok,
⟨⟨rfl,rfl⟩,rfl,trivial⟩,
⟨⟨⟨rfl,rfl⟩,
⟨rfl,rfl⟩,
⟨rfl,rfl⟩,
⟨trivial,rfl,rfl⟩,
⟨trivial,rfl,rfl⟩,rfl,trivial⟩,
⟨rl,rr⟩,
⟨⟨(Nat.le_refl _)⟩,rr⟩,
⟨⟨(Nat.le_refl _)⟩,rr⟩,rfl,rfl,trivial⟩,
fun g10 => have h10 := dF g10; ⟨fun g11 => have h11 := dF g11; ⟨({ m := e2, v := (1 : Int) : MNx }),rfl,
⟨⟨rfl,rfl⟩,rfl,trivial⟩,
⟨⟨⟨rfl,rfl⟩,
⟨rfl,rfl⟩,
⟨rfl,rfl⟩,
⟨rfl,rfl⟩,
⟨rfl,rfl⟩,
(by assumption),trivial⟩,
⟨rl,rr⟩,
⟨⟨(Nat.le_refl _)⟩,rr⟩,
⟨⟨(Nat.le_refl _)⟩,rr⟩,
⟨⟨(Nat.le_refl _)⟩,rr⟩,
⟨⟨(Nat.le_refl _)⟩,rr⟩,trivial⟩,
fun g13 => have h13 := dT g13; ⟨(by assumption),trivial⟩,
fun g14 => have h14 := dF g14; ⟨({ m := e3, v := (2 : Int) : MNx }),e3_ok,
⟨⟨rfl,rfl⟩,rfl,trivial⟩,
⟨⟨⟨rfl,rfl⟩,
⟨rfl,rfl⟩,
⟨rfl,rfl⟩,
⟨rfl,rfl⟩,
⟨rfl,rfl⟩,rfl,trivial⟩,
⟨rl,rr⟩,
⟨⟨(Nat.le_refl _)⟩,rr⟩,
⟨⟨(Nat.le_refl _)⟩,rr⟩,
⟨⟨(Nat.le_refl _)⟩,rr⟩,
⟨⟨(Nat.le_refl _)⟩,rr⟩,trivial⟩,
({ m := e4, e := (1 : Int), t := (4611686018427387904 : Int) : METx }),e4_ok,
⟨⟨rfl,rfl⟩,rfl,rfl,trivial⟩,
⟨⟨⟨rfl,rfl⟩,
⟨rfl,rfl⟩,
⟨rfl,rfl⟩,
⟨rfl,rfl⟩,
⟨rfl,rfl⟩,
(by assumption),trivial⟩,
⟨rl,rr⟩,
⟨⟨(Nat.le_refl _)⟩,rr⟩,
⟨⟨(Nat.le_refl _)⟩,rr⟩,
⟨⟨(Nat.le_refl _)⟩,rr⟩,
⟨⟨(Nat.le_refl _)⟩,rr⟩,trivial⟩,
(e5),e5_ok,
⟨⟨rfl,rfl⟩,trivial⟩,
⟨⟨⟨rfl,rfl⟩,
⟨rfl,rfl⟩,
⟨rfl,rfl⟩,
⟨rfl,rfl⟩,
⟨rfl,rfl⟩,
(by assumption),trivial⟩,
⟨rl,rr⟩,
⟨⟨(Nat.le_refl _)⟩,rr⟩,
⟨⟨(Nat.le_refl _)⟩,rr⟩,
⟨⟨(Nat.le_refl _)⟩,rr⟩,
⟨⟨(Nat.le_refl _)⟩,rr⟩,trivial⟩,
fun g18 => have h18 := dT g18; ⟨fun g19 => have h19 := dT g19; ⟨fun g20 => have h20 := dT g20; ⟨fun g21 => have h21 := dT g21; ⟨fun g22 => have h22 := dT g22; ⟨fun g23 => have h23 := dT g23; ⟨({ m := MS.up e5, v := (9 : Int) : MNx }),e5_ok,
⟨⟨rfl,rfl⟩,rfl,trivial⟩,
⟨⟨⟨rfl,rfl⟩,
⟨rfl,rfl⟩,
⟨rfl,rfl⟩,
⟨rfl,rfl⟩,
⟨rfl,rfl⟩,
(by assumption),trivial⟩,
⟨rl,rr⟩,
⟨⟨(Nat.le_refl _)⟩,rr⟩,
⟨⟨(Nat.le_refl _)⟩,rr⟩,
⟨⟨(Nat.le_refl _)⟩,rr⟩,
⟨⟨(Nat.le_refl _)⟩,rr⟩,trivial⟩,
(exW),
⟨(ofW_ok _ _),rfl⟩,
⟨⟨rfl,trivial⟩,trivial⟩,
⟨⟨⟨(Nat.le_refl _)⟩,rr⟩,trivial⟩,
(beq_self_eq_true t01.toList),trivial⟩,
fun g26 => have h26 := dF g26; ⟨(by exact absurd ex_2.2.2.2 ‹_›),trivial⟩⟩,
fun g27 => have h27 := dF g27; ⟨(by exact absurd ex_2.2.2.1 ‹_›),trivial⟩⟩,
fun g28 => have h28 := dF g28; ⟨(by exact absurd ex_1.1 ‹_›),trivial⟩⟩,
fun g29 => have h29 := dF g29; ⟨(by exact absurd ex_1.2.2.2.2.2 ‹_›),trivial⟩⟩,
fun g30 => have h30 := dF g30; ⟨(by exact absurd ex_1.2.2.2.2.2 ‹_›),trivial⟩⟩,
fun g31 => have h31 := dF g31; ⟨(by exact absurd ex_1.2.2.2.2.1 ‹_›),trivial⟩⟩⟩,
fun g32 => have h32 := dT g32; ⟨(by assumption),trivial⟩⟩,
fun g33 => have h33 := dT g33; ⟨(by assumption),trivial⟩⟩⟩,
fun g34 => have h34 := dT g34; ⟨(by omega),trivial⟩⟩)
theorem aw_good : Good Tryd.prog 9 awC /\ FnOk Tryd.prog 9 := good_of tok conAw (fn := Tryd.f9) rfl (by decide +kernel) (fun _ => rfl) aw_keeps
end Go.Sym
namespace Go.Sym
open Go.Proofs
set_option maxRecDepth 100000
structure LX where
 p : PLX
 a : Int
 b : Int
def LX.m (x : LX) : MS := plM x.p
def law10 (ar : LX -> List SV) (b : Bool) : CT := ⟨LX, fun x => True /\ plOk x.p = b, fun x => plA x.p :: ar x, fun x => plH x.p, fun _ => .b true, fun _ => []⟩
def CN10 : List (Nat × Con) := [(8, .one plNC), (9, .one awC)]
def cfgLn : Cfg := ⟨T, [], CN10, noInv, 20, {}⟩
theorem conLn : ConOk Tryd.prog cfgLn := ConL.ok (.cons (ConL.one plN_good) (.cons (ConL.one aw_good) .nil))
structure SD where
 k : Nat
 dist : List Int
 so : List Int
 od : Bool
def yS (m : MS) (s : SD) : MS := ⟨m.g, m.ts, m.src, s.dist, s.so, s.od⟩
def sD (k : Nat) (y : MS) : SD := ⟨k, y.dist, y.so, y.od⟩
def lyB (s : Nat) (m : MS) (d : SD) : List (Nat × Blk) := [(s + 2000, .one .own [.p s 0 0, .sl (s + 4000) 0 m.g.es.length, .sl (s + 6000) 0 m.g.n, .sl 195 0 d.dist.length, .sl 196 0 d.so.length, .b d.od]), (s + 4000, .rows .own k1 m.g.es.length (encL encI m.ts)), (s + 6000, .rows .own kB m.g.n (encL encBo m.src)),
 (195, .rows .own k1 d.dist.length (encL encI d.dist)), (196, .rows .own k1 d.so.length (encL encI d.so))]
structure Alk (y m : MS) : Prop where
 ok : MSok y
 g : y.g = m.g
 ts : y.ts = m.ts
 src : y.src = m.src
theorem Alk.rfl' {m : MS} (h : MSok m) : Alk m m := ⟨h, rfl, rfl, rfl⟩
theorem Alk.dI {y m : MS} (h : Alk y m) : y.dI = m.dI := by unfold MS.dI; rw [h.g, h.ts, h.src]
theorem Alk.n {y m : MS} (h : Alk y m) : y.g.n = m.g.n := by rw [h.g]
theorem Alk.e {y m : MS} (h : Alk y m) : y.g.es.length = m.g.es.length := by rw [h.g]
theorem Alk.tm {y m : MS} (h : Alk y m) (v : Int) : Alk (tmM y v) m := by
 refine ⟨tmM_ok h.ok v, ?_, ?_, ?_⟩ <;> unfold tmM <;> split <;> first | exact h.g | exact h.ts | exact h.src
theorem Alk.d {y m : MS} (h : Alk y m) {v : Nat} (hv : v < m.g.n) : tmD y v = m.dI.getD v default := by
 unfold tmD
 have : inN1 y v = true := decide_eq_true ⟨by omega, by rw [h.n]; omega⟩
 rw [if_pos this, h.dI, Int.toNat_natCast]
theorem lm_ok {x : LX} (h : True /\ plOk x.p = true) : MSok x.m /\ x.m.g = plG x.p /\ ((x.m.g.n : Nat) : Int) = x.p.n := by
 have := plAt_ok h.2 x.p.acts.length
 exact ⟨this.1, this.2, pm_n h.2 _⟩
theorem lm_l {x : LX} (h : True /\ plOk x.p = true) : x.m.g.es.length = x.p.es.length /\ x.m.ts.length = x.m.g.es.length /\ x.m.g.n <= 12 /\ FXok (rF x.m) := ⟨(pm_g h.2 _).1, (lm_ok h).1.ts, (lm_ok h).1.n, (lm_ok h).1.fx⟩
theorem lm_r {x : LX} (h : True /\ plOk x.p = true) (n : Nat) : RowsEq kE n (encL encE x.p.es) (encL encE x.m.g.es) := rowsE (congrArg Gr.es (lm_ok h).2.1).symm
theorem yS_alk {m : MS} {s : SD} (h : MSok (yS m s)) : Alk (yS m s) m := ⟨h, rfl, rfl, rfl⟩
theorem yS_of {y m : MS} (h : Alk y m) (k : Nat) : yS m (sD k y) = y := by
 obtain ⟨_, h1, h2, h3⟩ := h
 unfold yS sD; rw [<- h1, <- h2, <- h3]
theorem yS_ok {y m : MS} (h : Alk y m) (k : Nat) : MSok (yS m (sD k y)) := by rw [yS_of h]; exact h.ok
theorem yS_tm {m : MS} {s : SD} (h : MSok (yS m s)) (v : Int) (k : Nat) : MSok (yS m (sD k (tmM (yS m s) v))) := yS_ok ((yS_alk h).tm v) k
theorem d_go {m : MS} {s : SD} (h : MSok (yS m s)) {k : Nat} (hk : (k : Int) < m.g.n) : (rF m).d.getD (0 + ((k : Nat) : Int).toNat) default = tmD (yS m s) k := by
 rw [Nat.zero_add, Int.toNat_natCast]; exact ((yS_alk h).d (by omega)).symm
theorem k_go {m : MS} (h : m.g.n <= 12) {k : Nat} (hk : (k : Int) < m.g.n) (y : MS) : ((k : Nat) : Int) + 1 <= 9223372036854775807 /\ m.g.n - (sD (k + 1) y).k < m.g.n - k /\ (sD (k + 1) y).k <= m.g.n := ⟨by omega, by show _ - (k + 1) < _; omega, by show k + 1 <= _; omega⟩
end Go.Sym
namespace Go.Sym
open Go.Proofs
set_option maxRecDepth 100000
set_option maxHeartbeats 4000000
def arR (x : LX) : List SV := [.i .i64 x.a, .i .i64 x.b]
set_option maxRecDepth 100000 in
theorem re_no : Keeps cfgLn Tryd.f5 (law10 arR false) noIv := Eq.mp (show ((∀ x1 : LX, ((True /\ plOk x1.p = false)-> (∃ x3 : PLX, ((plOk x3 = false)/\((((PLX.n x1.p = PLX.n x3)/\((0=0/\((PLX.es x1.p).length = (PLX.es x3).length))/\((0=0/\((PLX.ts x1.p).length = (PLX.ts x3).length))/\((0=0/\((PLX.acts x1.p).length = (PLX.acts x3).length))/\True))))/\True)/\((((RLe (PLX.es x3).length (PLX.es x1.p).length)/\(RowsEq [.int .i64, .int .i64, .int .i64] (PLX.es x3).length (encL encE (PLX.es x1.p)) (encL encE (PLX.es x3))))/\(((RLe (PLX.ts x3).length (PLX.ts x1.p).length)/\(RowsEq [.int .i64] (PLX.ts x3).length (encL encI (PLX.ts x1.p)) (encL encI (PLX.ts x3))))/\(((RLe (PLX.acts x3).length (PLX.acts x1.p).length)/\(RowsEq [.int .i64, .int .i64, .int .i64] (PLX.acts x3).length (encL encA (PLX.acts x1.p)) (encL encA (PLX.acts x3))))/\True)))/\(∃ x4 : Unit, (True/\(True/\(True/\(true = true/\True)))))))))))) = (Keeps cfgLn Tryd.f5 (law10 arR false) noIv) by kernel_rfl) (fun x1 => fun h2 => ⟨(LX.p x1),
(by grind),
⟨⟨rfl,
⟨rfl,rfl⟩,
⟨rfl,rfl⟩,
⟨rfl,rfl⟩,trivial⟩,trivial⟩,
⟨⟨rl,rr⟩,
⟨rl,rr⟩,
⟨rl,rr⟩,trivial⟩,
(default),trivial,trivial,trivial,rfl,trivial⟩)
def LX.o (x : LX) : Int := x.m.ts.getD x.a.toNat default
def LX.m1 (x : LX) : MS := ⟨x.m.g, (setM x.m x.a x.b).ts, x.m.src, (setM x.m x.a x.b).dist, (setM x.m x.a x.b).so, (setM x.m x.a x.b).od⟩
theorem m1_is (x : LX) : x.m1 = setM x.m x.a x.b := by
 have h1 := setM_g x.m x.a x.b
 have h2 := setM_src x.m x.a x.b
 unfold LX.m1; rw [<- h1, <- h2]
def LX.m2 (x : LX) : MS := setM x.m1 x.a x.o
theorem cnt_comm (a b : List Int) (k : Nat) : cntAt a b k = cntAt b a k := by unfold cntAt; congr 3; funext i; exact decide_eq_decide.2 ⟨fun h e => h e.symm, fun h e => h e.symm⟩
theorem re_e {x : LX} (h : okE x.m x.a x.b = true) : 0 <= x.a /\ x.a < x.m.g.es.length := by have := of_decide_eq_true (show decide _ = true from h); omega
theorem re_ok {x : LX} (hm : MSok x.m) (h : okE x.m x.a x.b = true) : okE x.m1 x.a x.o = true := by
 have r := re_e h
 have t := hm.tv x.a.toNat (by rw [hm.ts]; omega)
 have e : x.m1.g = x.m.g := rfl
 unfold okE; rw [e]; exact decide_eq_true ⟨r.1, r.2, t.symm.imp id id⟩
theorem setAt_same {l : List Int} {i : Nat} {v : Int} (h : i < l.length) : (l.set i v).getD i default = v := by rw [List.getD_eq_getElem?_getD, List.getElem?_set_self h]; rfl
theorem re_all {x : LX} (hm : MSok x.m) (h : okE x.m x.a x.b = true) : setE x.m1 x.a x.o = 0 /\ setN x.m x.a x.b = setN x.m1 x.a x.o /\ Alk x.m2 x.m := by
 have h2 := re_ok hm h
 have r := re_e h
 refine ⟨if_pos h2, ?_, ?_⟩
 ·by_cases he : x.o = x.b
  ·have c1 : isCh x.m x.a x.b = false := by unfold isCh; rw [h, decide_eq_false (fun q => q he)]; rfl
   have e1 : x.m1 = x.m := by rw [m1_is]; unfold setM; rw [c1]; rfl
   have c2 : isCh x.m1 x.a x.o = false := by rw [e1]; unfold isCh; rw [decide_eq_false (show ¬ x.m.ts.getD x.a.toNat default ≠ x.o from fun q => q rfl), Bool.and_false]
   unfold setN; rw [c1, c2]; rfl
  ·have c1 : isCh x.m x.a x.b = true := by unfold isCh; rw [h, decide_eq_true (show x.m.ts.getD x.a.toNat default ≠ x.b from he)]; rfl
   have e1 : x.m1 = (chg x.m x.a x.b).up := by rw [m1_is]; unfold setM; rw [c1]; rfl
   have et : x.m1.ts = x.m.ts.set x.a.toNat x.b := by rw [e1]; rfl
   have c2 : isCh x.m1 x.a x.o = true := by
    unfold isCh; rw [h2, et, setAt_same (by rw [hm.ts]; omega), decide_eq_true (show x.b ≠ x.o from fun q => he q.symm)]; rfl
   unfold setN
   rw [if_pos c1, if_pos c2]
   have d1 : x.m1.dI = (chg x.m x.a x.b).dI := by rw [e1]; rfl
   have d2 : (chg x.m1 x.a x.o).dI = x.m.dI := by
    unfold MS.dI
    have a1 : (chg x.m1 x.a x.o).ts = x.m.ts := by
     show x.m1.ts.set x.a.toNat x.o = _
     rw [et, List.set_set]; exact set_noop
    have a2 : (chg x.m1 x.a x.o).g = x.m.g := rfl
    have a3 : (chg x.m1 x.a x.o).src = x.m.src := rfl
    rw [a1, a2, a3]
   rw [d1, d2, show x.m1.g = x.m.g from rfl]
   exact cnt_comm _ _ _
 ·have o1 : MSok x.m1 := by rw [m1_is]; exact setM_ok hm _ _
  refine ⟨setM_ok o1 _ _, setM_g x.m1 _ _, ?_, setM_src x.m1 _ _⟩
  have t1 : ∀ {m : MS} {e t : Int}, okE m e t = true -> (setM m e t).ts = m.ts.set e.toNat t := by
   intro m e t hk
   have q := (change_is m e t).2.2
   rw [<- q]; unfold chT; rw [if_pos (show okR (rF m) e t = true from hk)]; rfl
  show (setM x.m1 x.a x.o).ts = _
  rw [t1 h2, show x.m1.ts = _ from t1 h, List.set_set]; exact set_noop
def reI (x : LX) (id : Nat) : Option Inv := match id with
 | 100061 => some (cutT 61 false)
 | 0 => some { X := SD, ok := fun s => s.k <= x.m.g.n /\ MSok (yS x.m s), fr := fun s => [(65, .i .i64 s.k), (7, .p 2020 0 0)], hp := fun s => lyB 20 x.m s, me := fun s => x.m.g.n - s.k }
 | _ => none
def CY10 : List (Nat × Con) := [(8, .one plYC), (9, .one awC), (16, .one setTC), (11, .one timC), (13, .one eallC)]
def cfgRe : Cfg := ⟨T, [], CY10, noInv, 18, {}⟩
theorem conRe : ConOk Tryd.prog cfgRe := ConL.ok (.cons (ConL.one plY_good) (.cons (ConL.one aw_good) (.cons (ConL.one setT_good) (.cons (ConL.one tim_good) (.cons (ConL.one eall_good) .nil)))))
theorem re_n0 {x : LX} (h : setE x.m x.a x.b ≠ 0) : setN x.m x.a x.b = 0 := by
 cases q : okE x.m x.a x.b with
 | true => exact absurd (if_pos q) h
 | false => exact (set_bad q).2.1
theorem re_k {x : LX} (h : ¬ setE x.m x.a x.b ≠ 0) : okE x.m x.a x.b = true := by
 cases q : okE x.m x.a x.b with
 | true => rfl
 | false => exact absurd (set_bad q).2.2 (fun e => h (by rw [e]; decide))
theorem re_m1 {x : LX} (h : True /\ plOk x.p = true) : MSok x.m1 := by rw [m1_is]; exact setM_ok (lm_ok h).1 _ _
set_option maxRecDepth 100000 in
theorem re_yes : Keeps cfgRe Tryd.f5 (law10 arR true) reI := Eq.mp (show ((∀ x1 : LX, ((True /\ plOk x1.p = true)-> (∃ x3 : PLX, ((plOk x3 = true)/\((((PLX.n x1.p = PLX.n x3)/\((0=0/\((PLX.es x1.p).length = (PLX.es x3).length))/\((0=0/\((PLX.ts x1.p).length = (PLX.ts x3).length))/\((0=0/\((PLX.acts x1.p).length = (PLX.acts x3).length))/\True))))/\True)/\((((RLe (PLX.es x3).length (PLX.es x1.p).length)/\(RowsEq [.int .i64, .int .i64, .int .i64] (PLX.es x3).length (encL encE (PLX.es x1.p)) (encL encE (PLX.es x3))))/\(((RLe (PLX.ts x3).length (PLX.ts x1.p).length)/\(RowsEq [.int .i64] (PLX.ts x3).length (encL encI (PLX.ts x1.p)) (encL encI (PLX.ts x3))))/\(((RLe (PLX.acts x3).length (PLX.acts x1.p).length)/\(RowsEq [.int .i64, .int .i64, .int .i64] (PLX.acts x3).length (encL encA (PLX.acts x1.p)) (encL encA (PLX.acts x3))))/\True)))/\(∃ x4 : METx, ((MSok x4.m)/\(((0=0 /\ 0=0)/\(x1.a = x4.e/\(x1.b = x4.t/\True)))/\((((0=0 /\ 0=0)/\((0=0/\((plM x3).g.es.length = x4.m.g.es.length))/\((0=0/\((plM x3).g.n = x4.m.g.n))/\((0=0/\((plM x3).dist.length = x4.m.dist.length))/\((0=0/\((plM x3).so.length = x4.m.so.length))/\(((plM x3).od = x4.m.od)/\True))))))/\((RLe 1 1/\(RG (plM x3).g x4.m.g))/\(((RLe x4.m.g.es.length (plM x3).g.es.length)/\(RI x4.m.g.es.length (plM x3).ts x4.m.ts))/\(((RLe x4.m.g.n (plM x3).g.n)/\(RB x4.m.g.n (plM x3).src x4.m.src))/\(((RLe x4.m.dist.length (plM x3).dist.length)/\(RI x4.m.dist.length (plM x3).dist x4.m.dist))/\(((RLe x4.m.so.length (plM x3).so.length)/\(RI x4.m.so.length (plM x3).so x4.m.so))/\True))))))/\(((decide (setE x4.m x4.e x4.t ≠ (0 : Int)) = true)-> (((decide (setN x4.m x4.e x4.t = (0 : Int)) = true)-> (∃ x7 : Unit, (True/\(True/\(True/\(true = true/\True))))))/\((decide (setN x4.m x4.e x4.t = (0 : Int)) = false)-> (false = true/\True))))/\((decide (setE x4.m x4.e x4.t ≠ (0 : Int)) = false)-> ((((0 : Int) <= x1.a)/\(x1.a < (↑(plM x3).g.es.length : Int)))/\((0 + Int.toNat x1.a < (plM x3).g.es.length)/\(∃ x10 : METx, ((MSok x10.m)/\(((0=0 /\ 0=0)/\(x1.a = x10.e/\(((plM x3).ts.getD (0 + Int.toNat x1.a) default = x10.t)/\True)))/\((((0=0 /\ 0=0)/\((0=0 /\ x4.m.g.es.length = x10.m.g.es.length)/\((0=0 /\ x4.m.g.n = x10.m.g.n)/\((0=0/\((setM x4.m x4.e x4.t).dist.length = x10.m.dist.length))/\((0=0/\((setM x4.m x4.e x4.t).so.length = x10.m.so.length))/\(((setM x4.m x4.e x4.t).od = x10.m.od)/\True))))))/\((RLe 1 1/\(RG (plM x3).g x10.m.g))/\(((RLe x10.m.g.es.length x4.m.g.es.length)/\(RI x10.m.g.es.length (setM x4.m x4.e x4.t).ts x10.m.ts))/\(((RLe x10.m.g.n (plM x3).g.n)/\(RB x10.m.g.n (plM x3).src x10.m.src))/\(((RLe x10.m.dist.length (setM x4.m x4.e x4.t).dist.length)/\(RI x10.m.dist.length (setM x4.m x4.e x4.t).dist x10.m.dist))/\(((RLe x10.m.so.length (setM x4.m x4.e x4.t).so.length)/\(RI x10.m.so.length (setM x4.m x4.e x4.t).so x10.m.so))/\True))))))/\((((decide (setE x10.m x10.e x10.t ≠ (0 : Int)) = false)-> (∃ x12 : Unit, (True/\((decide (setN x4.m x4.e x4.t ≠ setN x10.m x10.e x10.t) = false)/\True))))/\((decide (setE x10.m x10.e x10.t ≠ (0 : Int)) = true)-> (∃ x14 : Unit, (True/\(true = false/\True)))))/\(∀ x15 : Unit, (True -> (∃ x17 : FX, ((FXok x17)/\((((PLX.n x3 = (x17.g.n : Int))/\((0=0/\((plM x3).g.es.length = x17.g.es.length))/\((0=0/\((plM x3).g.es.length = x17.ts.length))/\((0=0/\((srcL (plM x3).src).length = x17.src.length))/\True))))/\True)/\((((RLe x17.g.es.length (PLX.es x1.p).length)/\(RowsEq [.int .i64, .int .i64, .int .i64] x17.g.es.length (encL encE (PLX.es x1.p)) (encL encE x17.g.es)))/\(((RLe x17.ts.length (plM x3).g.es.length)/\(RI x17.ts.length (plM x3).ts x17.ts))/\(((RLe x17.src.length (srcL (plM x3).src).length)/\(RI x17.src.length (srcL (plM x3).src) x17.src))/\True)))/\(∃ x18 : SD, ((((x18.k <= (LX.m x1).g.n)/\(MSok (yS (LX.m x1) x18)))/\(((0 = (x18.k : Int))/\((0=0 /\ 0=0)/\(((x17.g.n : Int) = (x17.g.n : Int))/\((0=0 /\ x17.g.n = x17.g.n)/\((setE x10.m x10.e x10.t = setE x10.m x10.e x10.t)/\((setN x10.m x10.e x10.t = setN x10.m x10.e x10.t)/\((setE x4.m x4.e x4.t = setE x4.m x4.e x4.t)/\((setN x4.m x4.e x4.t = setN x4.m x4.e x4.t)/\(true = true/\((0=0 /\ 0=0)/\((0=0 /\ 0=0)/\(((PLX.n x1.p = PLX.n x1.p)/\((0=0/\((PLX.es x1.p).length = (PLX.es x1.p).length))/\((0=0/\((PLX.ts x1.p).length = (PLX.ts x1.p).length))/\((0=0/\((PLX.acts x1.p).length = (PLX.acts x1.p).length))/\True))))/\(x1.a = x1.a/\(x1.b = x1.b/\True))))))))))))))/\(((0=0 /\ 0=0)/\((0=0/\(x10.m.g.es.length = (LX.m x1).g.es.length))/\((0=0/\(x10.m.g.n = (LX.m x1).g.n))/\((0=0/\((setM x10.m x10.e x10.t).dist.length = x18.dist.length))/\((0=0/\((setM x10.m x10.e x10.t).so.length = x18.so.length))/\(((setM x10.m x10.e x10.t).od = x18.od)/\True))))))/\(((RLe (LX.m x1).g.es.length x10.m.g.es.length)/\(RowsEq [.int .i64] (LX.m x1).g.es.length (encL encI (setM x10.m x10.e x10.t).ts) (encL encI (LX.m x1).ts)))/\(((RLe (LX.m x1).g.n (plM x3).g.n)/\(RowsEq (Kd.bool :: []) (LX.m x1).g.n (encL encBo (plM x3).src) (encL encBo (LX.m x1).src)))/\(((RLe x18.dist.length (setM x10.m x10.e x10.t).dist.length)/\(RI x18.dist.length (setM x10.m x10.e x10.t).dist x18.dist))/\(((RLe x18.so.length (setM x10.m x10.e x10.t).so.length)/\(RI x18.so.length (setM x10.m x10.e x10.t).so x18.so))/\(((RLe x17.g.n x17.g.n)/\(RI x17.g.n (FX.d x17) (FX.d x17)))/\(((PLX.n x3 = PLX.n x3)/\((0=0/\((plM x3).g.es.length = (plM x3).g.es.length))/\((0=0/\((plM x3).g.es.length = (plM x3).g.es.length))/\((0=0/\((srcL (plM x3).src).length = (srcL (plM x3).src).length))/\True))))/\((RLe 1 1/\(RG (plM x3).g (plM x3).g))/\(((RLe (plM x3).g.es.length (plM x3).g.es.length)/\(RowsEq [.int .i64] (plM x3).g.es.length (encL encI (plM x3).ts) (encL encI (plM x3).ts)))/\(((RLe (srcL (plM x3).src).length (srcL (plM x3).src).length)/\(RowsEq [.int .i64] (srcL (plM x3).src).length (encL encI (srcL (plM x3).src)) (encL encI (srcL (plM x3).src))))/\(((PLX.n x1.p = PLX.n x1.p)/\((0=0/\((PLX.es x1.p).length = (PLX.es x1.p).length))/\((0=0/\((PLX.ts x1.p).length = (PLX.ts x1.p).length))/\((0=0/\((PLX.acts x1.p).length = (PLX.acts x1.p).length))/\True))))/\(((RLe (PLX.es x1.p).length (PLX.es x1.p).length)/\(RowsEq [.int .i64, .int .i64, .int .i64] (PLX.es x1.p).length (encL encE (PLX.es x1.p)) (encL encE (PLX.es x1.p))))/\(((RLe (PLX.ts x1.p).length (PLX.ts x1.p).length)/\(RowsEq [.int .i64] (PLX.ts x1.p).length (encL encI (PLX.ts x1.p)) (encL encI (PLX.ts x1.p))))/\(((RLe (PLX.acts x1.p).length (PLX.acts x1.p).length)/\(RowsEq [.int .i64, .int .i64, .int .i64] (PLX.acts x1.p).length (encL encA (PLX.acts x1.p)) (encL encA (PLX.acts x1.p))))/\True))))))))))))))))/\(∀ x19 : SD, ((x19.k <= (LX.m x1).g.n /\ MSok (yS (LX.m x1) x19))-> (((decide ((x19.k : Int) < (x17.g.n : Int)) = true)-> ((((0 : Int) <= (x19.k : Int))/\((x19.k : Int) < (x17.g.n : Int)))/\((0 + Int.toNat (x19.k : Int) < x17.g.n)/\(∃ x22 : MNx, ((MSok x22.m)/\(((0=0 /\ 0=0)/\(((x19.k : Int) = x22.v)/\True))/\((((0=0 /\ 0=0)/\((0=0/\((LX.m x1).g.es.length = x22.m.g.es.length))/\((0=0/\((LX.m x1).g.n = x22.m.g.n))/\((0=0 /\ x19.dist.length = x22.m.dist.length)/\((0=0 /\ x19.so.length = x22.m.so.length)/\(x19.od = x22.m.od/\True))))))/\((RLe 1 1/\(RG (plM x3).g x22.m.g))/\(((RLe x22.m.g.es.length (LX.m x1).g.es.length)/\(RI x22.m.g.es.length (LX.m x1).ts x22.m.ts))/\(((RLe x22.m.g.n (LX.m x1).g.n)/\(RB x22.m.g.n (LX.m x1).src x22.m.src))/\(((RLe x22.m.dist.length x19.dist.length)/\(RI x22.m.dist.length x19.dist x22.m.dist))/\(((RLe x22.m.so.length x19.so.length)/\(RI x22.m.so.length x19.so x22.m.so))/\True))))))/\(((decide ((FX.d x17).getD (0 + Int.toNat (x19.k : Int)) default ≠ tmD x22.m x22.v) = true)-> (false = true/\True))/\((decide ((FX.d x17).getD (0 + Int.toNat (x19.k : Int)) default ≠ tmD x22.m x22.v) = false)-> ((((-9223372036854775808 : Int) <= (x19.k : Int) + 1)/\((x19.k : Int) + 1 <= (9223372036854775807 : Int)))/\(∃ x25 : SD, (((LX.m x1).g.n - x25.k < (LX.m x1).g.n - x19.k)/\(((x25.k <= (LX.m x1).g.n)/\(MSok (yS (LX.m x1) x25)))/\((((x19.k : Int) + 1 = (x25.k : Int))/\((0=0 /\ 0=0)/\(((x17.g.n : Int) = (x17.g.n : Int))/\((0=0 /\ x17.g.n = x17.g.n)/\((setE x10.m x10.e x10.t = setE x10.m x10.e x10.t)/\((setN x10.m x10.e x10.t = setN x10.m x10.e x10.t)/\((setE x4.m x4.e x4.t = setE x4.m x4.e x4.t)/\((setN x4.m x4.e x4.t = setN x4.m x4.e x4.t)/\(true = true/\((0=0 /\ 0=0)/\((0=0 /\ 0=0)/\(((PLX.n x1.p = PLX.n x1.p)/\((0=0/\((PLX.es x1.p).length = (PLX.es x1.p).length))/\((0=0/\((PLX.ts x1.p).length = (PLX.ts x1.p).length))/\((0=0/\((PLX.acts x1.p).length = (PLX.acts x1.p).length))/\True))))/\(x1.a = x1.a/\(x1.b = x1.b/\True))))))))))))))/\(((0=0 /\ 0=0)/\((0=0/\(x22.m.g.es.length = (LX.m x1).g.es.length))/\((0=0/\(x22.m.g.n = (LX.m x1).g.n))/\((0=0/\((tmM x22.m x22.v).dist.length = x25.dist.length))/\((0=0/\((tmM x22.m x22.v).so.length = x25.so.length))/\(((tmM x22.m x22.v).od = x25.od)/\True))))))/\(((RLe (LX.m x1).g.es.length (LX.m x1).g.es.length)/\(RowsEq [.int .i64] (LX.m x1).g.es.length (encL encI (LX.m x1).ts) (encL encI (LX.m x1).ts)))/\(((RLe (LX.m x1).g.n (LX.m x1).g.n)/\(RowsEq (Kd.bool :: []) (LX.m x1).g.n (encL encBo (LX.m x1).src) (encL encBo (LX.m x1).src)))/\(((RLe x25.dist.length (tmM x22.m x22.v).dist.length)/\(RI x25.dist.length (tmM x22.m x22.v).dist x25.dist))/\(((RLe x25.so.length (tmM x22.m x22.v).so.length)/\(RI x25.so.length (tmM x22.m x22.v).so x25.so))/\(((RLe x17.g.n x17.g.n)/\(RI x17.g.n (FX.d x17) (FX.d x17)))/\(((PLX.n x3 = PLX.n x3)/\((0=0/\((plM x3).g.es.length = (plM x3).g.es.length))/\((0=0/\((plM x3).g.es.length = (plM x3).g.es.length))/\((0=0/\((srcL (plM x3).src).length = (srcL (plM x3).src).length))/\True))))/\((RLe 1 1/\(RG (plM x3).g (plM x3).g))/\(((RLe (plM x3).g.es.length (plM x3).g.es.length)/\(RowsEq [.int .i64] (plM x3).g.es.length (encL encI (plM x3).ts) (encL encI (plM x3).ts)))/\(((RLe (srcL (plM x3).src).length (srcL (plM x3).src).length)/\(RowsEq [.int .i64] (srcL (plM x3).src).length (encL encI (srcL (plM x3).src)) (encL encI (srcL (plM x3).src))))/\(((PLX.n x1.p = PLX.n x1.p)/\((0=0/\((PLX.es x1.p).length = (PLX.es x1.p).length))/\((0=0/\((PLX.ts x1.p).length = (PLX.ts x1.p).length))/\((0=0/\((PLX.acts x1.p).length = (PLX.acts x1.p).length))/\True))))/\(((RLe (PLX.es x1.p).length (PLX.es x1.p).length)/\(RowsEq [.int .i64, .int .i64, .int .i64] (PLX.es x1.p).length (encL encE (PLX.es x1.p)) (encL encE (PLX.es x1.p))))/\(((RLe (PLX.ts x1.p).length (PLX.ts x1.p).length)/\(RowsEq [.int .i64] (PLX.ts x1.p).length (encL encI (PLX.ts x1.p)) (encL encI (PLX.ts x1.p))))/\(((RLe (PLX.acts x1.p).length (PLX.acts x1.p).length)/\(RowsEq [.int .i64, .int .i64, .int .i64] (PLX.acts x1.p).length (encL encA (PLX.acts x1.p)) (encL encA (PLX.acts x1.p))))/\True))))))))))))))))))))))))))))/\((decide ((x19.k : Int) < (x17.g.n : Int)) = false)-> (∃ x27 : Unit, (True/\(True/\(True/\(true = true/\True))))))))))))))))))))))))))))))))))))) = (Keeps cfgRe Tryd.f5 (law10 arR true) reI) by kernel_rfl) (fun x1 => fun h2 => ⟨(LX.p x1),
(by grind),
⟨⟨rfl,
⟨rfl,rfl⟩,
⟨rfl,rfl⟩,
⟨rfl,rfl⟩,trivial⟩,trivial⟩,
⟨⟨rl,rr⟩,
⟨rl,rr⟩,
⟨rl,rr⟩,trivial⟩,
({ m := LX.m x1, e := LX.a x1, t := LX.b x1 : METx }),
((lm_ok h2).1),
⟨⟨rfl,rfl⟩,rfl,rfl,trivial⟩,
⟨⟨⟨rfl,rfl⟩,
⟨rfl,rfl⟩,
⟨rfl,rfl⟩,
⟨rfl,rfl⟩,
⟨rfl,rfl⟩,rfl,trivial⟩,
⟨rl,rr⟩,
⟨⟨(Nat.le_refl _)⟩,rr⟩,
⟨⟨(Nat.le_refl _)⟩,rr⟩,
⟨⟨(Nat.le_refl _)⟩,rr⟩,
⟨⟨(Nat.le_refl _)⟩,rr⟩,trivial⟩,
fun g5 => have h5 := dT g5; ⟨fun g6 => have h6 := dT g6; ⟨(default),trivial,trivial,trivial,rfl,trivial⟩,
fun g8 => have h8 := dF g8; ⟨(by exact absurd (re_n0 ‹_›) ‹_›),trivial⟩⟩,
fun g9 => have h9 := dF g9; ⟨⟨(by have : 0 <= x1.a /\ x1.a < (plM x1.p).g.es.length := re_e (re_k ‹_›); omega),
(by have : 0 <= x1.a /\ x1.a < (plM x1.p).g.es.length := re_e (re_k ‹_›); omega)⟩,
(by have : 0 <= x1.a /\ x1.a < (plM x1.p).g.es.length := re_e (re_k ‹_›); omega),
({ m := LX.m1 x1, e := LX.a x1, t := LX.o x1 : METx }),
(re_m1 h2),
⟨⟨rfl,rfl⟩,rfl,
(by simp only [Nat.zero_add] at *; rfl),trivial⟩,
⟨⟨⟨rfl,rfl⟩,
⟨rfl,rfl⟩,
⟨rfl,rfl⟩,
⟨rfl,rfl⟩,
⟨rfl,rfl⟩,rfl,trivial⟩,
⟨rl,rr⟩,
⟨⟨(Nat.le_refl _)⟩,rr⟩,
⟨⟨(Nat.le_refl _)⟩,rr⟩,
⟨⟨(Nat.le_refl _)⟩,rr⟩,
⟨⟨(Nat.le_refl _)⟩,rr⟩,trivial⟩,
⟨fun g11 => have h11 := dF g11; ⟨(default),trivial,
(by exact decide_eq_false (fun q => q (re_all (lm_ok h2).1 (re_k ‹_›)).2.1)),trivial⟩,
fun g13 => have h13 := dT g13; ⟨(default),trivial,
(by exact absurd (re_all (lm_ok h2).1 (re_k ‹_›)).1 ‹_›),trivial⟩⟩,
fun x15 => fun h16 => ⟨(rF (LX.m x1)),
((lm_l h2).2.2.2),
⟨⟨((lm_ok h2).2.2.symm),
⟨rfl,rfl⟩,
⟨rfl,
((lm_l h2).2.1.symm)⟩,
⟨rfl,rfl⟩,trivial⟩,trivial⟩,
⟨⟨⟨(Nat.le_of_eq (lm_l h2).1)⟩,
(lm_r h2 _)⟩,
⟨⟨(Nat.le_of_eq (lm_l h2).2.1)⟩,rr⟩,
⟨⟨(Nat.le_refl _)⟩,rr⟩,trivial⟩,
(sD (0 : Nat) (LX.m2 x1)),
⟨⟨(Nat.zero_le _),
(by exact yS_ok (re_all (lm_ok h2).1 (re_k ‹_›)).2.2 _)⟩,
⟨rfl,
⟨rfl,rfl⟩,rfl,
⟨rfl,rfl⟩,rfl,rfl,rfl,rfl,rfl,
⟨rfl,rfl⟩,
⟨rfl,rfl⟩,
⟨rfl,
⟨rfl,rfl⟩,
⟨rfl,rfl⟩,
⟨rfl,rfl⟩,trivial⟩,rfl,rfl,trivial⟩,
⟨⟨rfl,rfl⟩,
⟨rfl,rfl⟩,
⟨rfl,rfl⟩,
⟨rfl,rfl⟩,
⟨rfl,rfl⟩,rfl,trivial⟩,
⟨⟨(Nat.le_refl _)⟩,
(by exact rowsE (re_all (lm_ok h2).1 (re_k ‹_›)).2.2.ts)⟩,
⟨⟨(Nat.le_refl _)⟩,rr⟩,
⟨⟨(Nat.le_refl _)⟩,rr⟩,
⟨⟨(Nat.le_refl _)⟩,rr⟩,
⟨rl,rr⟩,
⟨rfl,
⟨rfl,rfl⟩,
⟨rfl,rfl⟩,
⟨rfl,rfl⟩,trivial⟩,
⟨rl,rr⟩,
⟨rl,rr⟩,
⟨rl,rr⟩,
⟨rfl,
⟨rfl,rfl⟩,
⟨rfl,rfl⟩,
⟨rfl,rfl⟩,trivial⟩,
⟨rl,rr⟩,
⟨rl,rr⟩,
⟨rl,rr⟩,trivial⟩,
fun x19 => fun h20 => ⟨fun g21 => have h21 := dT g21; ⟨⟨(by omega),
(by omega)⟩,
(by omega),
({ m := yS (LX.m x1) x19, v := (↑(SD.k x19) : Int) : MNx }),
(by grind),
⟨⟨rfl,rfl⟩,rfl,trivial⟩,
⟨⟨⟨rfl,rfl⟩,
⟨rfl,rfl⟩,
⟨rfl,rfl⟩,
⟨rfl,rfl⟩,
⟨rfl,rfl⟩,rfl,trivial⟩,
⟨rl,rr⟩,
⟨⟨(Nat.le_refl _)⟩,rr⟩,
⟨⟨(Nat.le_refl _)⟩,rr⟩,
⟨⟨(Nat.le_refl _)⟩,rr⟩,
⟨⟨(Nat.le_refl _)⟩,rr⟩,trivial⟩,
fun g23 => have h23 := dT g23; ⟨(absurd (d_go h20.2 h21) h23),trivial⟩,
fun g24 => have h24 := dF g24; ⟨⟨(by omega),
((k_go (lm_l h2).2.2.1 h21 x1.m).1)⟩,
(sD (SD.k x19 + (1 : Nat)) (tmM (yS (LX.m x1) x19) (↑(SD.k x19) : Int))),
((k_go (lm_l h2).2.2.1 h21 _).2.1),
⟨((k_go (lm_l h2).2.2.1 h21 _).2.2),
(yS_tm h20.2 _ _)⟩,
⟨rfl,
⟨rfl,rfl⟩,rfl,
⟨rfl,rfl⟩,rfl,rfl,rfl,rfl,rfl,
⟨rfl,rfl⟩,
⟨rfl,rfl⟩,
⟨rfl,
⟨rfl,rfl⟩,
⟨rfl,rfl⟩,
⟨rfl,rfl⟩,trivial⟩,rfl,rfl,trivial⟩,
⟨⟨rfl,rfl⟩,
⟨rfl,rfl⟩,
⟨rfl,rfl⟩,
⟨rfl,rfl⟩,
⟨rfl,rfl⟩,rfl,trivial⟩,
⟨rl,rr⟩,
⟨rl,rr⟩,
⟨⟨(Nat.le_refl _)⟩,rr⟩,
⟨⟨(Nat.le_refl _)⟩,rr⟩,
⟨rl,rr⟩,
⟨rfl,
⟨rfl,rfl⟩,
⟨rfl,rfl⟩,
⟨rfl,rfl⟩,trivial⟩,
⟨rl,rr⟩,
⟨rl,rr⟩,
⟨rl,rr⟩,
⟨rfl,
⟨rfl,rfl⟩,
⟨rfl,rfl⟩,
⟨rfl,rfl⟩,trivial⟩,
⟨rl,rr⟩,
⟨rl,rr⟩,
⟨rl,rr⟩,trivial⟩⟩,
fun g26 => have h26 := dF g26; ⟨(default),trivial,trivial,trivial,rfl,trivial⟩⟩⟩⟩⟩)
theorem reN_good : Good Tryd.prog 5 (law10 arR false) /\ FnOk Tryd.prog 5 := good_of tok conLn (fn := Tryd.f5) rfl (by decide +kernel) (fun _ => rfl) re_no
theorem reY_good : Good Tryd.prog 5 (law10 arR true) /\ FnOk Tryd.prog 5 := good_of tok conRe (fn := Tryd.f5) rfl (by decide +kernel) (fun _ => rfl) re_yes
theorem re_good : Good Tryd.prog 5 ⟨LX, fun _ => True, fun x => plA x.p :: arR x, fun x => plH x.p, fun _ => .b true, fun _ => []⟩ := both_b (X := LX) (t := fun x : LX => plOk x.p) reY_good.1 reN_good.1
end Go.Sym