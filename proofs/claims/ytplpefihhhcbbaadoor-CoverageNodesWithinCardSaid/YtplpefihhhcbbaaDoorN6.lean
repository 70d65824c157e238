import Derived.Test.YtplpefihhhcbbaaDoorI1
import Derived.Test.YtplpefihhhcbbaaDoorXD
namespace Go.Sym
set_option linter.unusedVariables false
set_option linter.unusedSimpArgs false
open Go.Proofs
def eachC : CT where
 X := List Nat
 pre := WOk
 args := fun ws => [setV ws 100000]
 g0 := fun ws => setH ws .bor 100000
 res := fun _ => .fn 55 [.p 1 0 0]
 g1 := fun ws => [(1, .one .own [.q 100000 (szW ws)])]
set_option maxRecDepth 100000 in
theorem each_keeps : Keeps cfgN0 Tryd.f43 eachC noIv := Eq.mp (show ((∀ x1 : List Nat, ((WOk x1)-> (((0=0 /\ 0=0)/\True)/\(((szW x1 = szW x1)/\True)/\True))))) = (Keeps cfgN0 Tryd.f43 eachC noIv) by kernel_rfl) (fun x1 => fun h2 => ⟨⟨⟨rfl,rfl⟩,trivial⟩,
⟨rfl,trivial⟩,trivial⟩)
theorem eachC_good : Good Tryd.prog 43 eachC /\ FnOk Tryd.prog 43 := good_of tok conN0 (fn := Tryd.f43) rfl (by decide +kernel) (fun _ => rfl) each_keeps
def listS : LS where
 it := eachIt
 g := 55
 X := List Nat
 pre := WOk
 slots := [3]
 vals := fun _ => [.p 100000 0 0]
 caps := fun _ => [.p 100001 0 0]
 g0 := fun ws => [(100000, .one .own [.sl 100002 0 0]), (100002, .rows .own k1 0 (encL encI [])), (100001, .one .bor [.q 100003 (szW ws)]), (100003, .rows .bor kW (szW ws) (encL encW ws))]
 g1 := fun ws => [(100000, .one .own [.sl 1 0 (elemsW ws).length]), (100002, .dead), (1, .rows .own k1 (elemsW ws).length (encL encI (elemsZ ws)))]
 hp := fun ws k => [(100000, .one .own [.sl 5 0 k]), (5, .rows .own k1 k (encL encI ((elemsZ ws).take k))), (100002, .dead), (100001, .one .bor [.q 100003 (szW ws)]), (100003, .rows .bor kW (szW ws) (encL encW ws))]
 y := fun ws => ws
 m := fun ws => (elemsW ws).length
def rf0 (fn : Func) (i : Nat) : Operand × Array Tmp × Code × Code := (rfsF fn).getD i (.tmp 0, #[], .skip, .skip)
def cfgL : Cfg := ⟨T, [], [], noInv, 16, { scp := false }⟩
theorem atW_eq {ws : List Nat} {k : Nat} (h : k < (elemsW ws).length) : atW ws k = (elemsZ ws).getD k default := by
 unfold atW elemsZ
 simp [List.getD_eq_getElem?_getD, h]
theorem take_push {xs : List Int} {k : Nat} (h : k < xs.length) : RowsEq k1 (k + 1) (appRows k (encL encI (xs.take k)) 0 (litRows [[.i (xs.getD k default)]])) (encL encI (xs.take (k + 1))) := by
 rw [take_succ_getD (d := default) h]
 exact rowsEq_push (by rw [List.length_take]; omega) (by rw [List.length_take]; omega) (by simp only [rowEq, Kd.eqv, k1]; exact ⟨rfl, trivial⟩)
set_option maxRecDepth 100000 in
theorem list_loop : KeepsLoop cfgL (rf0 Tryd.f21 0).2.1.toList (rf0 Tryd.f21 0).2.2.1 (rf0 Tryd.f21 0).2.2.2 listS := Eq.mp (show ((∀ x1 : List Nat, ((WOk x1)-> ((WOk x1)/\(((elemsW x1).length <= (elemsW x1).length)/\((True/\(((0=0 /\ 0=0)/\True)/\(((0=0 /\ 0=0)/\True)/\((RLe 0 0/\(RowsEq [.int .i64] 0 (encL encI (@List.nil Int)) (encL encI (List.take 0 (elemsZ x1)))))/\(True/\(((szW x1 = szW x1)/\True)/\(((RLe (szW x1) (szW x1))/\(RowsEq [.int .u64] (szW x1) (encL encW x1) (encL encW x1)))/\True)))))))/\((∀ k3 : Nat, ((k3 <= (elemsW x1).length)-> ((WOk x1)/\(((0=0 /\ 0=0)/\True)/\((((szW x1 = szW x1)/\True)/\(((RLe (szW x1) (szW x1))/\(RowsEq [.int .u64] (szW x1) (encL encW x1) (encL encW x1)))/\True))/\True)))))/\((∀ k5 : Nat, ((k5 < (elemsW x1).length)-> ((Nat.beq (lenV (Value.int .i64 (atW x1 k5) :: @List.nil Value)) (lenN (Array.toList (Prod.fst (Prod.snd (rf0 Tryd.f21 0))))) = true)/\(((True/\True)/\True)/\((0=0/\((k5 <= k5)/\(((1 : Nat) <= (1 : Nat))/\(k5 + (1 : Nat) <= (1073741824 : Nat)))))/\(True/\(((0=0 /\ 0=0)/\True)/\(((0=0/\(k5 + (1 : Nat) = k5 + (1 : Nat)))/\True)/\(((RLe (k5 + (1 : Nat)) (k5 + (1 : Nat)))/\(RowsEq [.int .i64] (k5 + (1 : Nat)) (appRows k5 (encL encI (List.take k5 (elemsZ x1))) 0 (litRows ((D.i (atW x1 k5) :: @List.nil D) :: @List.nil (List D)))) (encL encI (List.take (k5 + (1 : Nat)) (elemsZ x1)))))/\(True/\(((szW x1 = szW x1)/\True)/\(((RLe (szW x1) (szW x1))/\(RowsEq [.int .u64] (szW x1) (encL encW x1) (encL encW x1)))/\True))))))))))))/\(((elemsW x1).length = (elemsW x1).length)/\(True/\(((0=0/\((elemsW x1).length = (elemsW x1).length))/\True)/\(True/\(((RLe (elemsW x1).length (elemsW x1).length)/\(RowsEq [.int .i64] (elemsW x1).length (encL encI (List.take (elemsW x1).length (elemsZ x1))) (encL encI (elemsZ x1))))/\True))))))))))))) = (KeepsLoop cfgL (rf0 Tryd.f21 0).2.1.toList (rf0 Tryd.f21 0).2.2.1 (rf0 Tryd.f21 0).2.2.2 listS) by kernel_rfl) (fun x1 => fun h2 => ⟨(by omega),
(by omega),
⟨trivial,
⟨⟨rfl,rfl⟩,trivial⟩,
⟨⟨rfl,rfl⟩,trivial⟩,
⟨⟨Nat.le_refl _⟩,
(by exact RowsEq.rfl')⟩,trivial,
⟨rfl,trivial⟩,
⟨⟨Nat.le_refl _⟩,RowsEq.rfl'⟩,trivial⟩,
fun k3 => fun h4 => ⟨(by omega),
⟨⟨rfl,rfl⟩,trivial⟩,
⟨⟨rfl,trivial⟩,
⟨⟨Nat.le_refl _⟩,RowsEq.rfl'⟩,trivial⟩,trivial⟩,
fun k5 => fun h6 => ⟨(by
       rfl),
⟨⟨trivial,trivial⟩,trivial⟩,
⟨rfl,
(by omega),
(by omega),
(by
       (have := elemsW_len x1; omega))⟩,trivial,
⟨⟨rfl,rfl⟩,trivial⟩,
⟨⟨rfl,rfl⟩,trivial⟩,
⟨⟨Nat.le_refl _⟩,
(by
       (rw [atW_eq h6]; exact take_push (by rw [elemsZ_len]; exact h6)))⟩,trivial,
⟨rfl,trivial⟩,
⟨⟨Nat.le_refl _⟩,RowsEq.rfl'⟩,trivial⟩,rfl,trivial,
⟨⟨rfl,rfl⟩,trivial⟩,trivial,
⟨⟨Nat.le_refl _⟩,
(by
       (rw [<- elemsZ_len, List.take_length]; exact RowsEq.rfl'))⟩,trivial⟩)
theorem listLoop_good : LoopGood Tryd.prog Tryd.f21.ntmps (rf0 Tryd.f21 0) listS.lc := loop_good tok (ConL.ok .nil) ⟨rfl, rfl, rfl⟩ each_good (by decide +kernel) list_loop
def cfgLi : Cfg := ⟨T, [], [(42, .one lenC), (43, .one eachC)], noInv, 16, { lps := [(10, listS.lc)] }⟩
def listC : CT where
 X := List Nat
 pre := WOk
 args := fun ws => [setV ws 100000]
 g0 := fun ws => setH ws .bor 100000
 res := fun ws => .sl 1 0 (elemsW ws).length
 g1 := fun ws => [(1, .rows .own k1 (elemsW ws).length (encL encI (elemsZ ws)))]
theorem rowsEq0 {ks : List Kd} {f g : Nat -> Nat -> D} : RowsEq ks 0 f g := ⟨fun r hr => absurd hr (Nat.not_lt_zero r)⟩
set_option maxRecDepth 100000 in
theorem list_keeps : Keeps cfgLi Tryd.f21 listC noIv := Eq.mp (show ((∀ x1 : List Nat, ((WOk x1)-> (∃ x3 : List Nat, ((WOk x3)/\((((szW x1 = szW x3)/\True)/\True)/\((((RLe (szW x3) (szW x1))/\(RowsEq [.int .u64] (szW x3) (encL encW x1) (encL encW x3)))/\True)/\((((0 : Int) <= (0 : Int))/\(((0 : Int) <= lenW x3)/\(lenW x3 <= (↑(1073741824 : Nat) : Int))))/\(∃ x4 : List Nat, ((WOk x4)/\((((szW x1 = szW x4)/\True)/\True)/\((((RLe (szW x4) (szW x1))/\(RowsEq [.int .u64] (szW x4) (encL encW x1) (encL encW x4)))/\True)/\(∃ x5 : LS.X listS, ((WOk x5)/\(((0=0 /\ 0=0)/\(((0=0 /\ 0=0)/\True)/\True))/\((((0=0/\(Int.toNat (0 : Int) = (0 : Nat)))/\True)/\(((RLe 0 (Int.toNat (0 : Int)))/\(RowsEq [.int .i64] 0 (fun (x j : Nat) => zRow [.int .i64] j) (encL encI (@List.nil Int))))/\(((szW x4 = szW x5)/\True)/\(((RLe (szW x5) (szW x1))/\(RowsEq [.int .u64] (szW x5) (encL encW x1) (encL encW x5)))/\True))))/\((0=0/\((elemsW x5).length = (elemsW x1).length))/\(((RLe (elemsW x1).length (elemsW x5).length)/\(RowsEq [.int .i64] (elemsW x1).length (encL encI (elemsZ x5)) (encL encI (elemsZ x1))))/\True)))))))))))))))))) = (Keeps cfgLi Tryd.f21 listC noIv) by kernel_rfl) (fun x1 => fun h2 => ⟨(x1),
(by (try dsimp only at *); omega),
⟨⟨rfl,trivial⟩,trivial⟩,
⟨⟨⟨Nat.le_refl _⟩,RowsEq.rfl'⟩,trivial⟩,
⟨(by (try dsimp only at *); omega),
(by (try dsimp only at *); (have := lenW_rng x1; omega)),
(by (try dsimp only at *); (have := lenW_rng x1; omega))⟩,
(x1),
(by (try dsimp only at *); omega),
⟨⟨rfl,trivial⟩,trivial⟩,
⟨⟨⟨Nat.le_refl _⟩,RowsEq.rfl'⟩,trivial⟩,
(x1),
(by (try dsimp only at *); omega),
⟨⟨rfl,rfl⟩,
⟨⟨rfl,rfl⟩,trivial⟩,trivial⟩,
⟨⟨⟨rfl,
(by (try dsimp only at *); omega)⟩,trivial⟩,
⟨⟨(by (try dsimp only at *); omega)⟩,
(by (try dsimp only at *); exact rowsEq0)⟩,
⟨rfl,trivial⟩,
⟨⟨Nat.le_refl _⟩,RowsEq.rfl'⟩,trivial⟩,
⟨rfl,rfl⟩,
⟨⟨Nat.le_refl _⟩,RowsEq.rfl'⟩,trivial⟩)
theorem conLi : ConOk Tryd.prog cfgLi := ConL.ok (.cons (ConL.one len_good) (.cons (ConL.one eachC_good) .nil))
theorem one_loop {P : Program} [Glob] {fn : Func} {p : Nat} {lc : LC} {q : Operand × Array Tmp × Code × Code} (h0 : rfsF fn = [q]) (hg : LoopGood P fn.ntmps q lc) :
  ∀ q ∈ rfsF fn, ∀ lc', lget [(p, lc)] (ps0 q.2.1) = some lc' -> LoopGood P fn.ntmps q lc' := by
 intro q' hq lc' hl
 rw [h0] at hq
 obtain rfl := List.mem_singleton.1 hq
 unfold lget at hl
 split at hl
 ·cases hl; exact hg
 ·cases hl
theorem list_good : Good Tryd.prog 21 listC /\ FnOk Tryd.prog 21 := good_ofX tok conLi (fn := Tryd.f21) rfl (by decide +kernel) (fun _ => rfl) list_keeps (fun g hg => by cases hg) (one_loop rfl listLoop_good)
end Go.Sym