import Derived.Test.YtpommejalaechaaM1
import Derived.Test.YtpommejalaechaaJ8
import Derived.Test.YtpommejalaechaaJ9
import Derived.Test.YtpommejalaechaaJ10
import Derived.Test.YtpommejalaechaaQ2
import Derived.Test.YtpommejalaechaaXD
namespace Go.Sym
set_option linter.unusedVariables false
set_option linter.unusedSimpArgs false
open Go.Proofs
set_option maxHeartbeats 4000000
def kuC : CT where
 X := Unit
 pre := fun _ => True
 args := fun _ => [.i .u64 14695981039346656037, .ns]
 g0 := fun _ => []
 res := fun _ => .i .u64 14695981039346656037
 g1 := fun _ => []
def kuI (_ : Unit) (id : Nat) : Option Inv := match id with
 | 0 => some { X := Unit, ok := fun _ => True, fr := fun _ => [(9, .i .i64 0), (0, .i .u64 14695981039346656037)], hp := fun _ => [], me := fun _ => 0 }
 | _ => none
set_option maxRecDepth 100000 in
theorem ku_keeps : Keeps cfgN0 Try.f29 kuC kuI := Eq.mp (show ((∀ x1 : Unit, (True -> (∃ x3 : Unit, ((True/\((((0 : Int) = 0)/\(((14695981039346656037 : Int) = 14695981039346656037)/\(((0 : Int) = 0)/\(True/\(((0 : Int) = 0)/\(True/\True))))))/\True))/\(∀ x4 : Unit, (True -> (((decide ((0 : Int) < 0) = true)-> (Stuck 6 (dN (Oper.dst (Oper.mk (some 11) (Op.indexAddr 69 (Operand.tmp 7) (Operand.tmp 9)) 0 ("checksum.go:36") (List.toArray (@List.nil Edge)) none)))))/\((decide ((0 : Int) < 0) = false)-> (((14695981039346656037 : Int) = 14695981039346656037)/\True)))))))))) = (Keeps cfgN0 Try.f29 kuC kuI) by kernel_rfl) (fun x1 => fun h2 => ⟨(default),
⟨trivial,
⟨rfl,rfl,rfl,trivial,rfl,trivial,trivial⟩,trivial⟩,
fun x4 => fun h5 => ⟨fun g6 => have h6 := of_decide_eq_true g6; (by omega),
fun g7 => have h7 := of_decide_eq_false g7; ⟨rfl,trivial⟩⟩⟩)
theorem ku_good : Good Try.prog 29 kuC /\ FnOk Try.prog 29 := good_of tok conN0 (fn := Try.f29) rfl (by decide +kernel) (fun _ => rfl) ku_keeps
def ksC : CT where
 X := Unit
 pre := fun _ => True
 args := fun _ => [.ns]
 g0 := fun _ => []
 res := fun _ => .i .u64 14695981039346656037
 g1 := fun _ => []
def cfgJc : Cfg := ⟨T, [], [(29, .one kuC)], noInv, 20, {}⟩
theorem conJc : ConOk Try.prog cfgJc := ConL.ok (.cons (ConL.one ku_good) .nil)
set_option maxRecDepth 100000 in
theorem ks_keeps : Keeps cfgJc Try.f18 ksC noIv := Eq.mp (show ((∀ x1 : Unit, (True -> (∃ x3 : Unit, (True/\((((14695981039346656037 : Int) = 14695981039346656037)/\(True/\True))/\(True/\(((14695981039346656037 : Int) = 14695981039346656037)/\True)))))))) = (Keeps cfgJc Try.f18 ksC noIv) by kernel_rfl) (fun x1 => fun h2 => ⟨(()),trivial,
⟨rfl,trivial,trivial⟩,trivial,rfl,trivial⟩)
theorem ks_good : Good Try.prog 18 ksC /\ FnOk Try.prog 18 := good_of tok conJc (fn := Try.f18) rfl (by decide +kernel) (fun _ => rfl) ks_keeps
def tawC : CT where
 X := Unit
 pre := fun _ => True
 args := fun _ => []
 g0 := fun _ => []
 res := fun _ => .b true
 g1 := fun _ => []
def cfgJd : Cfg := ⟨T, [], [(18, .one ksC)], noInv, 20, {}⟩
theorem conJd : ConOk Try.prog cfgJd := ConL.ok (.cons (ConL.one ks_good) .nil)
set_option maxRecDepth 100000 in
theorem taw_keeps : Keeps cfgJd Try.f4 tawC noIv := Eq.mp (show ((∀ x1 : Unit, (True -> (∃ x3 : Unit, (True/\((True/\True)/\(True/\((decide ((14695981039346656037 : Int) ≠ (0 : Int)) = true)/\True)))))))) = (Keeps cfgJd Try.f4 tawC noIv) by kernel_rfl) (fun x1 => fun h2 => ⟨(()),trivial,
⟨trivial,trivial⟩,trivial,
(by grind),trivial⟩)
theorem taw_good : Good Try.prog 4 tawC /\ FnOk Try.prog 4 := good_of tok conJd (fn := Try.f4) rfl (by decide +kernel) (fun _ => rfl) taw_keeps
def tfewC : CT where
 X := List Ed
 pre := fun _ => True
 args := fun l => [.sl 100000 0 l.length]
 g0 := fun l => [(100000, .rows .bor kE l.length (encL encE l))]
 res := fun l => .b (decide (l.length <= 24))
 g1 := fun _ => []
set_option maxRecDepth 100000 in
theorem tfew_keeps : Keeps cfgN0 Try.f5 tfewC noIv := Eq.mp (show ((∀ x1 : List Ed, (True -> ((decide ((x1.length : Int) <= (24 : Int)) = decide (x1.length <= (24 : Nat)))/\True)))) = (Keeps cfgN0 Try.f5 tfewC noIv) by kernel_rfl) (fun x1 => fun h2 => ⟨(by grind),trivial⟩)
theorem tfew_good : Good Try.prog 5 tfewC /\ FnOk Try.prog 5 := good_of tok conN0 (fn := Try.f5) rfl (by decide +kernel) (fun _ => rfl) tfew_keeps
theorem hasW_go : ∀ (l : List Int) (ws : List Nat), WOk ws -> ∀ v : Nat, v < 4096 -> hasW (l.foldl addOk ws) v = (hasW ws v || decide ((v : Int) ∈ l))
 | [], ws, _, v, _ => by simp
 | a :: l, ws, h, v, hv => by
  rw [List.foldl_cons, hasW_go l _ (h.addOk a) v hv]
  have e : hasW (addOk ws a) v = (hasW ws v || decide ((v : Int) = a)) := by
   unfold addOk
   split
   ·rename_i ha
    rw [hasW_add h ha]
    congr 1
    apply decide_eq_decide.2
    omega
   ·rename_i ha
    rw [decide_eq_false (by omega), Bool.or_false]
  rw [e, Bool.or_assoc]
  congr 1
  rw [Bool.eq_iff_iff]; simp
theorem hasW_of {l : List Int} {v : Nat} (hv : v < 4096) : hasW (ofW l l.length) v = decide ((v : Int) ∈ l) := by
 unfold ofW
 rw [List.take_length, hasW_go l _ .nil v hv, hasW_nil, Bool.false_or]
theorem wi_mem {d : List Int} {t : Int} {v : Nat} (hv : v < d.length) : (v : Int) ∈ wiL d t ↔ d.getD v default <= t /\ d.getD v default ≠ 4611686018427387904 := by
 unfold wiL wiAt
 rw [List.mem_map]
 constructor
 ·rintro ⟨i, hi, e⟩
  have : i = v := by omega
  subst this
  exact of_decide_eq_true (List.mem_filter.1 hi).2
 ·intro h
  exact ⟨v, List.mem_filter.2 ⟨List.mem_range.2 hv, decide_eq_true h⟩, rfl⟩
theorem has_wi {d : List Int} {t : Int} {v : Nat} (hv : v < d.length) (hn : d.length <= 12) (ht : t <= 255) : (decide (0 <= (v : Int)) && hasW (ofW (wiL d t) (wiL d t).length) (v : Int).toNat) = decide (d.getD v default <= t) := by
 rw [decide_eq_true (by omega : 0 <= (v : Int)), Bool.true_and, Int.toNat_natCast, hasW_of (by omega)]
 apply decide_eq_decide.2
 rw [wi_mem hv]
 constructor
 ·exact fun h => h.1
 ·exact fun h => ⟨h, by omega⟩
def woAt (d : List Int) (k : Nat) : Int := (List.range k).foldl (fun m i => max m (d.getD i default)) 0
theorem woAt_succ (d : List Int) (k : Nat) : woAt d (k + 1) = max (woAt d k) (d.getD k default) := by unfold woAt; rw [List.range_succ, List.foldl_append]; rfl
theorem wo_fa {d : List Int} (h : ∀ v, v < d.length -> 0 <= d.getD v default) : ∀ k, k <= d.length -> (k = 0 /\ (faAt d k).1 = -1 /\ woAt d k = 0) ∨ (0 < k /\ (faAt d k).1 = woAt d k /\ 0 <= woAt d k)
 | 0, _ => .inl ⟨rfl, rfl, rfl⟩
 | k + 1, hk => by
  have hd := h k (by omega)
  right
  refine ⟨by omega, ?_, ?_⟩
  ·rcases wo_fa h k (by omega) with ⟨_, a, b⟩ | ⟨_, a, b⟩
   ·rw [faAt_yes (by omega), woAt_succ]; show d.getD k default = _; omega
   ·by_cases q : (faAt d k).1 < d.getD k default
    ·rw [faAt_yes q, woAt_succ]; show d.getD k default = _; omega
    ·rw [faAt_no q, woAt_succ]; omega
  ·rw [woAt_succ]
   rcases wo_fa h k (by omega) with ⟨_, a, b⟩ | ⟨_, a, b⟩ <;> omega
theorem wo_end {d : List Int} (h : ∀ v, v < d.length -> 0 <= d.getD v default) (hl : 0 < d.length) : (faL d).1 = woAt d d.length := by
 rcases wo_fa h d.length (Nat.le_refl _) with ⟨a, _⟩ | ⟨_, a, _⟩
 ·omega
 ·exact a
end Go.Sym