/- The operations that only compute do what the engine says. -/
import Derived.Test.YtpggcpinebbjgaaXE10
import Derived.Laws.StructEq
import Derived.Laws.Entries
namespace Go.Sym
set_option linter.unusedVariables false
set_option linter.unusedSimpArgs false

theorem int_beq (x y : Int) : (x == y) = decide (x = y) := by rw [Bool.eq_iff_iff]; simp
theorem lenP_eq (l : List (Nat × Nat)) : lenP l = l.length := by induction l with | nil => rfl | cons x r ih => simp [lenP, ih]
theorem wrap_inR {k : IntKind} {n : Int} (h : inR k n) : k.wrap n = n := by
  cases k <;> simp only [inR] at h <;> simp [IntKind.wrap, IntKind.bits, IntKind.signed] <;> omega

section
variable {ρi : Env} {P : Program} {E A : Nat → Prop} {w0 : World} {ρ : Env} {F : Fr} {G : Hp} {a : Act} {w : World} {o : Oper}

theorem arith_den {wr : Bool} {k : IntKind} {n : Int} (hp : (arith wr k n).Pre) : Den ρ (arith wr k n).v (.int k (k.wrap n)) ∧ (arith wr k n).wr = [] ∧ (arith wr k n).v.labs = [] := by
  unfold arith at hp ⊢
  cases wr with
  | true => simp [Den, SV.labs]
  | false => simp only [Res.Pre] at hp; simp [Den, SV.labs, wrap_inR hp]

theorem binI_sound {wr : Bool} {op : BinOp} {k : IntKind} {x y : Int} {r : Res} (t : Nat) (hr : binI wr op k x y = some r) (hp : r.Pre) :
    ∃ u, (binOp op t (.int k x) (.int k y)).run P w = .ok u w ∧ Den ρ r.v u ∧ r.wr = [] ∧ r.v.labs = [] := by
  unfold binI at hr
  split at hr
  · cases hr; exact ⟨_, by simp [binOp, Op.intArith], arith_den hp⟩
  · cases hr; exact ⟨_, by simp [binOp, Op.intArith], arith_den hp⟩
  · cases hr; exact ⟨_, by simp [binOp, Op.intArith], arith_den hp⟩
  · split at hr
    · cases hr
      simp only [Res.Pre] at hp
      refine ⟨.int k (k.wrap (x.tdiv y)), ?_, by simp [Den], rfl, by simp [SV.labs]⟩
      simp [binOp, Op.intDiv, hp]
    · cases hr
      simp only [Res.Pre] at hp
      obtain ⟨h1, h2, h3⟩ := hp
      have e : x.tdiv y = x / y := Int.tdiv_eq_ediv_of_nonneg h1
      refine ⟨.int k (k.wrap (x.tdiv y)), ?_, ?_, rfl, by simp [SV.labs]⟩
      · have : y ≠ 0 := by omega
        simp [binOp, Op.intDiv, this]
      · simp only [Den]; rw [e, wrap_inR h3]
  · split at hr
    · cases hr
      simp only [Res.Pre] at hp
      refine ⟨.int k (x.tmod y), ?_, by simp [Den], rfl, by simp [SV.labs]⟩
      simp [binOp, Op.intDiv, hp]
    · cases hr
      simp only [Res.Pre] at hp
      obtain ⟨h1, h2⟩ := hp
      have e : x.tmod y = x % y := Int.tmod_eq_emod_of_nonneg h1
      refine ⟨.int k (x.tmod y), ?_, ?_, rfl, by simp [SV.labs]⟩
      · have : y ≠ 0 := by omega
        simp [binOp, Op.intDiv, this]
      · simp only [Den]; rw [e]
  · cases hr; exact ⟨_, by simp only [binOp, ne_eq, not_true_eq_false, if_false, Op.intBits]; rfl, by simp only [Den]; rfl, rfl, by simp [SV.labs]⟩
  · cases hr; exact ⟨_, by simp only [binOp, ne_eq, not_true_eq_false, if_false, Op.intBits]; rfl, by simp only [Den]; rfl, rfl, by simp [SV.labs]⟩
  · cases hr; exact ⟨_, by simp only [binOp, ne_eq, not_true_eq_false, if_false, Op.intBits]; rfl, by simp only [Den]; rfl, rfl, by simp [SV.labs]⟩
  · cases hr; exact ⟨_, by simp only [binOp, ne_eq, not_true_eq_false, if_false, Op.intBits]; rfl, by simp only [Den]; rfl, rfl, by simp [SV.labs]⟩
  · cases hr; exact ⟨_, by simp [binOp, Op.intCmp]; rfl, by simp [Den, int_beq], rfl, by simp [SV.labs]⟩
  · cases hr; exact ⟨_, by simp [binOp, Op.intCmp]; rfl, by simp [Den, bne, int_beq], rfl, by simp [SV.labs]⟩
  · cases hr; exact ⟨_, by simp [binOp, Op.intCmp]; rfl, by simp [Den], rfl, by simp [SV.labs]⟩
  · cases hr; exact ⟨_, by simp [binOp, Op.intCmp]; rfl, by simp [Den], rfl, by simp [SV.labs]⟩
  · cases hr; exact ⟨_, by simp [binOp, Op.intCmp]; rfl, by simp [Den], rfl, by simp [SV.labs]⟩
  · cases hr; exact ⟨_, by simp [binOp, Op.intCmp]; rfl, by simp [Den], rfl, by simp [SV.labs]⟩
  · cases hr

theorem shiftI_sound {op : BinOp} {k yk : IntKind} {x y : Int} {r : Res} (t : Nat) (hr : shiftI op k x y = some r) (hp : r.Pre) :
    ∃ u, (binOp op t (.int k x) (.int yk y)).run P w = .ok u w ∧ Den ρ r.v u ∧ r.wr = [] ∧ r.v.labs = [] := by
  unfold shiftI at hr
  split at hr
  · cases hr
    simp only [Res.Pre] at hp
    have : ¬ y < 0 := by omega
    exact ⟨_, by simp [binOp, Op.shift, this]; rfl, by simp [Den], rfl, by simp [SV.labs]⟩
  · cases hr
    simp only [Res.Pre] at hp
    have : ¬ y < 0 := by omega
    exact ⟨_, by simp [binOp, Op.shift, this]; rfl, by simp [Den], rfl, by simp [SV.labs]⟩
  · cases hr
theorem binS_sound {op : BinOp} {x y : ByteArray} {r : Res} (t : Nat) (hr : binS op x y = some r) (hp : r.Pre) :
    ∃ u, (binOp op t (.string x) (.string y)).run P w = .ok u w ∧ Den ρ r.v u ∧ r.wr = [] ∧ r.v.labs = [] := by
  unfold binS at hr
  split at hr
  · cases hr
    simp only [Res.Pre] at hp
    have : ¬ ((x.size + y.size : Nat) : Int) > IntKind.i64.max := by
      have : IntKind.i64.max = 9223372036854775807 := rfl
      omega
    have h2 : ¬ (IntKind.i64.max < (x.size : Int) + (y.size : Int)) := by
      have : IntKind.i64.max = 9223372036854775807 := rfl
      omega
    exact ⟨.string (x ++ y), by simp [binOp, Op.stringOp, h2]; omega, by simp [Den], rfl, by simp [SV.labs]⟩
  · cases hr; exact ⟨_, by simp [binOp, Op.stringOp]; rfl, by simp [Den], rfl, by simp [SV.labs]⟩
  · cases hr; exact ⟨_, by simp [binOp, Op.stringOp]; rfl, by simp [Den], rfl, by simp [SV.labs]⟩
  · cases hr; exact ⟨_, by simp [binOp, Op.stringOp]; rfl, by simp [Den], rfl, by simp [SV.labs]⟩
  · cases hr; exact ⟨_, by simp [binOp, Op.stringOp]; rfl, by simp [Den], rfl, by simp [SV.labs]⟩
  · cases hr; exact ⟨_, by simp [binOp, Op.stringOp]; rfl, by simp [Den], rfl, by simp [SV.labs]⟩
  · cases hr; exact ⟨_, by simp [binOp, Op.stringOp]; rfl, by simp [Den], rfl, by simp [SV.labs]⟩
  · cases hr
theorem run_equalIn_map_nil (d : Nat) {t k e : Nat} (h : P.underlying t = some (.map k e)) (x : Nat) : (Op.equalIn (d + 1) t (.map (some x)) (.map none)).run P w = .ok false w := by
  simp only [Op.equalIn, Sem.run_bind, run_underlying h, Result.andThen_ok]
  rfl
theorem run_eql_map (t : Nat) (x y : Option Nat) : (binOp .eql t (.map x) (.map y)).run P w = ((Op.equalIn 10000 t (.map x) (.map y)).run P w).andThen fun b w' => .ok (.bool b) w' := by
  simp only [binOp]
  simp [Op.equal, Op.maxDepth]
theorem run_neq_map (t : Nat) (x y : Option Nat) : (binOp .neq t (.map x) (.map y)).run P w = ((Op.equalIn 10000 t (.map x) (.map y)).run P w).andThen fun b w' => .ok (.bool (!b)) w' := by
  simp only [binOp]
  simp [Op.equal, Op.maxDepth]

theorem guard_plain (op : BinOp) (t : Nat) (x y : Operand) {u v : Value} (h : (∀ cs, u ≠ .agg cs) ∧ u ≠ .nilIface) : (eqGuard op t x y u v).run P w = .ok () w := by
  simp only [eqGuard, Sem.run_ite]
  split
  · rw [if_neg (by simp)]
    (cases u with
      | agg cs => exact absurd rfl (h.1 cs)
      | nilIface => exact absurd rfl h.2
      | _ => cases v <;> rfl)
  · rw [if_neg (by simp)]
    (cases u with
      | agg cs => exact absurd rfl (h.1 cs)
      | nilIface => exact absurd rfl h.2
      | _ => cases v <;> rfl)
  · rw [if_pos (by simp)]
    rfl

theorem tdOk_shape {T : List (Nat × TI)} (hT : TOk P T) {t : Nat} {ti : TI} (h : tget T t = some ti) : ∃ d, P.underlying t = some d ∧ tdOk ti.d d = true := (hT _ _ h).d

theorem eqFields_run {T : List (Nat × TI)} (hT : TOk P T) {xs ys : Array Value} {d : Nat} : ∀ (gs : List Field) (n : Nat) (as bs : List SV) (e : Bool),
    isAllInt T (gs.map fun f => (f.offset, f.type)) n = true → (∀ f ∈ gs, f.name ≠ "_") → DenL ρ as (xs.toList.drop n) → DenL ρ bs (ys.toList.drop n) → eqCs as bs = some e → as.length = gs.length →
    (Op.eqFields (d + 1) xs ys gs).run P w = .ok e w
  | [], n, as, bs, e, _, _, _, _, he, hl => by
    cases as with
    | nil => cases bs with
      | nil => simp only [eqCs, Option.some.injEq] at he; subst he; rfl
      | cons => simp [eqCs] at he
    | cons => simp at hl
  | f :: gs, n, as, bs, e, hi, hn, ha, hb, he, hl => by
    cases as with
    | nil => simp at hl
    | cons x as => cases bs with
      | nil => simp [eqCs] at he
      | cons y bs =>
        simp only [List.map_cons, isAllInt] at hi
        split at hi
        · rename_i hoff
          have hoff := Nat.eq_of_beq_eq_true hoff
          split at hi
          · rename_i k s1 s2 s3 hti
            have hnm := hn f (by simp)
            have hTi := hT _ _ hti
            obtain ⟨dd, hd1, hd2⟩ := hTi.d
            have hu : P.underlying f.type = some (.int k) := by
              cases dd <;> simp only [tdOk] at hd2 <;> try cases hd2
              rw [hd1, IntKind.same_iff.1 hd2]
            unfold eqCs at he
            split at he
            · rename_i q1 q2 h1 h2
              cases he
              cases hxd : xs.toList.drop n with
              | nil => rw [hxd] at ha; simp [DenL] at ha
              | cons u us => cases hyd : ys.toList.drop n with
                | nil => rw [hyd] at hb; simp [DenL] at hb
                | cons v vs =>
                  rw [hxd, DenL_cons] at ha
                  rw [hyd, DenL_cons] at hb
                  have hu0 : xs[n]? = some u := by
                    have h0 : (xs.toList.drop n)[0]? = some u := by rw [hxd]; rfl
                    rw [List.getElem?_drop] at h0
                    simpa using h0
                  have hv0 : ys[n]? = some v := by
                    have h0 : (ys.toList.drop n)[0]? = some v := by rw [hyd]; rfl
                    rw [List.getElem?_drop] at h0
                    simpa using h0
                  have hus : us = xs.toList.drop (n + 1) := by
                    have := congrArg List.tail hxd; simpa using this.symm
                  have hvs : vs = ys.toList.drop (n + 1) := by
                    have := congrArg List.tail hyd; simpa using this.symm
                  unfold eqC at h1
                  split at h1
                  · rename_i k1 a1 k2 b1
                    split at h1
                    · rename_i hk
                      cases h1
                      have := IntKind.same_iff.1 hk
                      subst this
                      have hx1 := ha.1
                      have hy1 := hb.1
                      simp only [Den] at hx1 hy1
                      subst hx1; subst hy1
                      have hpa : ∀ (zs : Array Value) (z : Value), zs[n]? = some z → (part f.type zs f.offset).run P w = .ok z w := by
                        intro zs z hz
                        have : (TI.mk (.int k) s1 s2 s3).isAgg = false := rfl
                        simp only [part, Sem.run_bind, run_isAgg hTi, Result.andThen_ok, this, Bool.false_eq_true, if_false, hoff, hz, Sem.run_pure]
                      simp only [Op.eqFields, if_pos hnm, Sem.run_bind, hpa xs _ hu0, hpa ys _ hv0, Result.andThen_ok, run_equalIn_int _ _ _ _ _ _ _ hu]
                      have hrec := eqFields_run (d := d) hT gs (n + 1) as bs q2 hi (fun g hg => hn g (by simp [hg])) (hus ▸ ha.2) (hvs ▸ hb.2) h2 (by simpa using hl)
                      by_cases hab : a1 = b1
                      · subst hab
                        simp only [beq_self_eq_true, Bool.not_true, Bool.false_eq_true, if_false, decide_true, Bool.true_and]
                        exact hrec
                      · have hb' : (a1 == b1) = false := by simp [hab]
                        simp [hb', hab]
                    · cases h1
                  · cases h1
            · cases he
          · cases hi
        · cases hi

theorem run_equalIn_ptr_nil (d : Nat) {t e : Nat} (h : P.underlying t = some (.pointer e)) (x : Addr) : (Op.equalIn (d + 1) t (.pointer (some x)) (.pointer none)).run P w = .ok false w := by
  simp only [Op.equalIn, Sem.run_bind, run_underlying h, Result.andThen_ok]
  rfl
theorem run_equalIn_nil_nil (d : Nat) {t e : Nat} (h : P.underlying t = some (.pointer e)) : (Op.equalIn (d + 1) t (.pointer none) (.pointer none)).run P w = .ok true w := by
  simp only [Op.equalIn, Sem.run_bind, run_underlying h, Result.andThen_ok]
  rfl
theorem run_eql_ptr (t : Nat) (x y : Option Addr) : (binOp .eql t (.pointer x) (.pointer y)).run P w = ((Op.equalIn 10000 t (.pointer x) (.pointer y)).run P w).andThen fun b w' => .ok (.bool b) w' := by
  simp only [binOp]
  simp [Op.equal, Op.maxDepth]
theorem run_neq_ptr (t : Nat) (x y : Option Addr) : (binOp .neq t (.pointer x) (.pointer y)).run P w = ((Op.equalIn 10000 t (.pointer x) (.pointer y)).run P w).andThen fun b w' => .ok (.bool (!b)) w' := by
  simp only [binOp]
  simp [Op.equal, Op.maxDepth]

theorem evBin_sound {T : List (Nat × TI)} (hT : TOk P T) {wr : Bool} {op : BinOp} {t : Nat} {x y : SV} {r : Res} (hr : evBin T wr op t x y = some r) (hp : r.Pre) {u v : Value} (hx : Den ρ x u) (hy : Den ρ y v) (xo yo : Operand) :
    ∃ z, (do eqGuard op t xo yo u v; binOp op t u v : Sem Value).run P w = .ok z w ∧ Den ρ r.v z ∧ r.wr = [] ∧ r.v.labs = [] := by
  have hbool : ∀ {s b : Nat} {z : List SV}, tget T t = some ⟨.bool, s, b, z⟩ → P.underlying t = some .bool := by
    intro s b z h
    obtain ⟨dd, h1, h2⟩ := tdOk_shape hT h
    cases dd <;> simp only [tdOk] at h2 <;> first | exact h1 | cases h2
  have hptr : ∀ {e s b : Nat} {z : List SV}, tget T t = some ⟨.ptr e, s, b, z⟩ → P.underlying t = some (.pointer e) := by
    intro e s b z h
    obtain ⟨dd, h1, h2⟩ := tdOk_shape hT h
    cases dd <;> simp only [tdOk] at h2 <;> try cases h2
    rw [h1, Nat.eq_of_beq_eq_true h2]
  have hmap : ∀ {k e s b : Nat} {z : List SV}, tget T t = some ⟨.map k e, s, b, z⟩ → P.underlying t = some (.map k e) := by
    intro k e s b z h
    obtain ⟨dd, h1, h2⟩ := tdOk_shape hT h
    cases dd <;> simp only [tdOk] at h2 <;> try cases h2
    rw [Bool.and_eq_true] at h2
    rw [h1, Nat.eq_of_beq_eq_true h2.1, Nat.eq_of_beq_eq_true h2.2]
  unfold evBin at hr
  split at hr
  · rename_i k1 a1 k2 b1
    simp only [Den] at hx hy
    subst hx; subst hy
    split at hr
    · rename_i hk
      have := IntKind.same_iff.1 hk
      subst this
      split at hr
      · rename_i r' hb
        cases hr
        obtain ⟨z, h1, h2, h3, h4⟩ := binI_sound (P := P) (w := w) (ρ := ρ) t hb hp
        exact ⟨z, by rw [Sem.run_bind, guard_plain _ _ _ _ ⟨by simp, by simp⟩]; exact h1, h2, h3, h4⟩
      · obtain ⟨z, h1, h2, h3, h4⟩ := shiftI_sound (P := P) (w := w) (ρ := ρ) (yk := k1) t hr hp
        exact ⟨z, by rw [Sem.run_bind, guard_plain _ _ _ _ ⟨by simp, by simp⟩]; exact h1, h2, h3, h4⟩
    · obtain ⟨z, h1, h2, h3, h4⟩ := shiftI_sound (P := P) (w := w) (ρ := ρ) (yk := k2) t hr hp
      exact ⟨z, by rw [Sem.run_bind, guard_plain _ _ _ _ ⟨by simp, by simp⟩]; exact h1, h2, h3, h4⟩
  · split at hr
    · simp only [Den] at hx hy
      subst hx; subst hy
      obtain ⟨z, h1, h2, h3, h4⟩ := binS_sound (P := P) (w := w) (ρ := ρ) t hr hp
      exact ⟨z, by rw [Sem.run_bind, guard_plain _ _ _ _ ⟨by simp, by simp⟩]; exact h1, h2, h3, h4⟩
    · cases hr
  · rename_i l n
    split at hr
    · rename_i e s1 s2 s3 hti
      have hu := hptr hti
      simp only [Den] at hx hy
      subst hy
      rcases hx with ⟨rfl, rfl⟩ | ⟨pl, hn, _, rfl⟩
      · split at hr
        · cases hr
          exact ⟨.bool true, by rw [Sem.run_bind, guard_plain _ _ _ _ ⟨by simp, by simp⟩]; rw [Result.andThen_ok, run_eql_ptr, run_equalIn_nil_nil 9999 hu]; rfl, by simp [Den], rfl, by simp [SV.labs]⟩
        · cases hr
          exact ⟨.bool false, by rw [Sem.run_bind, guard_plain _ _ _ _ ⟨by simp, by simp⟩]; rw [Result.andThen_ok, run_neq_ptr, run_equalIn_nil_nil 9999 hu]; rfl, by simp [Den], rfl, by simp [SV.labs]⟩
        · cases hr
      · split at hr
        · cases hr
          exact ⟨.bool false, by rw [Sem.run_bind, guard_plain _ _ _ _ ⟨by simp, by simp⟩]; rw [Result.andThen_ok, run_eql_ptr, run_equalIn_ptr_nil 9999 hu]; rfl, by simp [Den, hn], rfl, by simp [SV.labs]⟩
        · cases hr
          exact ⟨.bool true, by rw [Sem.run_bind, guard_plain _ _ _ _ ⟨by simp, by simp⟩]; rw [Result.andThen_ok, run_neq_ptr, run_equalIn_ptr_nil 9999 hu]; rfl, by simp [Den, hn], rfl, by simp [SV.labs]⟩
        · cases hr
    · cases hr
  · rename_i l
    split at hr
    · rename_i k e s1 s2 s3 hti
      have hu := hmap hti
      simp only [Den] at hx hy
      obtain ⟨pl, _, rfl⟩ := hx
      subst hy
      split at hr
      · cases hr
        exact ⟨.bool false, by rw [Sem.run_bind, guard_plain _ _ _ _ ⟨by simp, by simp⟩]; rw [Result.andThen_ok, run_eql_map, run_equalIn_map_nil 9999 hu]; rfl, by simp [Den], rfl, by simp [SV.labs]⟩
      · cases hr
        exact ⟨.bool true, by rw [Sem.run_bind, guard_plain _ _ _ _ ⟨by simp, by simp⟩]; rw [Result.andThen_ok, run_neq_map, run_equalIn_map_nil 9999 hu]; rfl, by simp [Den], rfl, by simp [SV.labs]⟩
      · cases hr
    · cases hr
  all_goals try (
    split at hr
    · rename_i hti
      split at hr
      · cases hr
        simp only [Den] at hx hy
        subst hx; subst hy
        exact ⟨_, by rw [Sem.run_bind, guard_plain _ _ _ _ ⟨by simp, by simp⟩]; exact run_eql_bool _ _ _ _ (hbool hti), by simp [Den], rfl, by simp [SV.labs]⟩
      · cases hr
        simp only [Den] at hx hy
        subst hx; subst hy
        exact ⟨_, by rw [Sem.run_bind, guard_plain _ _ _ _ ⟨by simp, by simp⟩]; exact run_neq_bool _ _ _ _ (hbool hti), by simp [Den, bne], rfl, by simp [SV.labs]⟩
      · cases hr
    · cases hr)
  · split at hr
    · rename_i e s1 s2 s3 hti
      have hu := hptr hti
      simp only [Den] at hx hy
      obtain ⟨pl, _, rfl⟩ := hx
      subst hy
      split at hr
      · cases hr
        exact ⟨.bool false, by rw [Sem.run_bind, guard_plain _ _ _ _ ⟨by simp, by simp⟩]; rw [Result.andThen_ok, run_eql_ptr, run_equalIn_ptr_nil 9999 hu]; rfl, by simp [Den], rfl, by simp [SV.labs]⟩
      · cases hr
        exact ⟨.bool true, by rw [Sem.run_bind, guard_plain _ _ _ _ ⟨by simp, by simp⟩]; rw [Result.andThen_ok, run_neq_ptr, run_equalIn_ptr_nil 9999 hu]; rfl, by simp [Den], rfl, by simp [SV.labs]⟩
      · cases hr
    · cases hr
  · split at hr
    · rename_i e s1 s2 s3 hti
      have hu := hptr hti
      simp only [Den] at hx hy
      subst hx; subst hy
      split at hr
      · cases hr
        exact ⟨.bool true, by rw [Sem.run_bind, guard_plain _ _ _ _ ⟨by simp, by simp⟩]; rw [Result.andThen_ok, run_eql_ptr, run_equalIn_nil_nil 9999 hu]; rfl, by simp [Den], rfl, by simp [SV.labs]⟩
      · cases hr
        exact ⟨.bool false, by rw [Sem.run_bind, guard_plain _ _ _ _ ⟨by simp, by simp⟩]; rw [Result.andThen_ok, run_neq_ptr, run_equalIn_nil_nil 9999 hu]; rfl, by simp [Den], rfl, by simp [SV.labs]⟩
      · cases hr
    · cases hr
  · rename_i xs ys
    split at hr
    · rename_i fs size s2 s3 hti
      split at hr
      · rename_i e hi he hsz
        have hTi := hT _ _ hti
        obtain ⟨dd, hd1, hd2⟩ := hTi.d
        obtain ⟨gs, rfl, hfs⟩ : ∃ gs, dd = .struct gs ∧ gs.toList.map (fun f => (f.offset, f.type)) = fs := by
          cases dd <;> simp only [tdOk] at hd2 <;> try cases hd2
          exact ⟨_, rfl, of_decide_eq_true hd2⟩
        have hs := hTi.s
        unfold structOk at hs
        rw [hd1] at hs
        rw [Bool.and_eq_true] at hs
        replace hs := hs.2
        simp only [Bool.or_eq_true, Bool.and_eq_true] at hs
        have hall : ∀ (l : List (Nat × Nat)) n, isAllInt T l n = true → ∀ p ∈ l, ∃ k, P.underlying p.2 = some (.int k) := by
          intro l
          induction l with
          | nil => intro n _ p hp; simp at hp
          | cons q l ih =>
            intro n h p hp
            obtain ⟨off, ft⟩ := q
            simp only [isAllInt] at h
            split at h
            · split at h
              · rename_i k s1 s2 s3 hq
                rcases List.mem_cons.1 hp with rfl | hp
                · obtain ⟨d3, h3, h4⟩ := tdOk_shape hT hq
                  cases d3 <;> simp only [tdOk] at h4 <;> try cases h4
                  exact ⟨_, h3⟩
                · exact ih (n + 1) h p hp
              · cases h
            · cases h
        obtain ⟨⟨hnames, hg⟩, hst⟩ := hs.resolve_left (by
          intro h
          rw [List.any_eq_true] at h
          obtain ⟨f, hf, hf2⟩ := h
          obtain ⟨k, hk⟩ := hall fs 0 hi (f.offset, f.type) (by rw [← hfs]; exact List.mem_map.2 ⟨f, hf, rfl⟩)
          simp only at hk
          rw [hk] at hf2
          cases hf2)
        simp only [Den] at hx hy
        obtain ⟨us, rfl, hus⟩ := hx
        obtain ⟨vs, rfl, hvs⟩ := hy
        have hfo : P.fieldsOf t = gs := by simp [Program.fieldsOf, hd1]
        have hlen : xs.length = gs.toList.length := by
          have h1 := Nat.eq_of_beq_eq_true hsz
          rw [lenL_eq, lenP_eq] at h1
          rw [h1, ← hfs]
          simp
        have hrun := eqFields_run (ρ := ρ) (w := w) hT (d := 9998) gs.toList 0 xs ys e (by rw [hfs]; exact hi) (fun f hf => by
          have := List.all_eq_true.1 hnames f hf
          simpa using this) (by simpa using hus) (by simpa using hvs) he hlen
        have hst' : P.stoodInHeld t = false := by simpa using hst
        have hg' : P.eqGuardType P.depth t = false := by simpa using hg
        have heq : (Op.equalIn 10000 t (.agg us) (.agg vs)).run P w = .ok e w := by
          rw [show (10000 : Nat) = 9999 + 1 from rfl, run_equalIn_agg w 9999 t us vs (by rw [hfo]; exact hd1) hst', hfo]
          exact hrun
        split at hr
        · cases hr
          exact ⟨.bool e, by rw [Sem.run_bind, run_eqGuard_agg _ _ _ _ _ _ _ hg', Result.andThen_ok, run_eql_struct, heq]; rfl, by simp [Den], rfl, by simp [SV.labs]⟩
        · cases hr
          exact ⟨.bool (!e), by rw [Sem.run_bind, run_eqGuard_agg _ _ _ _ _ _ _ hg', Result.andThen_ok, run_neq_struct, heq]; rfl, by simp [Den], rfl, by simp [SV.labs]⟩
        · cases hr
      · cases hr
    · cases hr
  · cases hr
end
end Go.Sym
