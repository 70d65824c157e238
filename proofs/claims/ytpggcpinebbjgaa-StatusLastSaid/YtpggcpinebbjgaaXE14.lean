/- Each operation does to the machine what the engine says. -/
import Derived.Test.YtpggcpinebbjgaaXE13
namespace Go.Sym
set_option linter.unusedVariables false
set_option linter.unusedSimpArgs false

section
variable {ρi : Env} {P : Program} {E A : Nat → Prop} {w0 : World} {ρ : Env} {F : Fr} {G : Hp} {a : Act} {w : World} {o : Oper}

theorem map_den (hF : FSat ρ F a.tmps) : ∀ (xs : List Operand), DenL ρ (xs.map (oa F)) (xs.map a.eval)
  | [] => by simp [DenL]
  | x :: xs => by rw [List.map_cons, List.map_cons]; exact DenL_cons.2 ⟨oa_den hF x, map_den hF xs⟩
theorem map_labs (hS : Scp G F) (xs : List Operand) : ∀ l ∈ labsL (xs.map (oa F)), G l ≠ none := by
  intro l hl
  rw [labsL_mem] at hl
  obtain ⟨c, hc, hl⟩ := hl
  obtain ⟨x, _, rfl⟩ := List.mem_map.1 hc
  exact oa_scp hS x l hl

/-- The built-in functions that only compute. -/
theorem builtin_sound {T : List (Nat × TI)} (hT : TOk P T) (S : St ρi E A w0 ρ F G a w) {b : Builtin} {args : Array Operand} {tys : Array TypeId} {ty : TypeId} {r : Res} {dst : Option Nat} {pos : String} {af : Array Edge} {gd : Option (Nat × Bool)}
    (hr : evBuiltin T G dst b tys.toList (args.toList.map (oa F)) = some r) (hp : r.Pre) :
    Left P ρi E A w0 ρ G a w ⟨dst, .call ⟨.builtin b, args, tys⟩, ty, pos, af, gd⟩ r.v r.wr := by
  obtain ⟨cc, hrun⟩ : ∃ cc : Array Bool, (execOp a.eval ⟨dst, .call ⟨.builtin b, args, tys⟩, ty, pos, af, gd⟩).run P w = (builtin b tys ty cc (args.map a.eval)).run P w :=
    ⟨_, by simp [execOp, resolve, invoke]; rfl⟩
  have hd := map_den S.fr args.toList
  have hm : (args.map a.eval).toList = args.toList.map a.eval := by simp
  have hla := map_labs S.scp args.toList
  unfold evBuiltin at hr
  split at hr
  · rename_i t tl x hts hxs
    have hty : tys[0]? = some t := by rw [← Array.getElem?_toList, hts]; rfl
    rw [hxs] at hd hla
    cases hav : args.toList.map a.eval with
    | nil => rw [hav] at hd; simp [DenL] at hd
    | cons v vs =>
      rw [hav, DenL_cons] at hd
      have harg : (args.map a.eval)[0]? = some v := by rw [← Array.getElem?_toList, hm, hav]; rfl
      have hlen : ∀ (u : Value), (Builtin.len_ tys ty (args.map a.eval)).run P w = .ok u w → (execOp a.eval ⟨dst, .call ⟨.builtin .len, args, tys⟩, ty, pos, af, gd⟩).run P w = .ok (.value u) w := by
        intro u hu
        rw [hrun]
        simp [builtin, hu]
      split at hr
      · rename_i e s1 s2 s3 l lo len hti
        cases hr
        have hu := slice_shape hT hti
        have hx := hd.1
        have : ∃ q c, v = .slice q len c := by
          simp only [Den] at hx
          rcases hx with ⟨_, rfl, rfl, _⟩ | ⟨_, _, _, rfl, _⟩ <;> exact ⟨_, _, rfl⟩
        obtain ⟨q, c, rfl⟩ := this
        exact Left.pure S (hlen (.int .i64 len) (by simp [Builtin.len_, hty, harg, run_underlying hu, goInt])) (by simp [Den]) (by simp [SV.labs])
      · rename_i e s1 s2 s3 hti
        cases hr
        have hu := slice_shape hT hti
        have hx := hd.1
        simp only [Den] at hx
        subst hx
        exact Left.pure S (hlen (.int .i64 0) (by simp [Builtin.len_, hty, harg, run_underlying hu, goInt])) (by simp [Den]) (by simp [SV.labs])
      · rename_i s1 s2 s3 z hti
        cases hr
        have hu := str_shape hT hti
        have hx := hd.1
        simp only [Den] at hx
        subst hx
        exact Left.pure S (hlen (.int .i64 z.size) (by simp [Builtin.len_, hty, harg, run_underlying hu, goInt])) (by simp [Den]) (by simp [SV.labs])
      · rename_i n e s1 s2 s3 hti
        cases hr
        have hu := arr_shape hT hti
        exact Left.pure S (hlen (.int .i64 n) (by simp [Builtin.len_, hty, harg, run_underlying hu, goInt])) (by simp [Den]) (by simp [SV.labs])
      · rename_i kt e s1 s2 s3 l hti
        split at hr
        · rename_i m kk ks ag keys f hG
          cases hr
          obtain ⟨dd, h1, h2⟩ := tdOk_shape hT hti
          have hu : P.underlying t = some (.map kt e) := by
            cases dd <;> simp only [tdOk] at h2 <;> try cases h2
            rw [Bool.and_eq_true] at h2
            rw [h1, Nat.eq_of_beq_eq_true h2.1, Nat.eq_of_beq_eq_true h2.2]
          have hx := hd.1
          simp only [Den] at hx
          obtain ⟨pl, hpl, rfl⟩ := hx
          obtain ⟨pl', es, clk, e1, e2, h3, ⟨ls, h4, h5⟩, _⟩ := S.heap.blk _ _ hG
          rw [hpl] at e1; cases e1
          have hsz : es.size = keys.length := by
            have := congrArg List.length h5
            simp at this
            rw [this, h4.length_eq]
          refine Left.pure S (hlen (.int .i64 keys.length) ?_) (by simp [Den]) (by simp [SV.labs])
          have hob : (getObj pl.b).run P w = .ok (.map es clk) w := by
            simp [getObj, Sem.run, e2]
          simp [Builtin.len_, hty, harg, run_underlying hu, hob, goInt, hsz]
        · cases hr
      · cases hr
  · rename_i k x r' hxs
    rw [hxs] at hd
    split at hr
    · rename_i m hm'
      cases hr
      cases hav : args.toList.map a.eval with
      | nil => rw [hav] at hd; simp [DenL] at hd
      | cons v vs =>
        rw [hav, DenL_cons] at hd
        have h1 := hd.1
        simp only [Den] at h1
        subst h1
        refine Left.pure S (u := .int k m) ?_ (by simp [Den]) (by simp [SV.labs])
        rw [hrun]
        have : (Builtin.min_ tys ty (args.map a.eval)).run P w = .ok (.int k m) w := by
          unfold Builtin.min_
          rw [hm, hav]
          exact minI_sound r' vs k x m hm' hd.2
        simp [builtin, this]
    · cases hr
  · rename_i k x r' hxs
    rw [hxs] at hd
    split at hr
    · rename_i m hm'
      cases hr
      cases hav : args.toList.map a.eval with
      | nil => rw [hav] at hd; simp [DenL] at hd
      | cons v vs =>
        rw [hav, DenL_cons] at hd
        have h1 := hd.1
        simp only [Den] at h1
        subst h1
        refine Left.pure S (u := .int k m) ?_ (by simp [Den]) (by simp [SV.labs])
        rw [hrun]
        have : (Builtin.max_ tys ty (args.map a.eval)).run P w = .ok (.int k m) w := by
          unfold Builtin.max_
          rw [hm, hav]
          exact maxI_sound r' vs k x m hm' hd.2
        simp [builtin, this]
    · cases hr
  · rename_i t t2 x y hts hxs
    rw [hxs] at hd
    cases hav : args.toList.map a.eval with
    | nil => rw [hav] at hd; simp [DenL] at hd
    | cons v vs => cases vs with
      | nil => rw [hav] at hd; have := hd.length; simp at this
      | cons u us =>
        rw [hav, DenL_cons, DenL_cons] at hd
        have hus : us = [] := DenL_nil.1 hd.2.2
        subst hus
        have htys : tys = #[t, t2] := by apply Array.ext'; simpa using hts
        have hargs : args.map a.eval = #[v, u] := by apply Array.ext'; rw [hm]; simpa using hav
        obtain ⟨z, w', ρ', g1, g2, g3, g4, g5, g6, g7, g8⟩ := append_sound (ty := ty) hT S.heap S.keep S.mutin (d := dst) (x := x) (y := y) (r := r) (t := t) (t2 := t2) (by simpa [evBuiltin] using hr) hp hd.1 hd.2.1
        refine ⟨.value z, w', ρ', ?_, .inl ⟨z, rfl, g2⟩, g3, g4, g5, g6, g7, g8⟩
        rw [hrun, htys, hargs]
        simp [builtin, g1]
  · cases hr

theorem TI.mk'_part {ti : TI} {cs : List SV} {v : SV} {off t : Nat} {us : Array Value} (ht : TiOk P t ti) (hd : DenL ρ cs us.toList) (hle : off + ti.size ≤ cs.length) (h : ti.mk' ((cs.drop off).take ti.size) = some v) :
    ∃ u, (part t us off).run P w = .ok u w ∧ Den ρ v u := by
  have hsz : us.size = cs.length := by simpa using hd.length
  have hD := DenL_take ti.size (DenL_drop off hd)
  rcases TI.mk'_den h with ⟨ha, rfl⟩ | ⟨ha, hcs⟩
  · refine ⟨.agg (us.extract off (off + ti.size)), ?_, ?_⟩
    · simp [part, run_isAgg ht, ha, run_sizeOf ht]
    · simp only [Den]
      refine ⟨_, rfl, ?_⟩
      have : (us.extract off (off + ti.size)).toList = (us.toList.drop off).take ti.size := by
        simp [List.extract_eq_take_drop]
      rw [this]; exact hD
  · rw [hcs] at hD
    cases hx : (us.toList.drop off).take ti.size with
    | nil => rw [hx] at hD; simp [DenL] at hD
    | cons y ys =>
      rw [hx, DenL_cons] at hD
      have hy : us[off]? = some y := by
        have h0 : ((us.toList.drop off).take ti.size)[0]? = some y := by rw [hx]; rfl
        rw [List.getElem?_take] at h0
        split at h0
        · simpa using h0
        · cases h0
      exact ⟨y, by simp [part, run_isAgg ht, ha, hy], hD.1⟩

theorem madeCells_get {z : Array Value} {k n : Nat} (hz : z.size = k) {r c : Nat} (hr : r < n) (hc : c < k) : (madeCells z (n * k))[r * k + c]? = z[c]? := by
  have hb := row_bound (k := k) hr hc
  unfold madeCells
  rw [Array.getElem?_map, Array.getElem?_range, if_pos hb]
  simp only [Option.map_some]
  have : (r * k + c) % z.size = c := by rw [hz, Nat.mul_comm, Nat.mul_add_mod, Nat.mod_eq_of_lt hc]
  rw [this, Array.getElem?_eq_getElem (by omega)]
  simp [show c < z.size by omega]
end
end Go.Sym
