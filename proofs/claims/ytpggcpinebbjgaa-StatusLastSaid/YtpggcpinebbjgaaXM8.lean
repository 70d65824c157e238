/- Strings' pieces, arrays' cells, maps: what the machine does is what the engine says. -/
import Derived.Test.YtpggcpinebbjgaaXE14
import Derived.MapKept
namespace Go.Sym
open MapKept
set_option linter.unusedVariables false
set_option linter.unusedSimpArgs false

section
variable {wraps : List Nat} {ρi : Env} {P : Program} {E A : Nat → Prop} {w0 : World} {ρ : Env} {F : Fr} {G : Hp} {a : Act} {w : World} {dst : Option Nat} {ty : TypeId} {pos : String} {af : Array Edge} {gd : Option (Nat × Bool)}

/-- A value that a 'Sem' computes. -/
theorem run_v {z : Sem Value} {u : Value} {w' : World} (h : z.run P w = .ok u w') : (do pure (.value (← z)) : Sem Next).run P w = .ok (.value u) w' := by
  simp [h]
theorem run_u {z : Sem Unit} {w' : World} (h : z.run P w = .ok () w') : (do z; pure .skip : Sem Next).run P w = .ok .skip w' := by
  simp [h]


theorem run_bounds (hF : FSat ρ F a.tmps) {lo hi : Option Operand} {p q : Int} {len : Nat} (bs : Bool) (hlo : optI F 0 lo = some p) (hhi : optI F len hi = some q) (p1 : 0 ≤ p) (p2 : p ≤ q) (p3 : q ≤ len) (cap : Nat) (hcap : len ≤ cap) :
    (Instr.sliceBounds bs len cap (lo.map a.eval) (hi.map a.eval) none).run P w = .ok (p.toNat, q.toNat, cap) w := by
  have bnd : ∀ (y : Operand) (v : Int) (bound : Nat) (code : BoundsCode), optI F 0 (some y) = some v → 0 ≤ v → v ≤ bound → (Instr.sliceBound (a.eval y) bound code).run P w = .ok v.toNat w := by
    intro y v bound code h1 h2 h3
    have hdy := oa_den hF y
    unfold optI at h1
    simp only at h1
    split at h1
    · rename_i k n hy
      cases h1
      rw [hy] at hdy
      simp only [Den] at hdy
      rw [hdy]
      simp only [Instr.sliceBound, asIntOf, Sem.run_bind, Sem.run_pure, Result.andThen_ok]
      rw [if_pos ⟨h2, h3⟩]
      rfl
    · cases h1
  have hq : (match hi.map a.eval with | some v => Instr.sliceBound v cap (if bs then .sliceAcap else .sliceAlen) | none => (pure len : Sem Nat)).run P w = .ok q.toNat w := by
    cases hi with
    | none =>
      simp only [optI, Option.some.injEq] at hhi
      subst hhi
      simp
    | some y => exact bnd y q cap _ (by simpa [optI] using hhi) (by omega) (by omega)
  have hp' : (match lo.map a.eval with | some v => Instr.sliceBound v q.toNat .sliceB | none => (pure 0 : Sem Nat)).run P w = .ok p.toNat w := by
    cases lo with
    | none =>
      simp only [optI, Option.some.injEq] at hlo
      subst hlo
      simp
    | some y => exact bnd y p q.toNat _ (by simpa [optI] using hlo) (by omega) (by omega)
  simp only [Instr.sliceBounds, Sem.run_bind, Sem.run_pure, Result.andThen_ok, Option.isSome_none, Bool.false_eq_true, if_false]
  cases hi with
  | none =>
    simp only [Option.map_none] at hq ⊢
    cases lo with
    | none =>
      simp only [Option.map_none] at hp' ⊢
      simp only [Sem.run_pure, Result.ok.injEq] at hq hp'
      simp [hq.1, ← hp'.1]
    | some y =>
      simp only [Option.map_some, Option.map_none] at hp' ⊢
      simp only [Sem.run_pure, Result.ok.injEq] at hq
      simp only [Sem.run_pure, Result.andThen_ok, hq.1, hp', Sem.run_bind]
  | some z =>
    simp only [Option.map_some] at hq ⊢
    cases lo with
    | none =>
      simp only [Option.map_none] at hp' ⊢
      simp only [Sem.run_pure, Result.ok.injEq] at hp'
      simp only [hq, Result.andThen_ok, Sem.run_pure, Sem.run_bind, ← hp'.1]
    | some y =>
      simp only [Option.map_some] at hp' ⊢
      simp only [hq, Result.andThen_ok, hp', Sem.run_bind, Sem.run_pure]

theorem strSlice_sound {T : List (Nat × TI)} (hT : TOk P T) (S : St ρi E A w0 ρ F G a w) {t : Nat} {x : Operand} {lo hi : Option Operand} {sz by' : Nat} {ze : List SV} (ht : tget T t = some ⟨.str, sz, by', ze⟩) {r : Res}
    (hr : (match oa F x with
      | .s x => match optI F 0 lo, optI F x.size hi with
        | some p, some q => some { v := .s (x.extract p.toNat q.toNat), pre := some (0 ≤ p ∧ p ≤ q ∧ q ≤ x.size) }
        | _, _ => none
      | _ => none : Option Res) = some r) (hp : r.Pre) :
    Left P ρi E A w0 ρ G a w ⟨dst, .slice t x lo hi none, ty, pos, af, gd⟩ r.v r.wr := by
  split at hr
  · rename_i s hx
    split at hr
    · rename_i p q hlo hhi
      cases hr
      obtain ⟨p1, p2, p3⟩ : 0 ≤ p ∧ p ≤ q ∧ q ≤ s.size := hp
      have hd := oa_den S.fr x
      rw [hx] at hd
      simp only [Den] at hd
      refine Left.pure S (u := .string (s.extract p.toNat q.toNat)) ?_ (by simp only [Den]) (by simp [SV.labs])
      simp only [execOp]
      refine run_v ?_
      rw [hd]
      have hb := run_bounds (P := P) (w := w) S.fr (lo := lo) (hi := hi) false hlo hhi p1 p2 p3 s.size (Nat.le_refl _)
      simp only [Instr.sliceAt, Instr.slice, Sem.run_bind, run_underlying (str_shape hT ht), Result.andThen_ok, Option.map_none, Option.isSome_none, Bool.false_eq_true, if_false, hb, Sem.run_pure]
    · cases hr
  · cases hr

theorem index_sound {T : List (Nat × TI)} (hT : TOk P T) (S : St ρi E A w0 ρ F G a w) {t : Nat} {x i : Operand} {r : Res} (hr : ev T wraps F G ⟨dst, .index t x i, ty, pos, af, gd⟩ = some r) (hp : r.Pre) :
    Left P ρi E A w0 ρ G a w ⟨dst, .index t x i, ty, pos, af, gd⟩ r.v r.wr := by
  simp only [ev] at hr
  have hdx := oa_den S.fr x
  have hdi := oa_den S.fr i
  split at hr
  · rename_i s1 s2 s3 s k n hti hx hi
    cases hr
    obtain ⟨p1, p2⟩ : 0 ≤ n ∧ n < s.size := hp
    rw [hx] at hdx
    rw [hi] at hdi
    simp only [Den] at hdx hdi
    refine Left.pure S (u := .int .u8 (s.data.getD n.toNat 0).toNat) ?_ (by simp only [Den]) (by simp [SV.labs])
    simp only [execOp]
    refine run_v ?_
    rw [hdx, hdi]
    have hlt : n.toNat < s.size := by omega
    have hget : s[n.toNat]? = some (s.data.getD n.toNat 0) := by
      rw [getElem?_pos s n.toNat hlt]
      have : n.toNat < s.data.size := hlt
      simp only [Array.getD, this, dite_true, Option.some.injEq]
      rfl
    simp only [Instr.index, asIntOf, Sem.run_bind, Sem.run_pure, Result.andThen_ok, run_underlying (str_shape hT hti), if_pos p1, hget]
  · rename_i m e s1 s2 s3 ks m' f k n hti hx hi
    split at hr
    · rename_i ti d hte
      split at hr
      · rename_i h1 h2 h3
        have h1 := Nat.eq_of_beq_eq_true h1
        have h2 := Nat.eq_of_beq_eq_true h2
        rw [lenK_eq] at h1
        have hpre : r.pre = some (0 ≤ n ∧ n < m) := by
          unfold evRow at hr
          dsimp only at hr
          split at hr <;> cases hr
          rfl
        obtain ⟨p1, p2⟩ : 0 ≤ n ∧ n < m := by simpa [Res.Pre, hpre] using hp
        rw [hx] at hdx
        rw [hi] at hdi
        simp only [Den] at hdx hdi
        obtain ⟨vs, hv, hsz, hrow⟩ := hdx
        obtain ⟨ρ', hL, hl, _, hval⟩ := evRow_sound S.heap S.mutin hr (hrow n.toNat (by omega))
        have hoff : n.toNat * ti.size = n.toNat * ks.length := by rw [h1]
        have key : ∀ u, (part e vs (n.toNat * ti.size)).run P w = .ok u w → Den ρ' r.v u → Left P ρi E A w0 ρ G a w ⟨some d, .index t x i, ty, pos, af, gd⟩ r.v r.wr := by
          intro u h5 h6
          refine ⟨.value u, w, ρ', ?_, .inl ⟨u, rfl, h6⟩, hL.heap, S.keep, hL.mutin, hL.keep, hL.z, hl⟩
          simp only [execOp]
          refine run_v ?_
          rw [hv, hdi]
          simp only [Instr.index, asIntOf, Sem.run_bind, Sem.run_pure, Result.andThen_ok, run_underlying (arr_shape hT hti), if_pos (show 0 ≤ n ∧ n < (m : Int) from ⟨p1, p2⟩), run_sizeOf (hT _ _ hte)]
          exact h5
        rcases hval with ⟨ha, cs, hcs, hD⟩ | ⟨ha, y, hy, hD⟩
        · refine key (.agg (vs.extract (n.toNat * ti.size) (n.toNat * ti.size + ti.size))) ?_ ?_
          · simp [part, run_isAgg (hT _ _ hte), ha, run_sizeOf (hT _ _ hte)]
          · rw [hcs]
            simp only [Den]
            refine ⟨_, rfl, ?_⟩
            have : (vs.extract (n.toNat * ti.size) (n.toNat * ti.size + ti.size)).toList = (vs.toList.drop (n.toNat * ti.size)).take ti.size := by
              simp [List.extract_eq_take_drop]
            rw [this, h1]; exact hD
        · refine key y ?_ hD
          have := arr_of_take hy
          simp [part, run_isAgg (hT _ _ hte), ha, h1, this]
      · cases hr
    · cases hr
  · cases hr

theorem map_shape {T : List (Nat × TI)} (hT : TOk P T) {t k e : Nat} {s b : Nat} {z : List SV} (h : tget T t = some ⟨.map k e, s, b, z⟩) : P.underlying t = some (.map k e) := by
  obtain ⟨dd, hd1, hd2⟩ := (hT _ _ h).d
  cases dd <;> simp only [tdOk] at hd2 <;> try cases hd2
  rw [Bool.and_eq_true] at hd2
  rw [hd1, Nat.eq_of_beq_eq_true hd2.1, Nat.eq_of_beq_eq_true hd2.2]

theorem keyK_spec {T : List (Nat × TI)} (hT : TOk P T) {k : Nat} {kk : IntKind} (h : keyK T k kk = true) : P.underlying k = some (.int kk) := by
  unfold keyK at h
  split at h
  · rename_i hk
    rw [IntKind.same_iff.1 h]
    exact int_shape hT hk
  · cases h
theorem MapOk.nil {z : Nat → Option Obj} {kk : IntKind} {ks : List Kd} {agg : Bool} {f : Int → Nat → D} : MapOk z kk ks agg [] f #[] 0 :=
  ⟨List.nodup_nil, ⟨[], List.Perm.refl _, rfl⟩, by simp, by simp, by simp⟩

theorem Left.newMap (S : St ρi E A w0 ρ F G a w) {d : Nat} (hd : G d = none) {kk : IntKind} {ks : List Kd} {agg : Bool} {f : Int → Nat → D} {o : Oper}
    (hr : (execOp a.eval o).run P w = .ok (.value (.map (some w.heap.size))) { w with heap := w.heap.push (.map #[] 0) }) :
    Left P ρi E A w0 ρ G a w o (.mp d) [(d, .map .own kk ks agg [] f)] := by
  obtain ⟨h1, h2, h3, h4⟩ := pushed (w' := { w with heap := w.heap.push (.map #[] 0) }) (pl := ⟨w.heap.size, 0, 1, 1⟩) (b := .map .own kk ks agg [] f) S.heap S.keep S.mutin hd (by simp [Blk.labs]) rfl rfl rfl rfl rfl
    ⟨⟨w.heap.size, 0, 1, 1⟩, #[], 0, updE_same _ _ _, by simp, MapOk.nil⟩
  refine ⟨_, _, _, hr, .inl ⟨.map (some w.heap.size), rfl, ?_⟩, h1, h2, h3, h4, updE_z _ _ _, ?_⟩
  · simp only [Den]
    exact ⟨_, updE_same _ _ _, rfl⟩
  · intro l hh
    simp [SV.labs] at hh
    subst hh
    simp [upds_one_same]
theorem makeMap_sound {T : List (Nat × TI)} (hT : TOk P T) (S : St ρi E A w0 ρ F G a w) {t : Nat} {x : Option Operand} {r : Res} (hr : ev T wraps F G ⟨dst, .makeMap t x, ty, pos, af, gd⟩ = some r) :
    Left P ρi E A w0 ρ G a w ⟨dst, .makeMap t x, ty, pos, af, gd⟩ r.v r.wr := by
  simp only [ev] at hr
  split at hr
  · split at hr
    · split at hr
      · rename_i hop
        cases hop
        obtain ⟨d, hd, hGd, rfl⟩ := newAt_spec hr
        refine Left.newMap S hGd ?_
        simp only [execOp]
        refine run_v ?_
        simp [Instr.makeMap, newObj, Result.andThen]
        rfl
      · cases hr
    · cases hr
  · cases hr

/-- Where a key lies among a map's entries. -/
theorem find_map {z : Nat → Option Obj} {kk : IntKind} {ks : List Kd} {agg : Bool} {keys : List Int} {f : Int → Nat → D} {es : Array MapEntry} {clk : Nat} (h : MapOk z kk ks agg keys f es clk) {kt : TypeId} (hk : P.underlying kt = some (.int kk)) (n : Int) :
    (n ∉ keys ∧ (Instr.findKey kt (.int kk n) es.toList).run P w = .ok none w ∧ ∀ e ∈ es.toList, e.key ≠ .int kk n) ∨
    (n ∈ keys ∧ ∃ i e, (Instr.findKey kt (.int kk n) es.toList).run P w = .ok (some (i, e.val)) w ∧ es[i]? = some e ∧ e.key = .int kk n) := by
  obtain ⟨h1, ⟨ls, h2, h2'⟩, h3, h4, h5⟩ := h
  have hkeys : ∀ e ∈ es.toList, ∃ k ∈ keys, e.key = .int kk k := by
    intro e he
    have : e.key ∈ ls.map (Value.int kk) := by rw [← h2']; exact List.mem_map.2 ⟨e, he, rfl⟩
    obtain ⟨k, hk, e'⟩ := List.mem_map.1 this
    exact ⟨k, h2.mem_iff.1 hk, e'.symm⟩
  have hIs : ∀ e ∈ es.toList, IsKey (.int kk) e.key := by
    intro e he
    obtain ⟨k, _, e'⟩ := hkeys e he
    rw [e']; rfl
  rcases findNow_spec (d := .int kk) (k := .int kk n) rfl es.toList 0 hIs with ⟨g1, g2⟩ | ⟨j, e, g1, g2, g3⟩
  · refine .inl ⟨fun hn => ?_, run_findKey hk g1, g2⟩
    have : Value.int kk n ∈ es.toList.map (·.key) := by rw [h2']; exact List.mem_map.2 ⟨n, h2.mem_iff.2 hn, rfl⟩
    obtain ⟨e, he, e'⟩ := List.mem_map.1 this
    exact g2 e he e'
  · have he : e ∈ es.toList := List.mem_of_getElem? g2
    obtain ⟨k, hkk, e'⟩ := hkeys e he
    rw [g3] at e'
    cases e'
    refine .inr ⟨hkk, j, e, ?_, by simpa using g2, g3⟩
    have := run_findKey (P := P) (w := w) hk g1
    rwa [Nat.zero_add] at this

theorem isVal_den {ρ' : Env} {ti : TI} {ks : List Kd} {v : Value} {x : SV} (hi : isVal ti.isAgg v) (hs : v.cells.size = ks.length)
    (h : (ti.isAgg = true ∧ ∃ cs, x = .agg cs ∧ DenL ρ' cs ((v.cells.toList.drop 0).take ks.length)) ∨ (ti.isAgg = false ∧ ∃ y, (v.cells.toList.drop 0).take ks.length = [y] ∧ Den ρ' x y)) : Den ρ' x v := by
  have ht : (v.cells.toList.drop 0).take ks.length = v.cells.toList := by
    rw [List.drop_zero, ← hs, ← Array.length_toList, List.take_length]
  rw [ht] at h
  rcases h with ⟨ha, cs, rfl, hD⟩ | ⟨ha, y, hy, hD⟩
  · rw [ha] at hi
    simp only [isVal] at hi
    rw [hi]
    simp only [Den]
    exact ⟨_, rfl, hD⟩
  · rw [ha] at hi
    simp only [isVal] at hi
    rw [hi] at hy
    simp at hy
    rw [hy]; exact hD

theorem lookup_sound {T : List (Nat × TI)} (hT : TOk P T) (S : St ρi E A w0 ρ F G a w) {t : Nat} {x i : Operand} {cm : Bool} {r : Res} (hr : ev T wraps F G ⟨dst, .lookup t x i cm, ty, pos, af, gd⟩ = some r) :
    Left P ρi E A w0 ρ G a w ⟨dst, .lookup t x i cm, ty, pos, af, gd⟩ r.v r.wr := by
  simp only [ev] at hr
  have hdx := oa_den S.fr x
  have hdi := oa_den S.fr i
  split at hr
  · rename_i k e s1 s2 s3 l kk n hti hx hi
    split at hr
    · rename_i ti m kk' ks agg keys f d hte hG
      split at hr
      · rename_i ks' hs hk
        split at hr
        · rename_i r1 h1 h2 h3
          rw [Bool.and_eq_true] at hs
          have hkt := keyK_spec hT hs.1
          have := IntKind.same_iff.1 hs.2
          subst this
          have := kdsSame_iff.1 h1
          subst this
          have hag : ti.isAgg = agg := eq_of_beq h2
          subst hag
          rw [hx] at hdx
          rw [hi] at hdi
          simp only [Den] at hdx hdi
          obtain ⟨pl, hpl, hv⟩ := hdx
          obtain ⟨pl', es, clk, e1, e2, hM⟩ := S.heap.blk _ _ hG
          rw [hpl] at e1; cases e1
          have hum := map_shape hT hti
          obtain ⟨hkl, hz⟩ := kdsE_spec hk (hT _ _ hte)
          have fin : ∀ (val : Value), isVal ti.isAgg val → val.cells.size = ks.length → DenR ρ.z ks (mget1 keys f (zRow ks) n) 0 val.cells 0 →
              (Instr.lookup t (.map (some pl.b)) (.int kk n) cm).run P w = .ok (if cm then .tuple #[val, .bool (decide (n ∈ keys))] else val) w →
              Left P ρi E A w0 ρ G a w ⟨some d, .lookup t x i cm, ty, pos, af, gd⟩ r.v r.wr := by
            intro val q1 q2 q3 q4
            obtain ⟨ρ', hL, hl, _, hval⟩ := evRow_sound S.heap S.mutin h3 q3
            have hD := isVal_den (ρ' := ρ') q1 q2 hval
            have hrun : (execOp a.eval ⟨some d, .lookup t x i cm, ty, pos, af, gd⟩).run P w = .ok (.value (if cm then .tuple #[val, .bool (decide (n ∈ keys))] else val)) w := by
              simp only [execOp]
              refine run_v ?_
              rw [hv, hdi]
              exact q4
            cases cm with
            | true =>
              cases hr
              refine ⟨_, w, ρ', hrun, .inl ⟨_, rfl, ?_⟩, hL.heap, S.keep, hL.mutin, hL.keep, hL.z, ?_⟩
              · simp only [Den]
                exact ⟨_, rfl, DenL_cons.2 ⟨hD, DenL_cons.2 ⟨by simp only [Den], by simp [DenL]⟩⟩⟩
              · intro l hll
                simp [SV.labs, labsL] at hll
                exact hl l hll
            | false =>
              cases hr
              exact ⟨_, w, ρ', hrun, .inl ⟨_, rfl, hD⟩, hL.heap, S.keep, hL.mutin, hL.keep, hL.z, hl⟩
          have hik : IsKey (.int kk) (.int kk n) := rfl
          rcases find_map (w := w) hM hkt n with ⟨g1, g2, g3⟩ | ⟨g1, j, e', g2, g3, g4⟩
          · obtain ⟨i', z, hi1, hi2, hi3, hi4, hi5, hi6, hi7, hi8⟩ := (hT _ _ hte).i
            refine fin z ?_ (by rw [hi6, hkl]) ?_ ?_
            · cases ha : ti.isAgg with
              | true => exact hi7 ha
              | false => exact hi8 ha
            · have : mget1 keys f (zRow ks) n = zRow ks := by funext c; simp [mget1, g1]
              rw [this]
              exact hz z.cells hi5 _ _ _ (fun j _ => by simp)
            · have hzr : (zeroValue e).run P w = .ok z w := by simp [zeroValue, run_typeInfo hi1, hi2]
              simp only [Instr.lookup, Sem.run_bind, run_underlying hum, Result.andThen_ok, MapKept.run_getObj_map e2, Sem.run_pure, run_checkKey hkt hik, g2, hzr, g1]
              simp
          · obtain ⟨p1, p2, p3⟩ := hM.2.2.1 e' (List.mem_of_getElem? (by simpa using g3)) n g4
            refine fin e'.val p1 p2 ?_ ?_
            · have : mget1 keys f (zRow ks) n = f n := by funext c; simp [mget1, g1]
              rw [this]
              exact p3
            · simp only [Instr.lookup, Sem.run_bind, run_underlying hum, Result.andThen_ok, MapKept.run_getObj_map e2, Sem.run_pure, run_checkKey hkt hik, g2, g1]
              simp
        · cases hr
      · cases hr
    · cases hr
  · cases hr
theorem cells_isVal {x : SV} {cs : List SV} {v : Value} (h : x.cells = some cs) (hd : Den ρ x v) : isVal (aggV x) v := by
  cases x <;> simp only [SV.cells, reduceCtorEq] at h <;> simp only [aggV, isVal]
  case agg cs' =>
    simp only [Den] at hd
    obtain ⟨vs, rfl, hd⟩ := hd
    rfl
  case arr ks n f =>
    simp only [Den] at hd
    obtain ⟨vs, rfl, _⟩ := hd
    rfl
  case sl l a b =>
    simp only [Den] at hd
    rcases hd with ⟨_, e, _⟩ | ⟨_, _, _, e, _⟩ <;> rw [e] <;> rfl
  case q l n =>
    simp only [Den] at hd
    rcases hd with ⟨_, e⟩ | ⟨_, _, _, e⟩ <;> rw [e] <;> rfl
  all_goals
    simp only [Den] at hd
    first
      | (rw [hd]; rfl)
      | (obtain ⟨_, e⟩ := hd; rw [e.2]; rfl)
      | (obtain ⟨_, e, _⟩ := hd; rw [e]; rfl)
theorem MapOk.stamped {z : Nat → Option Obj} {kk : IntKind} {ks : List Kd} {agg : Bool} {keys : List Int} {f : Int → Nat → D} {es : Array MapEntry} {clk : Nat} (h : MapOk z kk ks agg keys f es clk) : Stamped es clk := by
  obtain ⟨h1, ⟨ls, h2, h2'⟩, h3, h4, h5⟩ := h
  refine ⟨h5, h4, ?_⟩
  rw [h2']
  exact List.Pairwise.map _ (fun a b e e' => e (by injection e')) (show List.Pairwise (· ≠ ·) ls from h2.nodup_iff.2 h1)
theorem MapOk.key {z : Nat → Option Obj} {kk : IntKind} {ks : List Kd} {agg : Bool} {keys : List Int} {f : Int → Nat → D} {es : Array MapEntry} {clk : Nat} (h : MapOk z kk ks agg keys f es clk) : ∀ e ∈ es.toList, ∃ k ∈ keys, e.key = .int kk k := by
  obtain ⟨h1, ⟨ls, h2, h2'⟩, h3, h4, h5⟩ := h
  intro e he
  have : e.key ∈ ls.map (Value.int kk) := by rw [← h2']; exact List.mem_map.2 ⟨e, he, rfl⟩
  obtain ⟨k, hk, e'⟩ := List.mem_map.1 this
  exact ⟨k, h2.mem_iff.1 hk, e'.symm⟩
/-- One more entry. -/
theorem MapOk.push {z : Nat → Option Obj} {kk : IntKind} {ks : List Kd} {agg : Bool} {keys : List Int} {f : Int → Nat → D} {es : Array MapEntry} {clk : Nat} (h : MapOk z kk ks agg keys f es clk) {n : Int} (hn : n ∉ keys) {v : Value} {g : Nat → D}
    (h1 : isVal agg v) (h2 : v.cells.size = ks.length) (h3 : DenR z ks g 0 v.cells 0) : MapOk z kk ks agg (madd1 keys n) (mset f n g) (es.push { key := .int kk n, val := v, born := clk }) (clk + 1) := by
  have hS := h.stamped
  have hK := h.key
  obtain ⟨k1, ⟨ls, k2, k2'⟩, k3, k4, k5⟩ := h
  have hne : ∀ e ∈ es.toList, e.key ≠ .int kk n := by
    intro e he e'
    obtain ⟨k, hk, e2⟩ := hK e he
    rw [e2] at e'
    cases e'
    exact hn hk
  have hS' := stamped_push (key := .int kk n) (val := v) hS hne
  have hadd : madd1 keys n = keys ++ [n] := by simp [madd1, hn]
  refine ⟨?_, ⟨ls ++ [n], ?_, ?_⟩, fun e he k hk => ?_, hS'.2.1, hS'.1⟩
  · rw [hadd, List.nodup_append]
    exact ⟨k1, by simp, fun a ha b hb e => hn (by simp at hb; rw [← hb, ← e]; exact ha)⟩
  · rw [hadd]; exact k2.append (List.Perm.refl _)
  · simp [k2']
  · simp only [Array.toList_push, List.mem_append, List.mem_singleton] at he
    rcases he with he | rfl
    · have hkn : k ≠ n := fun e' => hne e he (by rw [hk, e'])
      have : mset f n g k = f k := by simp [mset, hkn]
      rw [this]
      exact k3 e he k hk
    · cases hk
      have : mset f n g n = g := by simp [mset]
      rw [this]
      exact ⟨h1, h2, h3⟩
/-- An entry written over. -/
theorem MapOk.modify {z : Nat → Option Obj} {kk : IntKind} {ks : List Kd} {agg : Bool} {keys : List Int} {f : Int → Nat → D} {es : Array MapEntry} {clk : Nat} (h : MapOk z kk ks agg keys f es clk) {n : Int} {j : Nat} {e0 : MapEntry} (hj : es[j]? = some e0) (h0 : e0.key = .int kk n) {v : Value} {g : Nat → D}
    (h1 : isVal agg v) (h2 : v.cells.size = ks.length) (h3 : DenR z ks g 0 v.cells 0) : MapOk z kk ks agg (madd1 keys n) (mset f n g) (es.modify j fun e => { e with key := .int kk n, val := v }) clk := by
  have hS := h.stamped
  have hK := h.key
  obtain ⟨k1, ⟨ls, k2, k2'⟩, k3, k4, k5⟩ := h
  have hkey : ∀ e', es[j]? = some e' → ({ e' with key := .int kk n, val := v } : MapEntry).key = e'.key := fun e' he' => by rw [hj] at he'; cases he'; exact h0.symm
  have hS' := stamped_modify hS j (fun e => { e with key := .int kk n, val := v }) (fun _ _ => rfl) (fun e' _ he' => hkey e' he')
  have hmem : e0 ∈ es.toList := List.mem_of_getElem? (by simpa using hj)
  have hn : n ∈ keys := by
    obtain ⟨k, hk, e⟩ := hK e0 hmem
    rw [h0] at e; cases e; exact hk
  have hadd : madd1 keys n = keys := by simp [madd1, hn]
  rw [hadd]
  refine ⟨k1, ⟨ls, k2, (modify_keys j _ hkey).trans k2'⟩, fun e he k hk => ?_, hS'.2.1, hS'.1⟩
  obtain ⟨i, hi⟩ := List.getElem?_of_mem he
  rw [Array.getElem?_toList, Array.getElem?_modify] at hi
  by_cases hij : j = i
  · subst hij
    rw [if_pos rfl, hj] at hi
    simp only [Option.map_some, Option.some.injEq] at hi
    subst hi
    cases hk
    have : mset f n g n = g := by simp [mset]
    rw [this]
    exact ⟨h1, h2, h3⟩
  · rw [if_neg hij] at hi
    have hem : e ∈ es.toList := List.mem_of_getElem? (by simpa using hi)
    have hkn : k ≠ n := by
      intro e'
      subst e'
      have hnd := hS.2.2
      have a1 : (es.toList.map (·.key))[i]? = some (.int kk k) := by simp [hi, hk]
      have a2 : (es.toList.map (·.key))[j]? = some (.int kk k) := by simp [hj, h0]
      exact hij ((List.getElem?_inj (by simpa using (Array.getElem?_eq_some_iff.1 hj).1) hnd).1 (a2.trans a1.symm))
    have : mset f n g k = f k := by simp [mset, hkn]
    rw [this]
    exact k3 e hem k hk
theorem mapUpdate_sound {T : List (Nat × TI)} (hT : TOk P T) (S : St ρi E A w0 ρ F G a w) {t : Nat} {x i v : Operand} {r : Res} (hr : ev T wraps F G ⟨dst, .mapUpdate t x i v, ty, pos, af, gd⟩ = some r) (hp : r.Pre) :
    Left P ρi E A w0 ρ G a w ⟨dst, .mapUpdate t x i v, ty, pos, af, gd⟩ r.v r.wr := by
  simp only [ev] at hr
  have hdx := oa_den S.fr x
  have hdi := oa_den S.fr i
  have hdv := oa_den S.fr v
  split at hr
  · rename_i k e s1 s2 s3 l kk n vs hti hx hi hvs
    split at hr
    · rename_i ti kk' ks agg keys f hte hG
      split at hr
      · rename_i ds ps h1 h2 h3 h4 h5
        cases hr
        rw [Bool.and_eq_true] at h1
        have hkt := keyK_spec hT h1.1
        have := IntKind.same_iff.1 h1.2
        subst this
        have hag : aggV (oa F v) = agg := eq_of_beq h5
        have h2 := Nat.eq_of_beq_eq_true h2
        rw [lenL_eq, lenK_eq] at h2
        rw [hx] at hdx
        rw [hi] at hdi
        simp only [Den] at hdx hdi
        obtain ⟨pl, hpl, hv⟩ := hdx
        obtain ⟨pl', es, clk, e1, e2, hM⟩ := S.heap.blk _ _ hG
        rw [hpl] at e1; cases e1
        have hum := map_shape hT hti
        have hcd := cells_den hvs hdv
        obtain ⟨d1, d2, d3⟩ := toDs_den S.heap h4 (by simpa [Res.Pre] using hp) hcd
        have hval : isVal agg (a.eval v) := hag ▸ cells_isVal hvs hdv
        have hsz : (a.eval v).cells.size = ks.length := by simpa using d2
        have hrow : DenR ρ.z ks (fun j => ds.getD j (.i 0)) 0 (a.eval v).cells 0 := by
          rw [DenR_iff]
          intro j hj
          obtain ⟨d, hd⟩ : ∃ d, ds[j]? = some d := ⟨_, List.getElem?_eq_getElem (by omega)⟩
          obtain ⟨u, g1, g2⟩ := d3 j hj d hd
          refine ⟨u, by simpa using g1, ?_⟩
          rw [Nat.zero_add, List.getD_eq_getElem?_getD, hd]
          exact g2
        have hik : IsKey (.int kk) (.int kk n) := rfl
        have fin : ∀ (es' : Array MapEntry) (clk' : Nat), MapOk ρ.z kk ks agg (madd1 keys n) (mset f n (fun j => ds.getD j (.i 0))) es' clk' →
            (Instr.mapUpdate t (.map (some pl.b)) (.int kk n) (a.eval v)).run P w = .ok () { w with heap := w.heap.setIfInBounds pl.b (.map es' clk') } →
            Left P ρi E A w0 ρ G a w ⟨dst, .mapUpdate t x i v, ty, pos, af, gd⟩ .u [(l, .map .own kk ks agg (madd1 keys n) (mset f n (fun j => ds.getD j (.i 0))))] := by
          intro es' clk' q1 q2
          obtain ⟨k1, k2, k3⟩ := stored S.heap S.keep S.mutin (b' := .map .own kk ks agg (madd1 keys n) (mset f n (fun j => ds.getD j (.i 0)))) (obj := .map es' clk') hG rfl rfl hpl (by simp [Blk.labs])
            ⟨pl, es', clk', hpl, getElem_set_self (heap_lt e2) _, q1⟩
          refine ⟨.skip, _, ρ, ?_, .inr ⟨rfl, rfl⟩, k1, k2, k3, fun _ _ => rfl, ZLe.refl _, by simp [SV.labs]⟩
          simp only [execOp]
          refine run_u ?_
          rw [hv, hdi]
          exact q2
        rcases find_map (w := w) hM hkt n with ⟨g1, g2, g3⟩ | ⟨g1, j, e', g2, g3, g4⟩
        · refine fin _ _ (hM.push g1 hval hsz hrow) ?_
          simp [Instr.mapUpdate, run_underlying hum, MapKept.run_getObj_map e2, run_checkKey hkt hik, g2, MapKept.run_setObj_map _ e2, Result.andThen]
        · refine fin _ _ (hM.modify g3 g4 hval hsz hrow) ?_
          simp [Instr.mapUpdate, run_underlying hum, MapKept.run_getObj_map e2, run_checkKey hkt hik, g2, g3, g4, run_keyThatStays hik, MapKept.run_setObj_map _ e2, Result.andThen]
      · cases hr
    · cases hr
  · cases hr
end
end Go.Sym
