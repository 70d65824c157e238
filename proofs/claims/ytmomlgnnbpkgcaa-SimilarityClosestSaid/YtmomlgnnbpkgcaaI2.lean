import Derived.Test.YtmomlgnnbpkgcaaG5
namespace Go.Sym
set_option linter.unusedVariables false
open Go.Proofs Go.RowKit
attribute [local go_sem] Oper.semAt_some
def enumL (x : LLx) : List Int := if 0 <= x.i /\ x.i < x.n then x.f x.i.toNat else []
set_option maxRecDepth 100000 in
theorem enum1_out (F : Fence) (hro : F.round = none) (hfn : ∀ f, F.fn f) (l b1 o1 b2 o2 n cap : Nat) (i : Int) (a : Option Addr) (W : World) (hc1 : W.cell? ⟨b1, o1, none⟩ = some (.int .i64 i)) (hc2 : W.cell? ⟨b2, o2, none⟩ = some (.slice a n cap))
  (hi : decide (i < 0) = true ∨ (decide (i < 0) = false /\ decide ((n : Int) <= i) = true)) :
  CallsIn F 0 Try.prog 68 #[.func (.yield l) #[] #[], .pointer (some ⟨b1, o1, none⟩), .pointer (some ⟨b2, o2, none⟩)] W fun e W' => (∃ v, e = .returned v) /\ W' = W := by
 have h7 := hfn 68
 refine callsIn_of_wp Try.func68 rfl h7 ?_ hro
 simp only [Try.ntmps68, List.size_toArray, List.length_cons, List.length_nil, Nat.reduceAdd, Nat.reduceSub, Array.replicate_succ, Array.replicate_zero, List.push_toArray, List.append_toArray, List.nil_append, List.cons_append]
 rcases hi with hi | ⟨hi, hi2⟩
 ·gi_wp2
  refine bodyPost_ret (results_none rfl _ _ _) rfl ?_
  exact ⟨⟨_, rfl⟩, rfl⟩
 ·gi_wp2
  refine bodyPost_ret (results_none rfl _ _ _) rfl ?_
  exact ⟨⟨_, rfl⟩, rfl⟩
set_option maxRecDepth 100000 in
set_option maxHeartbeats 1000000 in
theorem enum1_in (F : Fence) (hro : F.round = none) (hfn : ∀ f, F.fn f) (hdep : F.depth = none) (l b1 o1 b2 o2 b off n cap i : Nat) (v : Value) (m cap2 : Nat) (a2 : Option Addr) (b3 off3 : Nat) (zs : List Int) (hin : i < n) (hcap : n <= cap) (hm : zs.length = m) (hm2 : m <= 1073741824)
  (hv : v = .slice a2 m cap2) (ha2 : 0 < m -> a2 = some ⟨b3, off3, none⟩) (J : Nat -> World -> Prop) (Jx : World -> Prop)
  (W : World) (hc1 : W.cell? ⟨b1, o1, none⟩ = some (.int .i64 i)) (hc2 : W.cell? ⟨b2, o2, none⟩ = some (.slice (some ⟨b, off, none⟩) n cap)) (hc3 : W.cell? ⟨b, off + i, none⟩ = some v)
  (hJ : ∀ k w, k < m -> J k w -> w.cell? ⟨b3, off3 + k, none⟩ = some (.int .i64 (zs.getD k default)))
  (hY : ∀ k w, k < m -> J k w -> ∃ f tmps assign body, (Instr.yield l #[.int .i64 (zs.getD k default)]).run Try.prog w = .ok (.round l f tmps assign body) w /\
   RoundIn F 0 Try.prog l f tmps assign body w fun e w' => ∃ b, e = .returned (.bool b) /\ (b = true -> J (k + 1) w') /\ (b = false -> Jx w'))
  (h0 : J 0 W) :
  CallsIn F 0 Try.prog 68 #[.func (.yield l) #[] #[], .pointer (some ⟨b1, o1, none⟩), .pointer (some ⟨b2, o2, none⟩)] W fun e W' => (∃ v, e = .returned v) /\ (J m W' ∨ Jx W') := by
 have h7 := hfn 68
 refine callsIn_of_wp Try.func68 rfl h7 ?_ hro
 simp only [Try.ntmps68, List.size_toArray, List.length_cons, List.length_nil, Nat.reduceAdd, Nat.reduceSub, Array.replicate_succ, Array.replicate_zero, List.push_toArray, List.append_toArray, List.nil_append, List.cons_append]
 have hi0 : decide ((i : Int) < 0) = false := by simp
 have hi1 : decide ((n : Int) <= (i : Int)) = false := by simp; omega
 have hi2 : decide (n <= i) = false := by simp; omega
 have hin1 : (0 : Int) <= (i : Int) := by omega
 have hin2 : (i : Int) < (n : Int) := by omega
 subst hv
 gi_wp2
 gi_loopw [19] (fun s wr => ∃ k : Nat, k <= m /\ s = .int .i64 k /\ J k wr) (fun s _ => m - (intOf s).toNat)
 case atStart => exact ⟨0, Nat.zero_le _, rfl, h0⟩
 case round =>
  obtain ⟨k, hk, rfl, hJk⟩ := hrel
  by_cases hlt : k < m
  ·obtain rfl := ha2 (by omega)
   have hcx := hJ k wr hlt hJk
   obtain ⟨fn, tmps, assign, body, hy, hR⟩ := hY k wr hlt hJk
   generalize hzk : zs.getD k default = zk at *
   clear hzk
   gi_wp2
   refine hR.mono ?_
   rintro e W3 ⟨bb, rfl, hT, hF⟩
   cases bb with
   | true =>
    have hJ3 := hT rfl
    clear hT hF hR hy
    gi_wp2
    go_roundw
    case rel => exact ⟨k + 1, by omega, by go_num, hJ3⟩
    case measure => simp [intOf]; omega
   | false =>
    have hJ3 := hF rfl
    clear hT hF hR hy
    gi_wp2
    refine bodyPost_ret (results_none rfl _ _ _) rfl ?_
    exact ⟨⟨_, rfl⟩, .inr hJ3⟩
  ·obtain rfl : k = m := by omega
   gi_wp2
   go_end0
   exact ⟨⟨_, rfl⟩, .inl hJk⟩
def enumIt : IT where
 ct := { X := LLx, pre := fun x => x.n <= 1073741824 /\ ∀ j, j < x.n -> (x.f j).length <= 1073741824, args := fun _ => [.p 100000 0 0, .p 100001 0 0],
         g0 := fun x => [(100000, .one .bor [.i .i64 x.i]), (100001, .one .bor [.sl 100002 0 x.n]), (100002, .rows .bor kLL x.n (encLL x.f))], res := fun _ => .u, g1 := fun _ => [] }
 n := fun x => (enumL x).length
 item := fun x k => [.int .i64 ((enumL x).getD k default)]
theorem one_cell {ρ : Env} {G : Hp} {w : World} {l : Nat} {c : SV} {pl : Place} (H : HSat ρ G w) (hG : G l = some (.one .bor [c])) (hpl : ρ l = some pl) : ∃ u, w.cell? ⟨pl.b, pl.off, none⟩ = some u /\ Den ρ c u := by
 obtain ⟨pl', arr, T1, fz1, e1, e2, _, _, e3, e4⟩ := H.blk l _ hG
 rw [hpl] at e1; cases e1
 simp only [List.length_singleton] at e3 e4
 have e5 : (arr.toList.drop pl.off).take 1 = [arr[pl.off]] := by
  rw [List.drop_eq_getElem_cons (by simpa using (show pl.off < arr.size by omega))]; simp
 rw [e5] at e4
 simp only [DenL] at e4
 obtain ⟨v, r, hvr, hq, rfl⟩ := e4
 cases hvr
 exact ⟨_, cell_in e2 (Array.getElem?_eq_getElem (by omega)), hq⟩
theorem enumIt_good : GoodIt Try.prog 68 enumIt := by
 refine ⟨⟨Try.f68, rfl, by decide +kernel, rfl⟩, fun x hx => ⟨rfl, ?_⟩⟩
 intro l vals J Jx ⟨at_, z0, hdata⟩ hJd hJxd hY w h0
 have hx : x.n <= 1073741824 /\ ∀ j, j < x.n -> (x.f j).length <= 1073741824 := hx
 refine calls_of_wideR (n := 0) ?_
 obtain ⟨z, hz1, hz2, _, hv, H⟩ := hdata 0 w (Nat.zero_le _) h0
 obtain rfl := hz2 rfl
 simp only [enumIt, DenL, Den] at hv
 obtain ⟨v1, r1, rfl, ⟨p1, hp1, rfl⟩, v2, r2, rfl, ⟨p2, hp2, rfl⟩, rfl⟩ := hv
 obtain ⟨u1, hc1, hu1⟩ := one_cell (l := 100000) (c := .i .i64 x.i) H rfl hp1
 obtain ⟨u2, hc2, hu2⟩ := one_cell (l := 100001) (c := .sl 100002 0 x.n) H rfl hp2
 simp only [Den] at hu1 hu2
 subst hu1
 have e1 : ptr p1 0 0 = ⟨p1.b, p1.off, none⟩ := by simp [ptr]
 have e2 : ptr p2 0 0 = ⟨p2.b, p2.off, none⟩ := by simp [ptr]
 rw [e1, e2]
 by_cases hin : 0 <= x.i /\ x.i < x.n
 ·have hl : enumL x = x.f x.i.toNat := if_pos hin
  obtain ⟨i, hi⟩ : ∃ i : Nat, x.i = i := ⟨x.i.toNat, by omega⟩
  rw [hi] at hc1 hl hin
  have hl : enumL x = x.f i := hl
  obtain ⟨pl, a, hpl, rfl, hcap, ha⟩ := hu2.resolve_left (fun h => by omega)
  have ha := ha (by omega)
  have e3 : ptr pl 0 0 = ⟨pl.b, pl.off, none⟩ := by simp [ptr]
  rw [e3] at ha
  subst ha
  rcases H.blk 100002 _ rfl with ⟨q1, _⟩ | ⟨q, q1, q2, _⟩ | ⟨q, arr, TT, fz, q1, q2, _, _, q4, q5, q6, q7⟩
  ·omega
  ·omega
  have q1 : at_ 100002 = some q := q1
  rw [hpl] at q1; cases q1
  have hk1 : pl.k = 1 := q4
  have hrow := q7 i (by omega)
  simp only [kLL, DenR, hk1, Nat.mul_one] at hrow
  obtain ⟨⟨u, hu, hd⟩, _⟩ := hrow
  simp only [DenD, encLL, D.toN, D.toF] at hd
  -- what the inner slice is
  obtain ⟨a2, cap2, b3, off3, hv3, ha3, hJc⟩ : ∃ (a2 : Option Addr) (cap2 b3 off3 : Nat), u = .slice a2 (x.f i).length cap2 /\ (0 < (x.f i).length -> a2 = some ⟨b3, off3, none⟩) /\
    ∀ k w, k < (x.f i).length -> J k w -> w.cell? ⟨b3, off3 + k, none⟩ = some (.int .i64 ((x.f i).getD k default)) := by
   rcases hd with ⟨h1, h2 | ⟨a, c, h2, _⟩⟩ | ⟨b, off, c, arr3, T3, fz3, h1, h2, h3, h4, h5⟩
   ·exact ⟨none, 0, 0, 0, by rw [h2, h1], fun h => by omega, fun k w hk => by omega⟩
   ·exact ⟨some a, c, 0, 0, by rw [h2, h1], fun h => by omega, fun k w hk => by omega⟩
   ·refine ⟨_, c, b, off, h1, fun _ => rfl, fun k w hk hJk => ?_⟩
    obtain ⟨z', hz1', _, _, _, H'⟩ := hdata k w (by show k <= (enumL x).length; rw [hl]; omega) hJk
    have hb := H'.zok _ _ (hz1' _ _ h3)
    have := h5 k hk
    simp only [k1, DenR, DenD, List.length_singleton, Nat.mul_one] at this
    obtain ⟨⟨u', h6, rfl⟩, _⟩ := this
    exact cell_in hb h6
  refine (enum1_in (wideR none) rfl (fun _ => trivial) rfl l p1.b p1.off p2.b p2.off pl.b pl.off x.n (pl.cap - 0) i u (x.f i).length cap2 a2 b3 off3 (x.f i) (by omega) (by omega) rfl (hx.2 i (by omega)) hv3 ha3 J Jx w hc1 hc2 (cell_in q2 hu) hJc ?_ h0).mono ?_
  ·intro k w hk hJk
   obtain ⟨f, tm, asg, bd, y1, y2⟩ := hY k w (by show k < (enumL x).length; rw [hl]; exact hk) hJk
   have ei : enumIt.item x k = [.int .i64 ((x.f i).getD k default)] := by show [Value.int .i64 ((enumL x).getD k default)] = _; rw [hl]
   rw [ei] at y1
   refine ⟨f, tm, asg, bd, y1, y2.mono ?_⟩
   rintro e w' ⟨b, h1, h2⟩
   exact ⟨b, h1, h2.1, h2.2⟩
  ·rintro e w' ⟨h1, h2⟩
   have en : enumIt.n x = (x.f i).length := by show (enumL x).length = _; rw [hl]
   rw [en]; exact ⟨h1, h2⟩
 ·have hl : enumL x = [] := if_neg hin
  have hsl : ∃ a cap, u2 = .slice a x.n cap := by
   rcases hu2 with ⟨_, rfl, h, _⟩ | ⟨pl, a, _, rfl, _⟩
   ·exact ⟨none, 0, by rw [h]⟩
   ·exact ⟨_, _, rfl⟩
  obtain ⟨a, cap, rfl⟩ := hsl
  refine (enum1_out (wideR none) rfl (fun _ => trivial) l p1.b p1.off p2.b p2.off x.n cap x.i a w hc1 hc2 ?_).mono ?_
  ·by_cases h : x.i < 0
   ·exact .inl (decide_eq_true h)
   ·exact .inr ⟨decide_eq_false h, decide_eq_true (by omega)⟩
  ·rintro e w' ⟨h1, rfl⟩
   have en : enumIt.n x = 0 := by show (enumL x).length = _; rw [hl]; rfl
   rw [en]; exact ⟨h1, .inl h0⟩
end Go.Sym