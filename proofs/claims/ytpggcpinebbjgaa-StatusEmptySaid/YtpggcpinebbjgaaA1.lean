/- law30: the data, and what the functions compute. -/
import Derived.Test.YtpggcpinebbjgaaXD
import Derived.Test.YtpggcpinebbjgaaRows
namespace Go.Sym
set_option linter.unusedVariables false
def T : List (Nat × TI) := [
  (2, ⟨.int .i64, 1, 8, [.i .i64 0]⟩),
  (3, ⟨.int .i64, 1, 8, [.i .i64 0]⟩),
  (4, ⟨.bool, 1, 1, [.bt false]⟩),
  (5, ⟨.int .u8, 1, 1, [.i .u8 0]⟩),
  (22, ⟨.slice 40, 1, 24, [.ns]⟩),
  (23, ⟨.ptr 69, 1, 8, [.np]⟩),
  (24, ⟨.slice 70, 1, 24, [.ns]⟩),
  (25, ⟨.struct [(0, 3), (1, 2), (2, 24)], 3, 40, [.i .i64 0, .i .i64 0, .ns]⟩),
  (26, ⟨.struct [(0, 3), (1, 2), (2, 24)], 3, 40, [.i .i64 0, .i .i64 0, .ns]⟩),
  (30, ⟨.struct [(0, 3), (1, 2), (2, 3), (3, 3), (4, 2)], 5, 40, [.i .i64 0, .i .i64 0, .i .i64 0, .i .i64 0, .i .i64 0]⟩),
  (31, ⟨.struct [(0, 3), (1, 2), (2, 3), (3, 3), (4, 2)], 5, 40, [.i .i64 0, .i .i64 0, .i .i64 0, .i .i64 0, .i .i64 0]⟩),
  (38, ⟨.arr 4 2, 4, 32, [.i .i64 0, .i .i64 0, .i .i64 0, .i .i64 0]⟩),
  (39, ⟨.struct [(0, 31), (5, 2)], 6, 48, [.i .i64 0, .i .i64 0, .i .i64 0, .i .i64 0, .i .i64 0, .i .i64 0]⟩),
  (40, ⟨.struct [(0, 31), (5, 2)], 6, 48, [.i .i64 0, .i .i64 0, .i .i64 0, .i .i64 0, .i .i64 0, .i .i64 0]⟩),
  (41, ⟨.int .i64, 1, 8, [.i .i64 0]⟩),
  (49, ⟨.slice 3, 1, 24, [.ns]⟩),
  (53, ⟨.slice 2, 1, 24, [.ns]⟩),
  (54, ⟨.slice 31, 1, 24, [.ns]⟩),
  (65, ⟨.struct [(0, 31), (5, 2), (6, 2)], 7, 56, [.i .i64 0, .i .i64 0, .i .i64 0, .i .i64 0, .i .i64 0, .i .i64 0, .i .i64 0]⟩),
  (66, ⟨.struct [(0, 31), (5, 2), (6, 2)], 7, 56, [.i .i64 0, .i .i64 0, .i .i64 0, .i .i64 0, .i .i64 0, .i .i64 0, .i .i64 0]⟩),
  (67, ⟨.slice 66, 1, 24, [.ns]⟩),
  (68, ⟨.struct [(0, 67)], 1, 24, [.ns]⟩),
  (69, ⟨.struct [(0, 67)], 1, 24, [.ns]⟩),
  (70, ⟨.struct [(0, 31), (5, 2)], 6, 48, [.i .i64 0, .i .i64 0, .i .i64 0, .i .i64 0, .i .i64 0, .i .i64 0]⟩),
  (73, ⟨.ptr 66, 1, 8, [.np]⟩)]

open Go.Proofs
theorem tok : TOk Try.prog T := tokB_spec (by decide +kernel)


def lim : Int := 1099511627776
def minMax (t : Int) : Int := min (max t 0) lim
structure Sta where
  unit : Int
  seq : Int
  state : Int
  node : Int
  epoch : Int
deriving Inhabited, DecidableEq
structure Rec where
  sta : Sta
  added : Int
  heard : Int
deriving Inhabited
structure Came where
  sta : Sta
  now : Int
deriving Inhabited
def encRec (x : Rec) (c : Nat) : D := encN [.i x.sta.unit, .i x.sta.seq, .i x.sta.state, .i x.sta.node, .i x.sta.epoch, .i x.added, .i x.heard] c
def encCame (x : Came) (c : Nat) : D := encN [.i x.sta.unit, .i x.sta.seq, .i x.sta.state, .i x.sta.node, .i x.sta.epoch, .i x.now] c
def encSta (s : Sta) : SV := .agg [.i .i64 s.unit, .i .i64 s.seq, .i .i64 s.state, .i .i64 s.node, .i .i64 s.epoch]
def k7 : List Kd := [.int .i64, .int .i64, .int .i64, .int .i64, .int .i64, .int .i64, .int .i64]
def k6 : List Kd := [.int .i64, .int .i64, .int .i64, .int .i64, .int .i64, .int .i64]
def zeroSta : Sta := ⟨0, 0, 0, 0, 0⟩

/-! ### The inbox -/
abbrev Box := List Rec
def Box.has (b : Box) (u : Int) : Bool := decide (0 ≤ u ∧ u < b.length)
def Box.at (b : Box) (u : Int) : Rec := b.getD u.toNat default
def Box.there (b : Box) (u : Int) : Bool := b.has u && decide ((b.at u).added ≠ 0)
def Box.last (b : Box) (u : Int) : Sta := if b.there u then (b.at u).sta else zeroSta
def Box.heard (b : Box) (u : Int) : Int := if b.there u then (b.at u).heard else 0
def Box.missed (b : Box) (u : Int) : Int := if b.has u then (b.at u).sta.seq - (b.at u).added else 0
def stateOk (n : Int) : Bool := decide (n = 1) || decide (n = 3) || decide (n = 4) || decide (n = 5) || decide (n = 6)
def Box.valid (b : Box) (s : Sta) : Bool := stateOk s.state && b.has s.unit && decide (1 ≤ s.seq) && decide (s.seq ≤ lim) && decide (0 ≤ s.node) && decide (0 ≤ s.epoch) && decide (s.epoch ≤ lim)
def Box.isNew (b : Box) (s : Sta) : Bool := b.valid s && decide ((b.at s.unit).sta.seq < s.seq)
def Box.add (b : Box) (s : Sta) (now : Int) : Box :=
  if b.isNew s then b.set s.unit.toNat ⟨s, (b.at s.unit).added + 1, max (b.at s.unit).heard (minMax now)⟩ else b
def Box.err (b : Box) (s : Sta) : Int := if b.valid s then 0 else 1
def Box.new (n now : Int) : Box := List.replicate n.toNat ⟨zeroSta, 0, minMax now⟩
def unitsOk (n : Int) : Bool := decide (0 ≤ n) && decide (n ≤ 256)
/-- What the arithmetic can bear. -/
structure Rec.Ok (r : Rec) : Prop where
  a : 0 ≤ r.added ∧ r.added ≤ r.sta.seq
  s : r.sta.seq ≤ lim
  h : 0 ≤ r.heard ∧ r.heard ≤ lim
def Box.Ok (b : Box) : Prop := ∀ u : Nat, u < b.length → (b.getD u default).Ok
def Box.silent (b : Box) (now silence : Int) (k : Nat) : List Int := ((List.range k).filter fun u => decide (minMax now - (b.getD u default).heard > max silence 0)).map Int.ofNat

/-! ### The reference -/
structure Ref where
  units : Int
  since : Int
  news : List Came
deriving Inhabited
def Ref.step (u : Int) (a : Sta × Int × Bool) (c : Came) : Sta × Int × Bool := if c.sta.unit = u then (c.sta, max a.2.1 c.now, true) else a
def Ref.fold (y : Ref) (u : Int) (k : Nat) : Sta × Int × Bool := (y.news.take k).foldl (Ref.step u) (zeroSta, y.since, false)
theorem Ref.fold_zero (y : Ref) (u : Int) : y.fold u 0 = (zeroSta, y.since, false) := rfl
theorem take_succ_getD {α : Type} {xs : List α} {k : Nat} {d : α} (h : k < xs.length) : xs.take (k + 1) = xs.take k ++ [xs.getD k d] := by
  rw [List.take_succ_eq_append_getElem h]; simp [List.getD_eq_getElem?_getD, h]
theorem Ref.fold_succ (y : Ref) (u : Int) (k : Nat) (h : k < y.news.length) : y.fold u (k + 1) = Ref.step u (y.fold u k) (y.news.getD k default) := by
  unfold Ref.fold
  rw [take_succ_getD h, List.foldl_append]; rfl
def Ref.all (y : Ref) (u : Int) : Sta × Int × Bool := y.news.foldl (Ref.step u) (zeroSta, y.since, false)
theorem Ref.fold_all (y : Ref) (u : Int) : y.fold u y.news.length = y.all u := by unfold Ref.fold Ref.all; rw [List.take_length]
def Ref.there (y : Ref) (u : Int) : Bool := (y.all u).2.2
def Ref.last (y : Ref) (u : Int) : Sta := if y.there u then (y.all u).1 else zeroSta
def Ref.heard (y : Ref) (u : Int) : Int := if y.there u then (y.all u).2.1 else 0
def Ref.count (y : Ref) (u : Int) (k : Nat) : Int := ((y.news.take k).filter fun c => decide (c.sta.unit = u)).length
def Ref.missed (y : Ref) (u : Int) : Int := if y.there u then (y.all u).1.seq - y.count u y.news.length else 0
def Ref.valid (y : Ref) (s : Sta) : Bool := decide (0 ≤ s.unit) && decide (s.unit < y.units) && decide (1 ≤ s.seq) && decide (s.seq ≤ lim) && stateOk s.state && decide (0 ≤ s.node) && decide (0 ≤ s.epoch) && decide (s.epoch ≤ lim)
def Ref.isNew (y : Ref) (s : Sta) : Bool := y.valid s && !(y.there s.unit && decide (s.seq ≤ (y.last s.unit).seq))
def Ref.put (y : Ref) (s : Sta) (now : Int) : Ref := if y.isNew s then { y with news := y.news ++ [⟨s, minMax now⟩] } else y
def Ref.err (y : Ref) (s : Sta) : Int := if y.valid s then 0 else 1
def Ref.new (n now : Int) : Ref := if unitsOk n then ⟨n, minMax now, []⟩ else ⟨0, 0, []⟩
def Ref.quietAt (y : Ref) (now silence : Int) (u : Nat) : Bool := decide (minMax now - (if y.there u then y.heard u else y.since) > max silence 0)
def Ref.quiet (y : Ref) (now silence : Int) (k : Nat) : List Int := ((List.range k).filter fun u => y.quietAt now silence u).map Int.ofNat
end Go.Sym
