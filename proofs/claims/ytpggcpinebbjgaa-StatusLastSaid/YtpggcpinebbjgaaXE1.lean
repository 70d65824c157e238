/- The symbolic values and states of a walk, and what they say of the machine's values and worlds. Definitions alone; no statement of any program stands here. -/
import Derived.WalkKit
import Derived.Orders
namespace Go.Sym
set_option linter.unusedVariables false
set_option linter.unusedSimpArgs false

/-- A datum: a scalar, or a tree that no one writes any more ('l n f': n rows). -/
inductive D where | i (n : Int) | b (v : Bool) | s (v : ByteArray) | l (n : Nat) (f : Nat → Nat → D)
def D.toI : D → Int | .i n => n | _ => 0
def D.toB : D → Bool | .b v => v | _ => false
def D.toS : D → ByteArray | .s v => v | _ => ByteArray.empty
def D.toN : D → Nat | .l n _ => n | _ => 0
def D.toF : D → Nat → Nat → D | .l _ f => f | _ => fun _ _ => .i 0
/-- The kinds of cells: scalars, slices of rows, pointers to n rows. -/
inductive Kd where | int (k : IntKind) | bool | str | sl (ks : List Kd) | pt (n : Nat) (ks : List Kd)

/-- A symbolic value. 'p l r c': into block l, row r, column c. 'q l n': block l's beginning, nil if n = 0. 'sl l lo len': a slice of block l's rows. -/
inductive SV where
  | u
  | i (k : IntKind) (n : Int)
  | b (v : Bool)
  | bt (v : Bool)
  | s (v : ByteArray)
  | p (l r c : Nat)
  | q (l n : Nat)
  | np
  | sl (l lo len : Nat)
  | ns
  | mp (l : Nat)
  | nm
  | nf
  | fn (f : Nat) (caps : List SV)
  | agg (cs : List SV)
  | tup (cs : List SV)
  | arr (ks : List Kd) (n : Nat) (f : Nat → Nat → D)

structure Place where
  b : Nat
  off : Nat
  k : Nat
  cap : Nat

/-- Whose a block is: our own, to be written; lent, to be read; frozen, never written again. -/
inductive Md where | own | bor | fz

/-- Contents of a labelled block. 'map': a key's kind, the values' cells, whether they make an aggregate, the keys, the values. -/
inductive Blk where
  | dead
  | one (m : Md) (cs : List SV)
  | rows (m : Md) (ks : List Kd) (n : Nat) (f : Nat → Nat → D)
  | map (m : Md) (kk : IntKind) (ks : List Kd) (agg : Bool) (keys : List Int) (f : Int → Nat → D)

def Md.isOwn : Md → Bool | .own => true | _ => false
def Blk.mut : Blk → Bool
  | .dead => false
  | .one m _ => m.isOwn
  | .rows m _ _ _ => m.isOwn
  | .map m _ _ _ _ _ => m.isOwn
def Blk.live : Blk → Bool
  | .dead => false
  | _ => true

/-- Does it hold any cell that is read or written? -/
def Blk.real : Blk → Prop
  | .dead => False
  | .rows m _ n _ => m.isOwn = true ∨ n ≠ 0
  | _ => True

/-- Where the labels lie; and the blocks that are frozen, as they are. -/
structure Env where
  at_ : Nat → Option Place
  z : Nat → Option Obj
instance : CoeFun Env (fun _ => Nat → Option Place) := ⟨Env.at_⟩
abbrev Fr := Nat → SV
abbrev Hp := Nat → Option Blk

mutual
def SV.labs : SV → List Nat
  | .p l _ _ => [l]
  | .q l _ => [l]
  | .sl l _ _ => [l]
  | .mp l => [l]
  | .fn _ cs => labsL cs
  | .agg cs => labsL cs
  | .tup cs => labsL cs
  | .u | .i _ _ | .b _ | .bt _ | .s _ | .np | .ns | .nm | .nf | .arr _ _ _ => []
def labsL : List SV → List Nat
  | [] => []
  | c :: cs => c.labs ++ labsL cs
end

def Blk.labs : Blk → List Nat
  | .one _ cs => labsL cs
  | _ => []

def ptr (pl : Place) (r c : Nat) : Addr := ⟨pl.b, pl.off + r * pl.k + c, none⟩

/-! A cell's value, told by its kind and its datum; z: the frozen blocks. -/
mutual
def DenD (z : Nat → Option Obj) : Kd → D → Value → Prop
  | .int k, d, v => v = .int k d.toI
  | .bool, d, v => v = .bool d.toB
  | .str, d, v => v = .string d.toS
  | .sl ks, d, v => (d.toN = 0 ∧ (v = .slice none 0 0 ∨ ∃ a cap, v = .slice (some a) 0 cap ∧ (0 < cap → a.spot = none))) ∨
      ∃ b off cap arr T fz, v = .slice (some ⟨b, off, none⟩) d.toN cap ∧ d.toN ≤ cap ∧ z b = some (.cells arr T fz) ∧ off + cap * ks.length ≤ arr.size ∧
        ∀ r, r < d.toN → DenR z ks (d.toF r) 0 arr (off + r * ks.length)
  | .pt n ks, d, v => (d.toN = 0 ∧ v = .pointer none) ∨
      ∃ b off arr T fz, v = .pointer (some ⟨b, off, none⟩) ∧ d.toN = n ∧ n ≠ 0 ∧ z b = some (.cells arr T fz) ∧ off + n * ks.length ≤ arr.size ∧
        ∀ r, r < n → DenR z ks (d.toF r) 0 arr (off + r * ks.length)
/-- A row: cells from place o on, columns from c on. -/
def DenR (z : Nat → Option Obj) : List Kd → (Nat → D) → Nat → Array Value → Nat → Prop
  | [], _, _, _, _ => True
  | k :: ks, g, c, arr, o => (∃ u, arr[o]? = some u ∧ DenD z k (g c) u) ∧ DenR z ks g (c + 1) arr (o + 1)
end

mutual
def Den (ρ : Env) : SV → Value → Prop
  | .u, _ => True
  | .i k n, v => v = .int k n
  | .b x, v => v = .bool x
  | .bt x, v => v = .bool x
  | .s x, v => v = .string x
  | .p l r c, v => ∃ pl, ρ l = some pl ∧ v = .pointer (some (ptr pl r c))
  | .q l n, v => (n = 0 ∧ v = .pointer none) ∨ ∃ pl, n ≠ 0 ∧ ρ l = some pl ∧ v = .pointer (some (ptr pl 0 0))
  | .np, v => v = .pointer none
  | .sl l lo len, v => (ρ l = none ∧ v = .slice none 0 0 ∧ len = 0 ∧ lo = 0) ∨
      ∃ pl a, ρ l = some pl ∧ v = .slice (some a) len (pl.cap - lo) ∧ lo + len ≤ pl.cap ∧ (lo < pl.cap → a = ptr pl lo 0)
  | .ns, v => v = .slice none 0 0
  | .mp l, v => ∃ pl, ρ l = some pl ∧ v = .map (some pl.b)
  | .nm, v => v = .map none
  | .nf, v => v = .nilFunc
  | .fn f caps, v => ∃ vs : Array Value, v = .func (.func f) #[] vs ∧ DenL ρ caps vs.toList
  | .agg cs, v => ∃ vs : Array Value, v = .agg vs ∧ DenL ρ cs vs.toList
  | .tup cs, v => ∃ vs : Array Value, v = .tuple vs ∧ DenL ρ cs vs.toList
  | .arr ks n f, v => ∃ vs : Array Value, v = .agg vs ∧ vs.size = n * ks.length ∧ ∀ r, r < n → DenR ρ.z ks (f r) 0 vs (r * ks.length)
def DenL (ρ : Env) : List SV → List Value → Prop
  | [], vs => vs = []
  | c :: cs, vs => ∃ v r, vs = v :: r ∧ Den ρ c v ∧ DenL ρ cs r
end

/-- The cells of a map's entry, as a value. -/
def isVal (agg : Bool) (v : Value) : Prop := match agg with
  | true => v = .agg v.cells
  | false => v.cells = #[v]
/-- A map's entries are as its keys and values say, in some order. -/
def MapOk (z : Nat → Option Obj) (kk : IntKind) (ks : List Kd) (agg : Bool) (keys : List Int) (f : Int → Nat → D) (es : Array MapEntry) (clk : Nat) : Prop :=
  keys.Nodup ∧ (∃ l : List Int, l.Perm keys ∧ es.toList.map (·.key) = l.map (Value.int kk)) ∧
  (∀ e ∈ es.toList, ∀ k, e.key = .int kk k → isVal agg e.val ∧ e.val.cells.size = ks.length ∧ DenR z ks (f k) 0 e.val.cells 0) ∧
  (es.toList.map (·.born)).Nodup ∧ ∀ e ∈ es.toList, e.born < clk

/-- A block is as its symbolic contents say. -/
def BlkOk (ρ : Env) (w : World) (l : Nat) : Blk → Prop
  | .dead => True
  | .one m cs => ∃ pl arr T fz, ρ l = some pl ∧ w.heap[pl.b]? = some (.cells arr T fz) ∧ (m.isOwn = true → fz = (0, 0)) ∧ (m = .fz → ρ.z pl.b = some (.cells arr T fz)) ∧ pl.off + cs.length ≤ arr.size ∧
      DenL ρ cs ((arr.toList.drop pl.off).take cs.length)
  | .rows m ks n f => (ρ l = none ∧ n = 0) ∨ (∃ pl, ρ l = some pl ∧ n = 0 ∧ m.isOwn = false ∧ pl.k = ks.length) ∨
      ∃ pl arr T fz, ρ l = some pl ∧ w.heap[pl.b]? = some (.cells arr T fz) ∧ (m.isOwn = true → fz = (0, 0)) ∧ (m = .fz → ρ.z pl.b = some (.cells arr T fz)) ∧ pl.k = ks.length ∧
      n ≤ pl.cap ∧ pl.off + pl.cap * pl.k ≤ arr.size ∧ ∀ r, r < n → DenR ρ.z ks (f r) 0 arr (pl.off + r * pl.k)
  | .map m kk ks agg keys f => ∃ pl es clk, ρ l = some pl ∧ w.heap[pl.b]? = some (.map es clk) ∧ MapOk ρ.z kk ks agg keys f es clk

structure HSat (ρ : Env) (G : Hp) (w : World) : Prop where
  blk : ∀ l b, G l = some b → BlkOk ρ w l b
  inj : ∀ l1 l2 b1 b2 p1 p2, l1 ≠ l2 → G l1 = some b1 → G l2 = some b2 → b1.mut = true → b2.real → ρ l1 = some p1 → ρ l2 = some p2 → p1.b ≠ p2.b
  scp : ∀ l b, G l = some b → ∀ l' ∈ b.labs, G l' ≠ none
  tight : ∀ l, G l = none → ρ l = none
  zok : ∀ b o, ρ.z b = some o → w.heap[b]? = some o
  zap : ∀ l b p, G l = some b → b.mut = true → ρ l = some p → ρ.z p.b = none

def FSat (ρ : Env) (F : Fr) (tmps : Array Value) : Prop := ∀ t, Den ρ (F t) (tmps.getD t undef)
def Scp (G : Hp) (F : Fr) : Prop := ∀ t, ∀ l ∈ (F t).labs, G l ≠ none

/-- What has become of the blocks that were there at the beginning (world w0): all but those of E are as they were. -/
structure Keep (E : Nat → Prop) (w0 w : World) : Prop where
  os : w.os = w0.os
  tape : w.tape = w0.tape
  output : w.output = w0.output
  size : w0.heap.size ≤ w.heap.size
  block : ∀ k, k < w0.heap.size → ¬ E k → w.heap[k]? = w0.heap[k]?

/-- Where a call's blocks come from: E: handed over to be written; A: handed over, or frozen at the beginning (ρi). -/
structure MutIn (E A : Nat → Prop) (ρi : Env) (n : Nat) (ρ : Env) (G : Hp) : Prop where
  m : ∀ l b pl, G l = some b → b.mut = true → ρ l = some pl → E pl.b ∨ n ≤ pl.b
  a : ∀ l b pl, G l = some b → b.real → ρ l = some pl → A pl.b ∨ n ≤ pl.b
  zx : ∀ b o, ρi.z b = some o → ρ.z b = some o
  zi : ∀ b, ρ.z b ≠ none → ρi.z b ≠ none ∨ E b ∨ n ≤ b
  za : ∀ b, ρi.z b ≠ none ∨ E b → A b

/-! ### Lists that stand for frames and heaps -/
def fget : List (Nat × SV) → Nat → SV
  | [], _ => .u
  | (k, v) :: r, t => match Nat.beq k t with | true => v | false => fget r t
def hget : List (Nat × Blk) → Nat → Option Blk
  | [], _ => none
  | (k, v) :: r, t => match Nat.beq k t with | true => some v | false => hget r t
def upds (G : Hp) : List (Nat × Blk) → Hp
  | [], l => G l
  | (k, v) :: r, l => match Nat.beq k l with | true => some v | false => upds G r l
def upd (F : Fr) (d : Nat) (v : SV) : Fr := fun t => match Nat.beq d t with | true => v | false => F t
def updO (F : Fr) (d : Option Nat) (v : SV) : Fr := match d with | some d => upd F d v | none => F

theorem fget_cons (d : Nat) (v : SV) (fr : List (Nat × SV)) : fget ((d, v) :: fr) = upd (fget fr) d v := rfl
theorem hget_append (wr hp : List (Nat × Blk)) : hget (wr ++ hp) = upds (hget hp) wr := by
  induction wr with
  | nil => rfl
  | cons x r ih =>
    funext l
    show (match Nat.beq x.1 l with | true => some x.2 | false => hget (r ++ hp) l) = match Nat.beq x.1 l with | true => some x.2 | false => upds (hget hp) r l
    rw [ih]
end Go.Sym
