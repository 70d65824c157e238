/- The engine of the proof: a symbolic walk over the model's code, and that it is sound; no statement of any program stands here. -/
import Derived.WalkKit
import Derived.Orders
namespace Go.Sym
set_option linter.unusedVariables false
set_option linter.unusedSimpArgs false
inductive D where | i (n : Int) | b (v : Bool) | s (v : ByteArray) | l (n : Nat) (f : Nat -> Nat -> D)
def D.toI : D -> Int | .i n => n | _ => 0
def D.toB : D -> Bool | .b v => v | _ => false
def D.toS : D -> ByteArray | .s v => v | _ => ByteArray.empty
def D.toN : D -> Nat | .l n _ => n | _ => 0
def D.toF : D -> Nat -> Nat -> D | .l _ f => f | _ => fun _ _ => .i 0
inductive Kd where | int (k : IntKind) | bool | str | sl (ks : List Kd) | pt (n : Nat) (ks : List Kd)
inductive SV where
 | u
 | i (k : IntKind) (n : Int)
 | b (v : Bool)
 | bt (v : Bool)
 | s (v : ByteArray)
 | p (l r c : Nat)
 | q (l n : Nat)
 | np
 | sl (l lo len : Nat)
 | ns
 | mp (l : Nat)
 | nm
 | nf
 | fn (f : Nat) (caps : List SV)
 | bm (f : Nat) (fs : List SV)
 | agg (cs : List SV)
 | tup (cs : List SV)
 | arr (ks : List Kd) (n : Nat) (f : Nat -> Nat -> D)
structure Place where
 b : Nat
 off : Nat
 k : Nat
 cap : Nat
inductive Md where | own | bor | fz
inductive Blk where
 | dead
 | one (m : Md) (cs : List SV)
 | rows (m : Md) (ks : List Kd) (n : Nat) (f : Nat -> Nat -> D)
 | map (m : Md) (kk : IntKind) (ks : List Kd) (agg : Bool) (keys : List Int) (f : Int -> Nat -> D)
def Md.isOwn : Md -> Bool | .own => true | _ => false
def Blk.mut : Blk -> Bool
 | .dead => false
 | .one m _ => m.isOwn
 | .rows m _ _ _ => m.isOwn
 | .map m _ _ _ _ _ => m.isOwn
def Blk.live : Blk -> Bool
 | .dead => false
 | _ => true
def Blk.real : Blk -> Prop
 | .dead => False
 | .rows m _ n _ => m.isOwn = true ∨ n ≠ 0
 | _ => True
structure Env where
 at_ : Nat -> Option Place
 z : Nat -> Option Obj
instance : CoeFun Env (fun _ => Nat -> Option Place) := ⟨Env.at_⟩
class Glob where
 ok : Env -> Prop
 mono : ∀ {ρ ρ' : Env}, (∀ b o, ρ.z b = some o -> ρ'.z b = some o) -> ok ρ -> ok ρ'
abbrev Fr := Nat -> SV
abbrev Hp := Nat -> Option Blk
mutual
def SV.labs : SV -> List Nat
 | .p l _ _ => [l]
 | .q l _ => [l]
 | .sl l _ _ => [l]
 | .mp l => [l]
 | .fn _ cs => labsL cs
 | .bm _ cs => labsL cs
 | .agg cs => labsL cs
 | .tup cs => labsL cs
 | .u | .i _ _ | .b _ | .bt _ | .s _ | .np | .ns | .nm | .nf | .arr _ _ _ => []
def labsL : List SV -> List Nat
 | [] => []
 | c :: cs => c.labs ++ labsL cs
end
def Blk.labs : Blk -> List Nat
 | .one _ cs => labsL cs
 | _ => []
def ptr (pl : Place) (r c : Nat) : Addr := ⟨pl.b, pl.off + r * pl.k + c, none⟩
/-! A cell's value, told by its kind and its datum; z: the frozen blocks. -/
mutual
def DenD (z : Nat -> Option Obj) : Kd -> D -> Value -> Prop
 | .int k, d, v => v = .int k d.toI
 | .bool, d, v => v = .bool d.toB
 | .str, d, v => v = .string d.toS
 | .sl ks, d, v => (d.toN = 0 /\ (v = .slice none 0 0 ∨ ∃ a cap, v = .slice (some a) 0 cap /\ (0 < cap -> a.spot = none))) ∨
   ∃ b off cap arr T fz, v = .slice (some ⟨b, off, none⟩) d.toN cap /\ d.toN <= cap /\ z b = some (.cells arr T fz) /\ off + cap * ks.length <= arr.size /\
    ∀ r, r < d.toN -> DenR z ks (d.toF r) 0 arr (off + r * ks.length)
 | .pt n ks, d, v => (d.toN = 0 /\ v = .pointer none) ∨
   ∃ b off arr T fz, v = .pointer (some ⟨b, off, none⟩) /\ d.toN = n /\ n ≠ 0 /\ z b = some (.cells arr T fz) /\ off + n * ks.length <= arr.size /\
    ∀ r, r < n -> DenR z ks (d.toF r) 0 arr (off + r * ks.length)
def DenR (z : Nat -> Option Obj) : List Kd -> (Nat -> D) -> Nat -> Array Value -> Nat -> Prop
 | [], _, _, _, _ => True
 | k :: ks, g, c, arr, o => (∃ u, arr[o]? = some u /\ DenD z k (g c) u) /\ DenR z ks g (c + 1) arr (o + 1)
end
mutual
def Den (ρ : Env) : SV -> Value -> Prop
 | .u, _ => True
 | .i k n, v => v = .int k n
 | .b x, v => v = .bool x
 | .bt x, v => v = .bool x
 | .s x, v => v = .string x
 | .p l r c, v => ∃ pl, ρ l = some pl /\ v = .pointer (some (ptr pl r c))
 | .q l n, v => (n = 0 /\ v = .pointer none) ∨ ∃ pl, n ≠ 0 /\ ρ l = some pl /\ v = .pointer (some (ptr pl 0 0))
 | .np, v => v = .pointer none
 | .sl l lo len, v => (ρ l = none /\ v = .slice none 0 0 /\ len = 0 /\ lo = 0) ∨
   ∃ pl a, ρ l = some pl /\ v = .slice (some a) len (pl.cap - lo) /\ lo + len <= pl.cap /\ (lo < pl.cap -> a = ptr pl lo 0)
 | .ns, v => v = .slice none 0 0
 | .mp l, v => ∃ pl, ρ l = some pl /\ v = .map (some pl.b)
 | .nm, v => v = .map none
 | .nf, v => v = .nilFunc
 | .fn f caps, v => ∃ vs : Array Value, v = .func (.func f) #[] vs /\ DenL ρ caps vs.toList
 | .bm f fs, v => ∃ vs : Array Value, v = .func (.func f) vs #[] /\ DenL ρ fs vs.toList
 | .agg cs, v => ∃ vs : Array Value, v = .agg vs /\ DenL ρ cs vs.toList
 | .tup cs, v => ∃ vs : Array Value, v = .tuple vs /\ DenL ρ cs vs.toList
 | .arr ks n f, v => ∃ vs : Array Value, v = .agg vs /\ vs.size = n * ks.length /\ ∀ r, r < n -> DenR ρ.z ks (f r) 0 vs (r * ks.length)
def DenL (ρ : Env) : List SV -> List Value -> Prop
 | [], vs => vs = []
 | c :: cs, vs => ∃ v r, vs = v :: r /\ Den ρ c v /\ DenL ρ cs r
end
def isVal (agg : Bool) (v : Value) : Prop := match agg with
 | true => v = .agg v.cells
 | false => v.cells = #[v]
def MapOk (z : Nat -> Option Obj) (kk : IntKind) (ks : List Kd) (agg : Bool) (keys : List Int) (f : Int -> Nat -> D) (es : Array MapEntry) (clk : Nat) : Prop :=
 keys.Nodup /\ (∃ l : List Int, l.Perm keys /\ es.toList.map (·.key) = l.map (Value.int kk)) /\
 (∀ e ∈ es.toList, ∀ k, e.key = .int kk k -> isVal agg e.val /\ e.val.cells.size = ks.length /\ DenR z ks (f k) 0 e.val.cells 0) /\
 (es.toList.map (·.born)).Nodup /\ ∀ e ∈ es.toList, e.born < clk
def BlkOk (ρ : Env) (w : World) (l : Nat) : Blk -> Prop
 | .dead => True
 | .one m cs => ∃ pl arr T fz, ρ l = some pl /\ w.heap[pl.b]? = some (.cells arr T fz) /\ (m.isOwn = true -> fz = (0, 0)) /\ (m = .fz -> ρ.z pl.b = some (.cells arr T fz)) /\ pl.off + cs.length <= arr.size /\
   DenL ρ cs ((arr.toList.drop pl.off).take cs.length)
 | .rows m ks n f => (ρ l = none /\ n = 0) ∨ (∃ pl, ρ l = some pl /\ n = 0 /\ m.isOwn = false /\ pl.k = ks.length) ∨
   ∃ pl arr T fz, ρ l = some pl /\ w.heap[pl.b]? = some (.cells arr T fz) /\ (m.isOwn = true -> fz = (0, 0)) /\ (m = .fz -> ρ.z pl.b = some (.cells arr T fz)) /\ pl.k = ks.length /\
   n <= pl.cap /\ pl.off + pl.cap * pl.k <= arr.size /\ ∀ r, r < n -> DenR ρ.z ks (f r) 0 arr (pl.off + r * pl.k)
 | .map m kk ks agg keys f => ∃ pl es clk, ρ l = some pl /\ w.heap[pl.b]? = some (.map es clk) /\ MapOk ρ.z kk ks agg keys f es clk
structure HSat (ρ : Env) (G : Hp) (w : World) : Prop where
 blk : ∀ l b, G l = some b -> BlkOk ρ w l b
 inj : ∀ l1 l2 b1 b2 p1 p2, l1 ≠ l2 -> G l1 = some b1 -> G l2 = some b2 -> b1.mut = true -> b2.real -> ρ l1 = some p1 -> ρ l2 = some p2 -> p1.b ≠ p2.b
 scp : ∀ l b, G l = some b -> ∀ l' ∈ b.labs, G l' ≠ none
 tight : ∀ l, G l = none -> ρ l = none
 zok : ∀ b o, ρ.z b = some o -> w.heap[b]? = some o
 zap : ∀ l b p, G l = some b -> b.mut = true -> ρ l = some p -> ρ.z p.b = none
def FSat (ρ : Env) (F : Fr) (tmps : Array Value) : Prop := ∀ t, Den ρ (F t) (tmps.getD t undef)
def Scp (G : Hp) (F : Fr) : Prop := ∀ t, ∀ l ∈ (F t).labs, G l ≠ none
structure Keep (E : Nat -> Prop) (w0 w : World) : Prop where
 os : w.os = w0.os
 tape : w.tape = w0.tape
 output : w.output = w0.output
 size : w0.heap.size <= w.heap.size
 block : ∀ k, k < w0.heap.size -> ¬ E k -> w.heap[k]? = w0.heap[k]?
structure MutIn (E A : Nat -> Prop) (ρi : Env) (n : Nat) (ρ : Env) (G : Hp) : Prop where
 m : ∀ l b pl, G l = some b -> b.mut = true -> ρ l = some pl -> E pl.b ∨ n <= pl.b
 a : ∀ l b pl, G l = some b -> b.real -> ρ l = some pl -> A pl.b ∨ n <= pl.b
 zx : ∀ b o, ρi.z b = some o -> ρ.z b = some o
 zi : ∀ b, ρ.z b ≠ none -> ρi.z b ≠ none ∨ E b ∨ n <= b
 za : ∀ b, ρi.z b ≠ none ∨ E b -> A b
/-! ### Lists that stand for frames and heaps -/
def fget : List (Nat × SV) -> Nat -> SV
 | [], _ => .u
 | (k, v) :: r, t => match Nat.beq k t with | true => v | false => fget r t
def hget : List (Nat × Blk) -> Nat -> Option Blk
 | [], _ => none
 | (k, v) :: r, t => match Nat.beq k t with | true => some v | false => hget r t
def upds (G : Hp) : List (Nat × Blk) -> Hp
 | [], l => G l
 | (k, v) :: r, l => match Nat.beq k l with | true => some v | false => upds G r l
def upd (F : Fr) (d : Nat) (v : SV) : Fr := fun t => match Nat.beq d t with | true => v | false => F t
def updO (F : Fr) (d : Option Nat) (v : SV) : Fr := match d with | some d => upd F d v | none => F
theorem fget_cons (d : Nat) (v : SV) (fr : List (Nat × SV)) : fget ((d, v) :: fr) = upd (fget fr) d v := rfl
theorem hget_append (wr hp : List (Nat × Blk)) : hget (wr ++ hp) = upds (hget hp) wr := by
 induction wr with
 | nil => rfl
 | cons x r ih =>
  funext l
  show (match Nat.beq x.1 l with | true => some x.2 | false => hget (r ++ hp) l) = match Nat.beq x.1 l with | true => some x.2 | false => upds (hget hp) r l
  rw [ih]
end Go.Sym
namespace Go.Sym
set_option linter.unusedVariables false
set_option linter.unusedSimpArgs false
inductive TD where
 | int (k : IntKind) | bool | str
 | ptr (e : Nat) | slice (e : Nat)
 | struct (fs : List (Nat × Nat))
 | arr (n e : Nat)
 | map (k v : Nat)
 | other
structure TI where
 d : TD
 size : Nat
 bytes : Nat
 zero : List SV
def tget : List (Nat × TI) -> Nat -> Option TI
 | [], _ => none
 | (k, v) :: r, t => match Nat.beq k t with | true => some v | false => tget r t
def IntKind.same : IntKind -> IntKind -> Bool
 | .i8, .i8 | .i16, .i16 | .i32, .i32 | .i64, .i64 | .u8, .u8 | .u16, .u16 | .u32, .u32 | .u64, .u64 => true
 | _, _ => false
def inR : IntKind -> Int -> Prop
 | .i8, n => -128 <= n /\ n <= 127
 | .i16, n => -32768 <= n /\ n <= 32767
 | .i32, n => -2147483648 <= n /\ n <= 2147483647
 | .i64, n => -9223372036854775808 <= n /\ n <= 9223372036854775807
 | .u8, n => 0 <= n /\ n <= 255
 | .u16, n => 0 <= n /\ n <= 65535
 | .u32, n => 0 <= n /\ n <= 4294967295
 | .u64, n => 0 <= n /\ n <= 18446744073709551615
def cvC : Value -> SV
 | .int k n => .i k n
 | .bool x => .bt x
 | .string x => .s x
 | .pointer none => .np
 | .slice none 0 0 => .ns
 | .map none => .nm
 | .nilFunc => .nf
 | _ => .u
def cv : Value -> SV
 | .agg cs => .agg (cs.toList.map cvC)
 | v => cvC v
def oa (F : Fr) : Operand -> SV
 | .tmp t => F t
 | .const v => cv v
 | .global _ => .u
 | .func f => .fn f []
def SV.isC : SV -> Bool
 | .u | .agg _ | .tup _ | .arr _ _ _ => false
 | _ => true
def allC : List SV -> Bool
 | [] => true
 | c :: cs => match c.isC with | true => allC cs | false => false
def scaSV : List Kd -> (Nat -> D) -> Nat -> Option (List SV)
 | [], _, _ => some []
 | .int k :: ks, g, c => match scaSV ks g (c + 1) with | some r => some (.i k (g c).toI :: r) | none => none
 | .bool :: ks, g, c => match scaSV ks g (c + 1) with | some r => some (.b (g c).toB :: r) | none => none
 | .str :: ks, g, c => match scaSV ks g (c + 1) with | some r => some (.s (g c).toS :: r) | none => none
 | _, _, _ => none
def apS : List SV -> List SV -> List SV
 | [], ys => ys
 | x :: xs, ys => x :: apS xs ys
def arrCells (ks : List Kd) (f : Nat -> Nat -> D) : Nat -> Nat -> Option (List SV)
 | 0, _ => some []
 | n + 1, r => match scaSV ks (f r) 0, arrCells ks f n (r + 1) with | some a, some b => some (apS a b) | _, _ => none
def SV.cells : SV -> Option (List SV)
 | .agg cs => some cs
 | .u | .tup _ => none
 | .arr ks n f => arrCells ks f n 0
 | v => some [v]
def takeL : Nat -> List SV -> List SV
 | 0, _ => []
 | _ + 1, [] => []
 | n + 1, x :: xs => x :: takeL n xs
def dropL : Nat -> List SV -> List SV
 | 0, xs => xs
 | _ + 1, [] => []
 | n + 1, _ :: xs => dropL n xs
def lenL : List SV -> Nat
 | [] => 0
 | _ :: xs => lenL xs + 1
def splice : List SV -> Nat -> List SV -> List SV
 | xs, _, [] => xs
 | [], _, _ :: _ => []
 | _ :: xs, 0, y :: ys => y :: splice xs 0 ys
 | x :: xs, n + 1, y :: ys => x :: splice xs n (y :: ys)
def TI.isAgg (t : TI) : Bool := match t.d with | .struct _ | .arr _ _ => true | _ => false
def TI.mk' (t : TI) (cs : List SV) : Option SV :=
 match t.isAgg with
 | true => some (.agg cs)
 | false => match cs with | [c] => some c | _ => none
mutual
def Kd.same : Kd -> Kd -> Bool
 | .int k, .int k' => IntKind.same k k'
 | .bool, .bool | .str, .str => true
 | .sl ks, .sl ks' => kdsSame ks ks'
 | .pt n ks, .pt n' ks' => match Nat.beq n n' with | true => kdsSame ks ks' | false => false
 | _, _ => false
def kdsSame : List Kd -> List Kd -> Bool
 | [], [] => true
 | a :: as, b :: bs => match Kd.same a b with | true => kdsSame as bs | false => false
 | _, _ => false
end
def apK : List Kd -> List Kd -> List Kd
 | [], ys => ys
 | x :: xs, ys => x :: apK xs ys
def repK : Nat -> List Kd -> List Kd
 | 0, _ => []
 | n + 1, ks => apK ks (repK n ks)
mutual
def kdsT (T : List (Nat × TI)) : Nat -> Nat -> Option (List Kd)
 | 0, _ => none
 | fuel + 1, t => match tget T t with
  | none => none
  | some ti => match ti.d with
   | .int k => some [.int k]
   | .bool => some [.bool]
   | .str => some [.str]
   | .slice e => match kdsT T fuel e with | some ks => some [.sl ks] | none => none
   | .ptr e => match tget T e with
    | some ⟨.arr n e2, _, _, _⟩ => match kdsT T fuel e2 with | some ks => some [.pt n ks] | none => none
    | _ => none
   | .struct fs => kdsF T fuel fs
   | .arr n e => match kdsT T fuel e with | some ks => some (repK n ks) | none => none
   | _ => none
def kdsF (T : List (Nat × TI)) : Nat -> List (Nat × Nat) -> Option (List Kd)
 | 0, _ => none
 | _ + 1, [] => some []
 | fuel + 1, (_, t) :: r => match kdsT T fuel t, kdsF T fuel r with | some a, some b => some (apK a b) | _, _ => none
end
def kdOk : Kd -> SV -> Bool
 | .int k, .i k' 0 => IntKind.same k k'
 | .bool, .bt false => true
 | .str, .s x => Nat.beq x.size 0
 | .sl _, .ns => true
 | .pt _ _, .np => true
 | _, _ => false
def kdsOk : List Kd -> List SV -> Bool
 | [], [] => true
 | k :: ks, c :: cs => match kdOk k c with | true => kdsOk ks cs | false => false
 | _, _ => false
def kdsE (T : List (Nat × TI)) (t : Nat) (ti : TI) : Option (List Kd) :=
 match kdsT T 12 t with
 | some ks => match kdsOk ks ti.zero with | true => some ks | false => none
 | none => none
def kdsZero (T : List (Nat × TI)) (e n : Nat) (z : List SV) : Bool := match kdsT T 12 e with | some ks => kdsOk (repK n ks) z | none => false
def zD : Kd -> D
 | .int _ => .i 0
 | .bool => .b false
 | .str => .s ByteArray.empty
 | .sl _ => .l 0 fun _ _ => .i 0
 | .pt _ _ => .l 0 fun _ _ => .i 0
def zRow : List Kd -> Nat -> D
 | [], _ => .i 0
 | k :: _, 0 => zD k
 | _ :: ks, n + 1 => zRow ks n
def takeK : Nat -> List Kd -> List Kd
 | 0, _ => []
 | _ + 1, [] => []
 | n + 1, x :: xs => x :: takeK n xs
def dropK : Nat -> List Kd -> List Kd
 | 0, xs => xs
 | _ + 1, [] => []
 | n + 1, _ :: xs => dropK n xs
def lenK : List Kd -> Nat
 | [] => 0
 | _ :: xs => lenK xs + 1
def labJ (d j : Nat) : Nat := d + 2000 * j
def rowSV (d : Nat) : List Kd -> (Nat -> D) -> Nat -> Nat -> List SV
 | [], _, _, _ => []
 | .int k :: ks, g, c, j => .i k (g c).toI :: rowSV d ks g (c + 1) j
 | .bool :: ks, g, c, j => .b (g c).toB :: rowSV d ks g (c + 1) j
 | .str :: ks, g, c, j => .s (g c).toS :: rowSV d ks g (c + 1) j
 | .sl _ :: ks, g, c, j => .sl (labJ d j) 0 (g c).toN :: rowSV d ks g (c + 1) (j + 1)
 | .pt _ _ :: ks, g, c, j => .q (labJ d j) (g c).toN :: rowSV d ks g (c + 1) (j + 1)
def rowW (d : Nat) : List Kd -> (Nat -> D) -> Nat -> Nat -> List (Nat × Blk)
 | [], _, _, _ => []
 | .sl ks' :: ks, g, c, j => (labJ d j, .rows .fz ks' (g c).toN (g c).toF) :: rowW d ks g (c + 1) (j + 1)
 | .pt _ ks' :: ks, g, c, j => (labJ d j, .rows .fz ks' (g c).toN (g c).toF) :: rowW d ks g (c + 1) (j + 1)
 | _ :: ks, g, c, j => rowW d ks g (c + 1) j
def toD (G : Hp) (k : Kd) (v : SV) : Option (D × Prop) :=
 match k, v with
 | .int k, .i k' n => match IntKind.same k k' with | true => some (.i n, True) | false => none
 | .bool, .b v => some (.b v, True)
 | .bool, .bt v => some (.b v, True)
 | .str, .s v => some (.s v, True)
 | .sl _, .ns => some (.l 0 fun _ _ => .i 0, True)
 | .sl ks, .sl l lo len => match G l with
  | some (.rows .fz ks' n f) => match kdsSame ks ks' with | true => some (.l len fun r c => f (lo + r) c, lo + len <= n) | false => none
  | none => some (.l 0 fun _ _ => .i 0, True)
  | _ => none
 | .pt _ _, .np => some (.l 0 fun _ _ => .i 0, True)
 | .pt n ks, .q l m => match G l with
  | some (.rows .fz ks' m' f) => match kdsSame ks ks' with | true => some (.l m f, m = 0 ∨ m = n /\ n = m') | false => none
  | _ => none
 | .pt n ks, .p l r c => match G l with
  | some (.rows .fz ks' m f) => match kdsSame ks ks', Nat.beq c 0 with | true, true => some (.l n f, r = 0 /\ m = n /\ n ≠ 0) | _, _ => none
  | _ => none
 | _, _ => none
def toDs (G : Hp) : List Kd -> List SV -> Option (List D × List Prop)
 | [], [] => some ([], [])
 | k :: ks, c :: cs => match toD G k c, toDs G ks cs with | some (d, p), some (ds, ps) => some (d :: ds, p :: ps) | _, _ => none
 | _, _ => none
def allP : List Prop -> Prop
 | [] => True
 | p :: ps => p /\ allP ps
def putD (g : Nat -> D) : Nat -> List D -> Nat -> D
 | _, [], j => g j
 | c, d :: ds, j => match Nat.beq j c with | true => d | false => putD g (c + 1) ds j
def setRow (f : Nat -> Nat -> D) (r c : Nat) (ds : List D) : Nat -> Nat -> D := fun i j => if i = r then putD (f r) c ds j else f i j
def appRows (n : Nat) (f : Nat -> Nat -> D) (lo : Nat) (g : Nat -> Nat -> D) : Nat -> Nat -> D := fun i j => if i < n then f i j else g (lo + (i - n)) j
def litRows (rows : List (List D)) : Nat -> Nat -> D := fun i j => (rows.getD i []).getD j (.i 0)
structure Res where
 v : SV
 wr : List (Nat × Blk) := []
 rd : List Nat := []
 pre : Option Prop := none
def Res.Pre (r : Res) : Prop := match r.pre with | some p => p | none => True
def eqC : SV -> SV -> Option Bool
 | .i k a, .i k' b => match IntKind.same k k' with | true => some (decide (a = b)) | false => none
 | _, _ => none
def eqCs : List SV -> List SV -> Option Bool
 | [], [] => some true
 | a :: as, b :: bs => match eqC a b, eqCs as bs with | some x, some y => some (x && y) | _, _ => none
 | _, _ => none
def arith (wrap : Bool) (k : IntKind) (n : Int) : Res :=
 match wrap with
 | true => { v := .i k (k.wrap n) }
 | false => { v := .i k n, pre := some (inR k n) }
def bitI (op : BinOp) (k : IntKind) (a b : Int) : Int :=
 match op with
 | .and => k.wrap (BitVec.ofInt k.bits a &&& BitVec.ofInt k.bits b).toNat
 | .or => k.wrap (BitVec.ofInt k.bits a ||| BitVec.ofInt k.bits b).toNat
 | .xor => k.wrap (BitVec.ofInt k.bits a ^^^ BitVec.ofInt k.bits b).toNat
 | .andNot => k.wrap (BitVec.ofInt k.bits a &&& ~~~ BitVec.ofInt k.bits b).toNat
 | _ => 0
def binI (wrap : Bool) (op : BinOp) (k : IntKind) (a b : Int) : Option Res :=
 match op with
 | .add => some (arith wrap k (a + b))
 | .sub => some (arith wrap k (a - b))
 | .mul => some (arith wrap k (a * b))
 | .quo => match wrap with
  | true => some { v := .i k (k.wrap (a.tdiv b)), pre := some (b ≠ 0) }
  | false => some { v := .i k (a / b), pre := some (0 <= a /\ 0 < b /\ inR k (a / b)) }
 | .rem => match wrap with
  | true => some { v := .i k (a.tmod b), pre := some (b ≠ 0) }
  | false => some { v := .i k (a % b), pre := some (0 <= a /\ 0 < b) }
 | .and => some { v := .i k (bitI .and k a b) }
 | .or => some { v := .i k (bitI .or k a b) }
 | .xor => some { v := .i k (bitI .xor k a b) }
 | .andNot => some { v := .i k (bitI .andNot k a b) }
 | .eql => some { v := .b (decide (a = b)) }
 | .neq => some { v := .b (decide (a ≠ b)) }
 | .lss => some { v := .b (decide (a < b)) }
 | .leq => some { v := .b (decide (a <= b)) }
 | .gtr => some { v := .b (decide (b < a)) }
 | .geq => some { v := .b (decide (b <= a)) }
 | _ => none
def shiftI (op : BinOp) (k : IntKind) (a b : Int) : Option Res :=
 match op with
 | .shl => some { v := .i k (k.wrap (a * 2 ^ (min b.toNat k.bits))), pre := some (0 <= b) }
 | .shr => some { v := .i k (a.fdiv (2 ^ (min b.toNat k.bits))), pre := some (0 <= b) }
 | _ => none
def binS (op : BinOp) (a b : ByteArray) : Option Res :=
 match op with
 | .add => some { v := .s (a ++ b), pre := some (a.size + b.size <= 9223372036854775807) }
 | .eql => some { v := .b (a.toList == b.toList) }
 | .neq => some { v := .b (!(a.toList == b.toList)) }
 | .lss => some { v := .b (Op.bytesLess a.toList b.toList) }
 | .leq => some { v := .b (Op.bytesLess a.toList b.toList || a.toList == b.toList) }
 | .gtr => some { v := .b (!(Op.bytesLess a.toList b.toList || a.toList == b.toList)) }
 | .geq => some { v := .b (!Op.bytesLess a.toList b.toList) }
 | _ => none
def isAllInt : List (Nat × TI) -> List (Nat × Nat) -> Nat -> Bool
 | _, [], _ => true
 | T, (off, t) :: r, n => match Nat.beq off n with
  | true => match tget T t with
   | some ⟨.int _, _, _, _⟩ => isAllInt T r (n + 1)
   | _ => false
  | false => false
def lenP : List (Nat × Nat) -> Nat
 | [] => 0
 | _ :: r => lenP r + 1
def allKi (k : IntKind) : List SV -> Bool
 | [] => true
 | .i k' _ :: r => match IntKind.same k k' with | true => allKi k r | false => false
 | _ => false
def eqArrV (T : List (Nat × TI)) (op : BinOp) (m e : Nat) (xs ys : List SV) : Option Res :=
 match tget T e with
 | some ⟨.int k, sz, _, _⟩ => match eqCs xs ys, allKi k xs, allKi k ys, Nat.beq sz 1, Nat.beq (lenL xs) m with
  | some b, true, true, true, true => match op with
   | .eql => some { v := .b b }
   | .neq => some { v := .b (!b) }
   | _ => none
  | _, _, _, _, _ => none
 | _ => none
def evBin (T : List (Nat × TI)) (wrap : Bool) (op : BinOp) (t : Nat) (x y : SV) : Option Res :=
 match x, y with
 | .i k a, .i k' b => match IntKind.same k k' with
  | true => (match binI wrap op k a b with | some r => some r | none => shiftI op k a b)
  | false => shiftI op k a b
 | .s a, .s b => match tget T t with
  | some ⟨.str, _, _, _⟩ => binS op a b
  | _ => none
 | .q _ n, .np => match tget T t with
  | some ⟨.ptr _, _, _, _⟩ => match op with | .eql => some { v := .b (decide (n = 0)) } | .neq => some { v := .b (!decide (n = 0)) } | _ => none
  | _ => none
 | .mp _, .nm => match tget T t with
  | some ⟨.map _ _, _, _, _⟩ => match op with | .eql => some { v := .bt false } | .neq => some { v := .bt true } | _ => none
  | _ => none
 | .b a, .b b => match tget T t with
  | some ⟨.bool, _, _, _⟩ => match op with | .eql => some { v := .b (a == b) } | .neq => some { v := .b (a != b) } | _ => none
  | _ => none
 | .b a, .bt b => match tget T t with
  | some ⟨.bool, _, _, _⟩ => match op with | .eql => some { v := .b (a == b) } | .neq => some { v := .b (a != b) } | _ => none
  | _ => none
 | .bt a, .b b => match tget T t with
  | some ⟨.bool, _, _, _⟩ => match op with | .eql => some { v := .b (a == b) } | .neq => some { v := .b (a != b) } | _ => none
  | _ => none
 | .bt a, .bt b => match tget T t with
  | some ⟨.bool, _, _, _⟩ => match op with | .eql => some { v := .bt (a == b) } | .neq => some { v := .bt (a != b) } | _ => none
  | _ => none
 | .p _ _ _, .np => match tget T t with
  | some ⟨.ptr _, _, _, _⟩ => match op with | .eql => some { v := .bt false } | .neq => some { v := .bt true } | _ => none
  | _ => none
 | .np, .np => match tget T t with
  | some ⟨.ptr _, _, _, _⟩ => match op with | .eql => some { v := .bt true } | .neq => some { v := .bt false } | _ => none
  | _ => none
 | .agg xs, .agg ys => match tget T t with
  | some ⟨.struct fs, size, _, _⟩ => match isAllInt T fs 0, eqCs xs ys, Nat.beq (lenL xs) (lenP fs) with
   | true, some e, true => match op with | .eql => some { v := .b e } | .neq => some { v := .b (!e) } | _ => none
   | _, _, _ => none
  | some ⟨.arr m e, _, _, _⟩ => eqArrV T op m e xs ys
  | _ => none
 | .agg xs, .arr ks n g => match tget T t, arrCells ks g n 0 with
  | some ⟨.arr m e, _, _, _⟩, some ys => eqArrV T op m e xs ys
  | _, _ => none
 | .arr ks n f, .agg ys => match tget T t, arrCells ks f n 0 with
  | some ⟨.arr m e, _, _, _⟩, some xs => eqArrV T op m e xs ys
  | _, _ => none
 | .q _ n, .q _ n' => match tget T t with
  | some ⟨.ptr _, _, _, _⟩ => match op with
   | .eql => some { v := .b (decide (n = 0 /\ n' = 0)), pre := some (n = 0 ∨ n' = 0) }
   | .neq => some { v := .b (!decide (n = 0 /\ n' = 0)), pre := some (n = 0 ∨ n' = 0) }
   | _ => none
  | _ => none
 | .arr ks n f, .arr ks' n' g => match tget T t with
  | some ⟨.arr m e, _, _, _⟩ => match tget T e, ks, ks', Nat.beq n m, Nat.beq n' m with
   | some ⟨.int k, sz, _, _⟩, [.int k1], [.int k2], true, true => match IntKind.same k k1, IntKind.same k k2, Nat.beq sz 1 with
    | true, true, true => match op with
     | .eql => some { v := .b (decide (∀ r, r < n -> (f r 0).toI = (g r 0).toI)) }
     | .neq => some { v := .b (!decide (∀ r, r < n -> (f r 0).toI = (g r 0).toI)) }
     | _ => none
    | _, _, _ => none
   | _, _, _, _, _ => none
  | _ => none
 | .sl _ _ len, .ns => match tget T t with
  | some ⟨.slice _, _, _, _⟩ => match op with
   | .eql => some { v := .bt false, pre := some (1 <= len) }
   | .neq => some { v := .bt true, pre := some (1 <= len) }
   | _ => none
  | _ => none
 | .ns, .ns => match tget T t with
  | some ⟨.slice _, _, _, _⟩ => match op with
   | .eql => some { v := .bt true }
   | .neq => some { v := .bt false }
   | _ => none
  | _ => none
 | _, _ => none
def newOk (G : Hp) : List (Nat × Blk) -> Bool
 | [] => true
 | (l, _) :: r => match G l, Nat.blt l 100000, newOk G r with | none, true, true => true | _, _, _ => false
def keysB : List (Nat × Blk) -> List Nat
 | [] => []
 | (l, _) :: r => l :: keysB r
def memB : List Nat -> Nat -> Bool
 | [], _ => false
 | x :: r, l => match Nat.beq x l with | true => true | false => memB r l
def diffB : List Nat -> Bool
 | [] => true
 | x :: r => match memB r x with | true => false | false => diffB r
def isNil : List (Nat × Blk) -> Bool
 | [] => true
 | _ => false
def evRow (G : Hp) (d : Option Nat) (ti : TI) (ks : List Kd) (g : Nat -> D) (c : Nat) (rd : List Nat) (pre : Option Prop) : Option Res :=
 match d with
 | some d => match ti.mk' (rowSV d ks g c 0), newOk G (rowW d ks g c 0), diffB (keysB (rowW d ks g c 0)) with
  | some v, true, true => some { v := v, wr := rowW d ks g c 0, rd := rd ++ keysB (rowW d ks g c 0), pre := pre }
  | _, _, _ => none
 | none => none
def evLoad (T : List (Nat × TI)) (G : Hp) (d : Option Nat) (ti : TI) : SV -> Option Res
 | .p l r c => match G l with
  | some (.one _ cs) => match Nat.beq r 0, Nat.ble (c + ti.size) (lenL cs), ti.mk' (takeL ti.size (dropL c cs)) with
   | true, true, some v => some { v := v, rd := [l] }
   | _, _, _ => none
  | some (.rows _ ks n f) => match Nat.ble (c + ti.size) (lenK ks) with
   | true => evRow G d ti (takeK ti.size (dropK c ks)) (f r) c [l] (some (r < n))
   | false => match ti.d with
    | .arr m e => match tget T e with
     | some te => match Nat.beq te.size (lenK ks), Nat.beq ti.size (m * te.size), Nat.beq c 0 with
      | true, true, true => some { v := .arr ks m f, rd := [l], pre := some (r = 0 /\ m <= n) }
      | _, _, _ => none
     | none => none
    | _ => none
  | _ => none
 | _ => none
def evStore (T : List (Nat × TI)) (G : Hp) (ti : TI) (x v : SV) : Option Res :=
 match x with
 | .p l r c => match G l with
  | some (.one .own cs) => match v.cells with
   | some vs => match Nat.beq (lenL vs) ti.size, allC vs, Nat.beq r 0, Nat.ble (c + ti.size) (lenL cs) with
    | true, true, true, true => some { v := .u, wr := [(l, .one .own (splice cs c vs))], rd := [l] }
    | _, _, _, _ => none
   | none => none
  | some (.rows .own ks n f) => match Nat.ble (c + ti.size) (lenK ks) with
   | true => match v.cells with
    | some vs => match Nat.beq (lenL vs) ti.size, allC vs, toDs G (takeK ti.size (dropK c ks)) vs with
     | true, true, some (ds, ps) => some { v := .u, wr := [(l, .rows .own ks n (setRow f r c ds))], rd := l :: labsL vs, pre := some (r < n /\ allP ps) }
     | _, _, _ => none
    | none => none
   | false => match v, ti.d with
    | .arr ks' m g, .arr m' e => match tget T e with
     | some te => match kdsSame ks ks', Nat.beq te.size (lenK ks), Nat.beq ti.size (m * te.size), Nat.beq c 0 with
      | true, true, true, true => some { v := .u, wr := [(l, .rows .own ks n g)], rd := [l], pre := some (r = 0 /\ m = n) }
      | _, _, _, _ => none
     | none => none
    | _, _ => none
  | _ => none
 | _ => none
def newAt (G : Hp) (d : Option Nat) (b : Blk) (v : Nat -> SV) (rd : List Nat) (pre : Option Prop) : Option Res :=
 match d with
 | none => none
 | some d => match G d with
  | some _ => none
  | none => some { v := v d, wr := [(d, b)], rd := d :: rd, pre := pre }
def nthF : List (Nat × Nat) -> Nat -> Option (Nat × Nat)
 | [], _ => none
 | x :: _, 0 => some x
 | _ :: xs, n + 1 => nthF xs n
def nthL : List SV -> Nat -> Option SV
 | [], _ => none
 | x :: _, 0 => some x
 | _ :: xs, n + 1 => nthL xs n
def fillL (T : List (Nat × TI)) (place : Nat -> Option (Nat × Nat)) (F : Fr) : List SV -> List (Nat × Operand) -> Option (List SV)
 | cs, [] => some cs
 | cs, (i, x) :: r => match place i, (oa F x).cells with
  | some (off, size), some vs => match Nat.beq (lenL vs) size, Nat.ble (off + size) (lenL cs) with
   | true, true => fillL T place F (splice cs off vs) r
   | _, _ => none
  | _, _ => none
def placeS (T : List (Nat × TI)) (fs : List (Nat × Nat)) (i : Nat) : Option (Nat × Nat) :=
 match nthF fs i with
 | some (off, t) => match tget T t with | some ti => some (off, ti.size) | none => none
 | none => none
def minI : List SV -> IntKind -> Int -> Option Int
 | [], _, a => some a
 | .i k' b :: r, k, a => match IntKind.same k k' with | true => minI r k (min a b) | false => none
 | _, _, _ => none
def maxI : List SV -> IntKind -> Int -> Option Int
 | [], _, a => some a
 | .i k' b :: r, k, a => match IntKind.same k k' with | true => maxI r k (max a b) | false => none
 | _, _, _ => none
def optI (F : Fr) (d : Int) : Option Operand -> Option Int
 | none => some d
 | some x => match oa F x with | .i _ n => some n | _ => none
def maxRows : Nat := 1073741824
def rowsMax (b : Nat) : Nat := match Nat.beq b 136 with | true => 1034834473171 | false => 1073741824
def strRows (x : ByteArray) : Nat -> Nat -> D := fun r _ => .i (x.data.getD r 0).toNat
def strOf (n : Nat) (f : Nat -> Nat -> D) : ByteArray := ⟨((List.range n).map fun r => UInt8.ofNat (f r 0).toI.toNat).toArray⟩
def appSrc (G : Hp) (ks : List Kd) : SV -> Option (List Nat × Nat × Nat × Nat × (Nat -> Nat -> D))
 | .sl l lo len => match G l with
  | some (.rows _ ks' n f) => match kdsSame ks ks' with | true => some ([l], lo, len, n, f) | false => none
  | _ => none
 | .ns => some ([], 0, 0, 0, fun _ _ => .i 0)
 | _ => none
def mget1 (keys : List Int) (f : Int -> Nat -> D) (z : Nat -> D) (k : Int) : Nat -> D := fun c => if k ∈ keys then f k c else z c
def mset (f : Int -> Nat -> D) (k : Int) (g : Nat -> D) : Int -> Nat -> D := fun x => if x = k then g else f x
def madd1 (keys : List Int) (k : Int) : List Int := if k ∈ keys then keys else keys ++ [k]
def keyK (T : List (Nat × TI)) (k : Nat) (kk : IntKind) : Bool := match tget T k with | some ⟨.int kk', _, _, _⟩ => IntKind.same kk kk' | _ => false
def aggV : SV -> Bool | .agg _ => true | .arr _ _ _ => true | _ => false
def mdel (keys : List Int) (k : Int) : List Int := keys.erase k
def evBuiltin (T : List (Nat × TI)) (G : Hp) (d : Option Nat) (b : Builtin) (tys : List Nat) (args : List SV) : Option Res :=
 match b, tys, args with
 | .len, t :: _, [x] => match tget T t, x with
  | some ⟨.slice _, _, _, _⟩, .sl _ _ len => some { v := .i .i64 len }
  | some ⟨.slice _, _, _, _⟩, .ns => some { v := .i .i64 0 }
  | some ⟨.str, _, _, _⟩, .s x => some { v := .i .i64 x.size }
  | some ⟨.arr n _, _, _, _⟩, _ => some { v := .i .i64 n }
  | some ⟨.map _ _, _, _, _⟩, .mp l => match G l with
   | some (.map _ _ _ _ keys _) => some { v := .i .i64 keys.length, rd := [l] }
   | _ => none
  | _, _ => none
 | .min, _, .i k a :: r => match minI r k a with | some m => some { v := .i k m } | none => none
 | .max, _, .i k a :: r => match maxI r k a with | some m => some { v := .i k m } | none => none
 | .append, [t, t2], [x, y] => match tget T t, tget T t2 with
  | some ⟨.slice e, _, _, _⟩, some ⟨.slice _, _, _, _⟩ => match tget T e with
   | some ti => match kdsE T e ti, Nat.ble ti.bytes 1024, Nat.ble 1 ti.size with
    | some ks, true, true =>
     match appSrc G ks y with
     | none => none
     | some (rd, lo2, m, n2, g) => match x with
      | .ns => newAt G d (.rows .own ks m (appRows 0 (fun _ _ => .i 0) lo2 g)) (fun d => .sl d 0 m) rd (some (lo2 + m <= n2 /\ m <= rowsMax ti.bytes))
      | .sl l lo n => match G l, d with
       | some (.rows .own ks' n' f), some d => match kdsSame ks ks', G d with
        | true, none => some { v := .sl d 0 (n + m), wr := [(d, .rows .own ks (n + m) (appRows n f lo2 g)), (l, .dead)], rd := d :: l :: rd, pre := some (lo = 0 /\ n <= n' /\ lo2 + m <= n2 /\ n + m <= rowsMax ti.bytes) }
        | _, _ => none
       | _, _ => none
      | _ => none
    | _, _, _ => none
   | none => none
  | _, _ => none
 | .delete, t :: _, [.mp l, .i kk n] => match tget T t, G l with
  | some ⟨.map k _, _, _, _⟩, some (.map .own kk' ks agg keys f) => match keyK T k kk && IntKind.same kk kk' with
   | true => some { v := .tup [], wr := [(l, .map .own kk' ks agg (mdel keys n) f)], rd := [l] }
   | false => none
  | _, _ => none
 | _, _, _ => none
def rowsOf (G : Hp) (ks : List Kd) (F : Fr) : List (Nat × Operand) -> Nat -> Option (List (List D) × List Prop)
 | [], _ => some ([], [])
 | (i, x) :: r, k => match Nat.beq i k, (oa F x).cells with
  | true, some cs => match toDs G ks cs, rowsOf G ks F r (k + 1) with
   | some (ds, ps), some (rs, qs) => some (ds :: rs, allP ps :: qs)
   | _, _ => none
  | _, _ => none
def lenR : List (List D) -> Nat
 | [] => 0
 | _ :: r => lenR r + 1
def labsO (F : Fr) : List (Nat × Operand) -> List Nat
 | [] => []
 | (_, x) :: r => (oa F x).labs ++ labsO F r
def ev (T : List (Nat × TI)) (wraps : List Nat) (F : Fr) (G : Hp) (o : Oper) : Option Res :=
 match o.op with
 | .move x => some { v := oa F x }
 | .assign x => some { v := oa F x }
 | .alloc t => match tget T t with
  | some ti => match ti.d with
   | .arr n e => match tget T e with
    | some te => match kdsE T e te, Nat.beq ti.size (n * te.size), Nat.ble 1 n, kdsZero T e n ti.zero with
     | some ks, true, true, true => newAt G o.dst (.rows .own ks n (fun _ j => zRow ks j)) (fun d => .p d 0 0) [] none
     | _, _, _, _ => none
    | none => none
   | _ => newAt G o.dst (.one .own ti.zero) (fun d => .p d 0 0) [] none
  | none => none
 | .box t x => match oa F x with
  | .arr ks n f => match Nat.ble 1 n with | true => newAt G o.dst (.rows .own ks n f) (fun d => .p d 0 0) [] none | false => none
  | x => match x.cells with | some cs => newAt G o.dst (.one .own cs) (fun d => .p d 0 0) [] none | none => none
 | .build t ps => match tget T t with
  | some ⟨.struct fs, _, _, z⟩ => match fillL T (placeS T fs) F z ps.toList with | some cs => some { v := .agg cs } | none => none
  | some ⟨.arr n e, size, _, z⟩ => match tget T e with
   | some te => match kdsE T e te, Nat.beq size (n * te.size), Nat.ble 1 te.size, kdsZero T e n z with
    | some ks, true, true, true => match ps.toList with
     | [] => some { v := .arr ks n (fun _ j => zRow ks j) }
     | _ => match rowsOf G ks F ps.toList 0 with
      | some (rs, qs) => match Nat.beq (lenR rs) n with
       | true => some { v := .arr ks n (litRows rs), rd := labsO F ps.toList, pre := some (allP qs) }
       | false => none
      | none => none
    | _, _, _, _ => none
   | none => none
  | _ => none
 | .buildSlice t n ps => match tget T t with
  | some ⟨.slice e, _, _, _⟩ => match tget T e with
   | some ti => match kdsE T e ti with
    | some ks => match rowsOf G ks F ps.toList 0, Nat.ble 1 ti.size, Nat.ble (n * ti.size) 16777216 with
     | some (rs, qs), true, true => match Nat.beq (lenR rs) n with
      | true => newAt G o.dst (.rows .own ks n (litRows rs)) (fun d => .sl d 0 n) (labsO F ps.toList) (some (allP qs))
      | false => none
     | _, _, _ => none
    | none => none
   | none => none
  | _ => none
 | .load t x => match tget T t with | some ti => evLoad T G o.dst ti (oa F x) | none => none
 | .store t x v => match tget T t with | some ti => evStore T G ti (oa F x) (oa F v) | none => none
 | .nilCheck x => match oa F x with
  | .p l r c => some { v := .p l r c }
  | .fn f cs => some { v := .fn f cs }
  | .q l n => some { v := .p l 0 0, pre := some (n ≠ 0) }
  | _ => none
 | .fieldAddr t x i => match tget T t, oa F x with
  | some ⟨.struct fs, _, _, _⟩, .p l r c => match placeS T fs i with | some (off, _ + 1) => some { v := .p l r (c + off) } | _ => none
  | _, _ => none
 | .field t x i => match tget T t, oa F x with
  | some ⟨.struct fs, _, _, _⟩, .agg cs => match nthF fs i with
   | some (off, ft) => match tget T ft with
    | some ti => match Nat.ble (off + ti.size) (lenL cs), ti.mk' (takeL ti.size (dropL off cs)) with | true, some v => some { v := v } | _, _ => none
    | none => none
   | none => none
  | _, _ => none
 | .indexAddr t x i => match tget T t, oa F x, oa F i with
  | some ⟨.slice e, _, _, _⟩, .sl l lo len, .i _ n => match tget T e, G l with
   | some ti, some (.rows _ ks _ _) => match Nat.beq ti.size (lenK ks) with
    | true => some { v := .p l (lo + n.toNat) 0, rd := [l], pre := some (0 <= n /\ n < len) }
    | false => none
   | _, _ => none
  | some ⟨.arr m e, _, _, _⟩, .p l r c, .i _ n => match tget T e, G l with
   | some ti, some (.rows _ ks _ _) => match Nat.beq ti.size (lenK ks), Nat.beq c 0, Nat.ble 2 m with
    | true, true, true => some { v := .p l (r + n.toNat) 0, rd := [l], pre := some (0 <= n /\ n < m) }
    | _, _, _ => none
   | _, _ => none
  | _, _, _ => none
 | .index t x i => match tget T t, oa F x, oa F i with
  | some ⟨.str, _, _, _⟩, .s x, .i _ n => some { v := .i .u8 (x.data.getD n.toNat 0).toNat, pre := some (0 <= n /\ n < x.size) }
  | some ⟨.arr m e, _, _, _⟩, .arr ks m' f, .i _ n => match tget T e, o.dst with
   | some ti, some d => match Nat.beq ti.size (lenK ks), Nat.beq m m', Nat.ble 1 ti.size with
    | true, true, true => evRow G (some d) ti ks (f n.toNat) 0 [] (some (0 <= n /\ n < m))
    | _, _, _ => none
   | _, _ => none
  | _, _, _ => none
 | .binOp op t x y _ => evBin T (match o.dst with | some d => wraps.any (Nat.beq d) | none => false) op t (oa F x) (oa F y)
 | .unOp op _ x => match op, oa F x with
  | .not, .b v => some { v := .b (!v) }
  | .not, .bt v => some { v := .bt (!v) }
  | .neg, .i k n => some (arith (match o.dst with | some d => wraps.any (Nat.beq d) | none => false) k (0 - n))
  | _, _ => none
 | .convert s t x => match tget T s, tget T t, oa F x with
  | some _, some ⟨.int k, _, _, _⟩, .i _ n => some (arith (match o.dst with | some d => wraps.any (Nat.beq d) | none => false) k n)
  | _, _, _ => none
 | .makeSlice t x y => match tget T t, oa F x, oa F y with
  | some ⟨.slice e, _, _, _⟩, .i _ n, .i _ c => match tget T e with
   | some ti => match kdsE T e ti, Nat.ble ti.bytes 1024, Nat.ble 1 ti.size with
    | some ks, true, true => newAt G o.dst (.rows .own ks n.toNat (fun _ j => zRow ks j)) (fun d => .sl d 0 n.toNat) [] (some (0 <= n /\ n <= c /\ c <= maxRows))
    | _, _, _ => none
   | none => none
  | _, _, _ => none
 | .slice t x lo hi mx => match tget T t, mx with
  | some ⟨.slice e, _, _, _⟩, none => match oa F x with
   | .sl l a len => match tget T e, G l with
    | some ti, some (.rows _ ks _ _) => match optI F 0 lo, optI F len hi, Nat.beq ti.size (lenK ks) with
     | some p, some q, true => some { v := .sl l (a + p.toNat) (q.toNat - p.toNat), rd := [l], pre := some (0 <= p /\ p <= q /\ q <= len) }
     | _, _, _ => none
    | _, _ => none
   | _ => none
  | some ⟨.str, _, _, _⟩, none => match oa F x with
   | .s x => match optI F 0 lo, optI F x.size hi with
    | some p, some q => some { v := .s (x.extract p.toNat q.toNat), pre := some (0 <= p /\ p <= q /\ q <= x.size) }
    | _, _ => none
   | _ => none
  | _, _ => none
 | .extract x i => match oa F x with
  | .tup cs => (match nthL cs i with | some v => some { v := v } | none => none)
  | _ => none
 | .makeFunc (.func f) first caps => match first.toList with
  | [] => some { v := .fn f (caps.toList.map (oa F)) }
  | _ :: _ => match caps.toList with
   | [] => some { v := .bm f (first.toList.map (oa F)) }
   | _ => none
 | .makeMap t _ => match tget T t with
  | some ⟨.map k e, _, _, _⟩ => match tget T k, tget T e with
   | some ⟨.int kk, _, _, _⟩, some ti => match kdsE T e ti, o.op with
    | some ks, .makeMap _ none => newAt G o.dst (.map .own kk ks ti.isAgg [] (fun _ j => zRow ks j)) (fun d => .mp d) [] none
    | _, _ => none
   | _, _ => none
  | _ => none
 | .lookup t x i commaOk => match tget T t, oa F x, oa F i with
  | some ⟨.map k e, _, _, _⟩, .mp l, .i kk n => match tget T e, G l, o.dst with
   | some ti, some (.map _ kk' ks agg keys f), some d => match keyK T k kk && IntKind.same kk kk', kdsE T e ti with
    | true, some ks' => match kdsSame ks ks', ti.isAgg == agg, evRow G (some d) ti ks (mget1 keys f (zRow ks) n) 0 [l] none with
     | true, true, some r => match commaOk with
      | true => some { r with v := .tup [r.v, .b (decide (n ∈ keys))] }
      | false => some r
     | _, _, _ => none
    | _, _ => none
   | _, _, _ => none
  | _, _, _ => none
 | .mapUpdate t x i v => match tget T t, oa F x, oa F i, (oa F v).cells with
  | some ⟨.map k e, _, _, _⟩, .mp l, .i kk n, some vs => match tget T e, G l with
   | some ti, some (.map .own kk' ks agg keys f) => match keyK T k kk && IntKind.same kk kk', Nat.beq (lenL vs) (lenK ks), allC vs, toDs G ks vs, aggV (oa F v) == agg with
    | true, true, true, some (ds, ps), true => some { v := .u, wr := [(l, .map .own kk' ks agg (madd1 keys n) (mset f n (fun j => ds.getD j (.i 0))))], rd := l :: labsL vs, pre := some (allP ps) }
    | _, _, _, _, _ => none
   | _, _ => none
  | _, _, _, _ => none
 | .call { callee := .builtin b, args, argTypes } => evBuiltin T G o.dst b argTypes.toList (args.toList.map (oa F))
 | _ => none
end Go.Sym
