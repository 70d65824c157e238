/- The engine of the proof: a symbolic walk over the model's code, and that it is sound; no statement of any program stands here. -/
import Derived.Test.YtofigelofojjlaaXA
/- Contracts, loops' invariants, and the walk over code: what is left to show. Definitions alone. -/
namespace Go.Sym
set_option linter.unusedVariables false
set_option linter.unusedSimpArgs false

/-- The walk can't go on: why, and at which slot. -/
inductive Stuck (why slot : Nat) : Prop
theorem Stuck.elim {a b : Nat} {α : Prop} (h : Stuck a b) : α := by cases h
def bN (a b c d e : Bool) : Nat := (cond a 1 0) + (cond b 2 0) + (cond c 4 0) + (cond d 8 0) + (cond e 16 0)
/-- A condition that an operation leaves. -/
abbrev ob (_slot : Nat) (p : Prop) : Prop := p
def dN (d : Option Nat) : Nat := match d with | some d => d | none => 999999

/-- A loop's states: for each x that is ok, a frame and a heap; a measure that each round lowers. -/
structure Inv where
  X : Type
  ok : X → Prop
  fr : X → List (Nat × SV)
  hp : X → List (Nat × Blk)
  me : X → Nat
  /-- the loops within, at each of the states -/
  inn : X → Nat → Option Inv := fun _ _ => none

/-- A contract, over labels of its own. -/
structure CT where
  X : Type
  pre : X → Prop
  args : X → List SV
  g0 : X → List (Nat × Blk)
  res : X → SV
  g1 : X → List (Nat × Blk)

mutual
def ren (m : Nat → Nat) : SV → SV
  | .p l r c => .p (m l) r c
  | .q l n => .q (m l) n
  | .sl l a b => .sl (m l) a b
  | .mp l => .mp (m l)
  | .fn f cs => .fn f (renL m cs)
  | .agg cs => .agg (renL m cs)
  | .tup cs => .tup (renL m cs)
  | .u => .u
  | .i k n => .i k n
  | .b v => .b v
  | .bt v => .bt v
  | .s v => .s v
  | .np => .np
  | .ns => .ns
  | .nm => .nm
  | .nf => .nf
  | .arr k n f => .arr k n f
def renL (m : Nat → Nat) : List SV → List SV
  | [] => []
  | c :: cs => ren m c :: renL m cs
end
def Blk.ren (m : Nat → Nat) : Blk → Blk
  | .dead => .dead
  | .one b cs => .one b (renL m cs)
  | .rows b ks n f => .rows b ks n f
  | .map b kk ks a keys f => .map b kk ks a keys f
def renH (m : Nat → Nat) : List (Nat × Blk) → List (Nat × Blk)
  | [] => []
  | (l, b) :: r => (m l, b.ren m) :: renH m r

mutual
/-- Two data are the same cell. -/
def Kd.eqv : Kd → D → D → Prop
  | .int _, a, b => a.toI = b.toI
  | .bool, a, b => a.toB = b.toB
  | .str, a, b => a.toS = b.toS
  | .sl ks, a, b => a.toN = b.toN ∧ ∀ r, r < a.toN → rowEq ks (a.toF r) (b.toF r) 0
  | .pt _ ks, a, b => a.toN = b.toN ∧ ∀ r, r < a.toN → rowEq ks (a.toF r) (b.toF r) 0
def rowEq : List Kd → (Nat → D) → (Nat → D) → Nat → Prop
  | [], _, _, _ => True
  | k :: ks, g, h, c => k.eqv (g c) (h c) ∧ rowEq ks g h (c + 1)
end
/-- The first n rows are alike. -/
structure RowsEq (ks : List Kd) (n : Nat) (f g : Nat → Nat → D) : Prop where
  h : ∀ r, r < n → rowEq ks (f r) (g r) 0
/-- Two maps' contents are alike. -/
structure MapEq (ks : List Kd) (keys keys' : List Int) (f g : Int → Nat → D) : Prop where
  p : keys.Perm keys'
  h : ∀ k ∈ keys', rowEq ks (f k) (g k) 0

/-- One symbolic value says at least what another says. 'none? l': the state at hand knows nothing of label l. -/
def none? (G : Hp) (l : Nat) : Prop := match G l with | none => True | some _ => False
mutual
def Ent (G : Hp) : SV → SV → Prop
  | _, .u => True
  | .i k n, .i k' n' => match IntKind.same k k' with | true => n = n' | false => False
  | .b x, .b y => x = y
  | .bt x, .b y => x = y
  | .bt x, .bt y => x = y
  | .s x, .s y => x = y
  | .p l r c, .p l' r' c' => match Nat.beq l l' with | true => r = r' ∧ c = c' | false => False
  | .q l n, .q l' n' => match Nat.beq l l' with | true => n = n' | false => False
  | .p l r c, .q l' n' => match Nat.beq l l' with | true => r = 0 ∧ c = 0 ∧ n' ≠ 0 | false => False
  | .np, .q _ n' => n' = 0
  | .np, .np => True
  | .sl l a b, .sl l' a' b' => match Nat.beq l l' with | true => a = a' ∧ b = b' | false => False
  | .ns, .sl l' a' b' => none? G l' ∧ a' = 0 ∧ b' = 0
  | .ns, .ns => True
  | .mp l, .mp l' => match Nat.beq l l' with | true => True | false => False
  | .nm, .nm => True
  | .nf, .nf => True
  | .fn f cs, .fn f' cs' => match Nat.beq f f' with | true => EntL G cs cs' | false => False
  | .agg cs, .agg cs' => EntL G cs cs'
  | .tup cs, .tup cs' => EntL G cs cs'
  | .arr ks n f, .arr ks' n' f' => match kdsSame ks ks' with | true => n = n' ∧ RowsEq ks n' f f' | false => False
  | _, _ => False
def EntL (G : Hp) : List SV → List SV → Prop
  | [], [] => True
  | a :: as, b :: bs => Ent G a b ∧ EntL G as bs
  | _, _ => False
end

/-- A block of b rows holds one of a rows. -/
structure RLe (a b : Nat) : Prop where
  h : a ≤ b
/-- May a block be taken for one of that mode? -/
def Md.le : Md → Md → Bool
  | .own, .own => true
  | .own, _ => false
  | .fz, .fz => true
  | .fz, _ => false
  | .bor, _ => true
def EntB (G : Hp) (l : Nat) (b' : Blk) : Prop :=
  match b' with
  | .dead => True
  | .one m' cs' => match G l with
    | some (.one m cs) => match Md.le m' m, Nat.beq (lenL cs) (lenL cs') with
      | true, true => EntL G cs cs'
      | _, _ => False
    | _ => False
  | .rows m' ks' n' f' => match G l with
    | some (.rows m ks n f) => match Md.le m' m, kdsSame ks ks' with
      | true, true => RLe n' n ∧ RowsEq ks n' f f'
      | _, _ => False
    | none => n' = 0
    | _ => False
  | .map m' kk' ks' a' keys' f' => match G l with
    | some (.map m kk ks a keys f) => match Md.le m' m, IntKind.same kk kk', kdsSame ks ks', a == a' with
      | true, true, true, true => MapEq ks keys keys' f f'
      | _, _, _, _ => False
    | _ => False
def EntH (G : Hp) : List (Nat × Blk) → Prop
  | [] => True
  | (l, b) :: r => EntB G l b ∧ EntH G r
def EntF (F : Fr) (G : Hp) : List (Nat × SV) → Prop
  | [] => True
  | (t, v) :: r => Ent G (F t) v ∧ EntF F G r

def defd (hp : List (Nat × Blk)) : List Nat → Bool
  | [] => true
  | l :: r => match hget hp l with | some _ => defd hp r | none => false
def scopeF (hp : List (Nat × Blk)) : List (Nat × SV) → Bool
  | [] => true
  | (_, v) :: r => match defd hp v.labs with | true => scopeF hp r | false => false
def scopeH (hp : List (Nat × Blk)) : List (Nat × Blk) → Bool
  | [] => true
  | (_, b) :: r => match defd hp b.labs with | true => scopeH hp r | false => false
/-- Labels handed over are there. -/
def greatIn (G : Hp) : List Nat → Bool
  | [] => true
  | l :: r => match Nat.ble 100000 l with
    | true => (match G l with | some _ => greatIn G r | none => false)
    | false => greatIn G r
/-- The state at hand is one of the states of 'fr', 'hp'. -/
def EntS (F : Fr) (G : Hp) (fr : List (Nat × SV)) (hp : List (Nat × Blk)) : Prop :=
  match scopeF hp fr, scopeH hp hp with
  | true, true => EntF F G fr ∧ EntH G hp
  | _, _ => False

/-- Where the labels of a contract lie at a call. -/
def mget : List (Nat × Nat) → Nat → Nat
  | [], l => l
  | (k, v) :: r, l => match Nat.beq k l with | true => v | false => mget r l
def keys : List (Nat × Blk) → List Nat
  | [] => []
  | (l, _) :: r => l :: keys r
def memN : List Nat → Nat → Bool
  | [], _ => false
  | x :: r, l => match Nat.beq x l with | true => true | false => memN r l
/-- Labels that come new: of g1, not of g0. -/
def newLs (g0 : List Nat) : List Nat → List Nat
  | [] => []
  | l :: r => match memN g0 l with | true => newLs g0 r | false => l :: newLs g0 r
def freshLs (G : Hp) (m : Nat → Nat) : List Nat → Bool
  | [] => true
  | l :: r => match G (m l) with | none => freshLs G m r | some _ => false
def diff : List Nat → Bool
  | [] => true
  | x :: r => match memN r x with | true => false | false => diff r
def mapN (m : Nat → Nat) : List Nat → List Nat
  | [] => []
  | x :: r => m x :: mapN m r

/-- What is known of a function: a contract, or one of several, chosen by the arguments at hand. -/
inductive Con where
  | one (ct : CT)
  | two (sel : List SV → Hp → Bool) (a b : Con)
def Con.Has : Con → CT → Prop
  | .one c, ct => c = ct
  | .two _ a b, ct => a.Has ct ∨ b.Has ct

structure Cfg where
  T : List (Nat × TI)
  wraps : List Nat
  C : List (Nat × Con)
  invs : Nat → Option Inv
  /-- how many of the function's slots have names: only those are kept at a loop's head -/
  vars : Nat := 0

def cget : List (Nat × Con) → Nat → Option Con
  | [], _ => none
  | (k, v) :: r, t => match Nat.beq k t with | true => some v | false => cget r t

/-- What an operation looked at, and wrote, of the heap. -/
structure FP where
  rd : List Nat
  wr : List Nat

/-- The labels that may be written stand in g1. -/
def mutOk (g1 : List Nat) : List (Nat × Blk) → Bool
  | [] => true
  | (l, b) :: r => match b.mut, memN g1 l with | true, false => false | _, _ => mutOk g1 r
def apL : List Nat → List Nat → List Nat
  | [], ys => ys
  | x :: xs, ys => x :: apL xs ys

/-- A call by its contract, at an instance: what is to be shown, and what it comes to. -/
structure CallOk (ct : CT) (args : List SV) (G : Hp) (x : ct.X) (m : Nat → Nat) : Prop where
  pre : ct.pre x
  args : EntL G args (renL m (ct.args x))
  heap : EntH G (renH m (ct.g0 x))

/-- Labels of which the heap at hand knows nothing (nil slices that were handed over): they are laid down as they are. -/
def absL (G : Hp) (m : Nat → Nat) : List (Nat × Blk) → List (Nat × Blk)
  | [] => []
  | (l, b) :: r => match G (m l) with | none => (m l, b.ren m) :: absL G m r | some _ => absL G m r
/-- Labels that come new are small: the great ones are those that a function was handed. -/
def smallLs (G : Hp) (m : Nat → Nat) : List Nat → Bool
  | [] => true
  | l :: r => match G (m l) with | some _ => smallLs G m r | none => match Nat.blt (m l) 100000 with | true => smallLs G m r | false => false
/-- Does a contract bring a label that may lie where something lent lies? -/
def newBor (g0 : List Nat) : List (Nat × Blk) → Bool
  | [] => false
  | (l, b) :: r => match memN g0 l with
    | true => newBor g0 r
    | false => match b with
      | .one .bor _ | .rows .bor _ _ _ | .map .bor _ _ _ _ _ | .map .fz _ _ _ _ _ => true
      | _ => newBor g0 r
/-- What is lent is not our own. -/
def lentOk (G : Hp) (m : Nat → Nat) : List (Nat × Blk) → Bool
  | [] => true
  | (l, b) :: r => match b.mut with
    | true => lentOk G m r
    | false => match G (m l) with
      | some b' => (match b'.mut with | true => false | false => lentOk G m r)
      | none => lentOk G m r
def aliasOk (G : Hp) (m : Nat → Nat) (g0 g1 : List (Nat × Blk)) : Bool := match newBor (keys g0) g1 with | true => lentOk G m g0 | false => true
/-! Labels may lie on one another where nobody writes. -/
def mflag (g : List (Nat × Blk)) (l : Nat) : Bool := match hget g l with | some b => b.mut | none => false
def mfl (m : Nat → Nat) (g : List (Nat × Blk)) : List Nat → List (Nat × Bool) → List (Nat × Bool)
  | [], t => t
  | l :: r, t => (m l, mflag g l) :: mfl m g r t
/-- Labels whose blocks are not dead. -/
def liveLs (g : List (Nat × Blk)) : List Nat → List Nat
  | [] => []
  | l :: r => match hget g l with | some .dead => liveLs g r | _ => l :: liveLs g r
def mft (m : Nat → Nat) : List Nat → List (Nat × Bool)
  | [] => []
  | l :: r => (m l, true) :: mft m r
def memF (l : Nat) (g : Bool) : List (Nat × Bool) → Bool
  | [] => false
  | (x, f) :: r => match Nat.beq x l with
    | true => (match f, g with | false, false => memF l g r | _, _ => true)
    | false => memF l g r
def diffF : List (Nat × Bool) → Bool
  | [] => true
  | (x, f) :: r => match memF x f r with | true => false | false => diffF r
def callSt (ct : CT) (G : Hp) (x : ct.X) (m : Nat → Nat) : Bool :=
  match diffF (mfl m (ct.g0 x) (keys (ct.g0 x)) (mft m (newLs (keys (ct.g0 x)) (keys (ct.g1 x))))), freshLs G m (newLs (keys (ct.g0 x)) (keys (ct.g1 x))), smallLs G m (apL (keys (ct.g0 x)) (newLs (keys (ct.g0 x)) (keys (ct.g1 x)))), aliasOk G m (ct.g0 x) (ct.g1 x) with
  | true, true, true, true => true
  | _, _, _, _ => false
def appH : List (Nat × Blk) → List (Nat × Blk) → List (Nat × Blk)
  | [], ys => ys
  | x :: xs, ys => x :: appH xs ys

/-! Which label stands for which: found by laying two values side by side. -/
abbrev ML := List (Nat × Nat)
def mhas : ML → Nat → Bool
  | [], _ => false
  | (k, _) :: r, l => match Nat.beq k l with | true => true | false => mhas r l
def lenM : ML → Nat
  | [] => 0
  | _ :: r => lenM r + 1
def madd (l l' : Nat) (m : ML) : ML := match mhas m l with | true => m | false => match Nat.beq l l' with | true => m | false => (l, l') :: m
def mfresh (d l : Nat) (m : ML) : ML := match mhas m l with | true => m | false => (l, d + 2000 * (24 + lenM m)) :: m
mutual
def mV (d : Nat) : SV → SV → ML → ML
  | .p l _ _, v, m => match v with | .p l' _ _ => madd l l' m | _ => m
  | .q l _, v, m => match v with | .q l' _ => madd l l' m | .p l' _ _ => madd l l' m | .np => mfresh d l m | _ => m
  | .sl l _ _, v, m => match v with | .sl l' _ _ => madd l l' m | .ns => mfresh d l m | _ => m
  | .mp l, v, m => match v with | .mp l' => madd l l' m | _ => m
  | .fn _ cs, v, m => match v with | .fn _ cs' => mL d cs cs' m | _ => m
  | .agg cs, v, m => match v with | .agg cs' => mL d cs cs' m | _ => m
  | .tup cs, v, m => match v with | .tup cs' => mL d cs cs' m | _ => m
  | .u, _, m | .i _ _, _, m | .b _, _, m | .bt _, _, m | .s _, _, m | .np, _, m | .ns, _, m | .nm, _, m | .nf, _, m | .arr _ _ _, _, m => m
def mL (d : Nat) : List SV → List SV → ML → ML
  | [], _, m => m
  | c :: cs, vs, m => match vs with | [] => m | v :: vs => mL d cs vs (mV d c v m)
end
def mH (d : Nat) (G : Hp) : List (Nat × Blk) → ML → ML
  | [], m => m
  | (l, .one _ cs) :: r, m => match G (mget m l) with
    | some (.one _ cs') => mH d G r (mL d cs cs' m)
    | _ => mH d G r m
  | _ :: r, m => mH d G r m
def mNew (d : Nat) : List Nat → Nat → ML → ML
  | [], _, m => m
  | l :: r, j, m => mNew d r (j + 1) ((l, d + 2000 * j) :: m)
def mF (d : Nat) (F : Fr) : List (Nat × SV) → ML → ML
  | [], m => m
  | (t, v) :: r, m => mF d F r (mV d v (F t) m)
def mcall (d : Nat) (ct : CT) (args : List SV) (G : Hp) (x : ct.X) : ML :=
  mNew d (newLs (keys (ct.g0 x)) (keys (ct.g1 x))) 0 (mH d G (ct.g0 x) (mL d (ct.args x) args []))

/-- A label, laid bare. -/
def fNat (n : Nat) (k : Nat → Prop) : Prop := match n with | 0 => k 0 | m + 1 => k (m + 1)

/-! ### Written out: each of these hands the same thing on, its constructors laid bare -/
mutual
def fK1 : Kd → (Kd → Prop) → Prop
  | .int a, k => k (.int a)
  | .bool, k => k .bool
  | .str, k => k .str
  | .sl ks, k => fK ks fun ks => k (.sl ks)
  | .pt n ks, k => fNat n fun n => fK ks fun ks => k (.pt n ks)
def fK : List Kd → (List Kd → Prop) → Prop
  | [], k => k []
  | c :: cs, k => fK1 c fun c => fK cs fun cs => k (c :: cs)
end
def fM : Md → (Md → Prop) → Prop
  | .own, k => k .own
  | .bor, k => k .bor
  | .fz, k => k .fz
mutual
def fV : SV → (SV → Prop) → Prop
  | .u, k => k .u
  | .i a n, k => k (.i a n)
  | .b v, k => k (.b v)
  | .bt true, k => k (.bt true)
  | .bt false, k => k (.bt false)
  | .s v, k => k (.s v)
  | .p l r c, k => fNat l fun l => fNat c fun c => k (.p l r c)
  | .np, k => k .np
  | .q l n, k => fNat l fun l => k (.q l n)
  | .sl l a b, k => fNat l fun l => k (.sl l a b)
  | .ns, k => k .ns
  | .mp l, k => fNat l fun l => k (.mp l)
  | .nm, k => k .nm
  | .nf, k => k .nf
  | .fn f cs, k => fL cs fun cs => k (.fn f cs)
  | .agg cs, k => fL cs fun cs => k (.agg cs)
  | .tup cs, k => fL cs fun cs => k (.tup cs)
  | .arr ks n f, k => fK ks fun ks => k (.arr ks n f)
def fL : List SV → (List SV → Prop) → Prop
  | [], k => k []
  | c :: cs, k => fV c fun c => fL cs fun cs => k (c :: cs)
end
def fB : Blk → (Blk → Prop) → Prop
  | .dead, k => k .dead
  | .one m cs, k => fM m fun m => fL cs fun cs => k (.one m cs)
  | .rows m ks n f, k => fM m fun m => fK ks fun ks => k (.rows m ks n f)
  | .map m kk ks a keys f, k => fM m fun m => fK ks fun ks => match a with | true => k (.map m kk ks true keys f) | false => k (.map m kk ks false keys f)
def fH : List (Nat × Blk) → List (Nat × Blk) → (List (Nat × Blk) → Prop) → Prop
  | [], hp, k => k hp
  | (l, b) :: r, hp, k => fNat l fun l => fB b fun b => fH r hp fun hp => k ((l, b) :: hp)
def fF : List (Nat × SV) → (List (Nat × SV) → Prop) → Prop
  | [], k => k []
  | (t, v) :: r, k => fNat t fun t => fV v fun v => fF r fun r => k ((t, v) :: r)

def callX (ct : CT) (args : List SV) (G : Hp) (x : ct.X) (ml : ML) (k : SV → List (Nat × Blk) → FP → Prop) : Prop :=
  match callSt ct G x (mget ml) with
  | true => ob 1 (ct.pre x) ∧ ob 2 (EntL G args (renL (mget ml) (ct.args x))) ∧ ob 3 (EntH G (renH (mget ml) (ct.g0 x))) ∧
      k (ren (mget ml) (ct.res x)) (appH (renH (mget ml) (ct.g1 x)) (absL G (mget ml) (ct.g0 x)))
        ⟨mapN (mget ml) (apL (keys (ct.g0 x)) (keys (ct.g1 x))), keys (appH (renH (mget ml) (ct.g1 x)) (absL G (mget ml) (ct.g0 x)))⟩
  | false => Stuck 1 0
def callC (args : List SV) (d : Nat) (G : Hp) (k : SV → List (Nat × Blk) → FP → Prop) : Con → Prop
  | .one ct => ∃ x, callX ct args G x (mcall d ct args G x) k
  | .two sel a b => (sel args G = true → callC args d G k a) ∧ (sel args G = false → callC args d G k b)
def CMem (c : Cfg) (g : Nat) (ct : CT) : Prop := ∃ con, cget c.C g = some con ∧ con.Has ct
def callK (c : Cfg) (f : Nat) (args : List SV) (d : Option Nat) (G : Hp) (k : SV → List (Nat × Blk) → FP → Prop) : Prop :=
  match cget c.C f, d with
  | some con, some d => fL args fun args => callC args d G k con
  | none, _ => Stuck 2 f
  | _, _ => Stuck 3 f

def kfind : List (Nat × Bool) → Nat → Option Bool
  | [], _ => none
  | (k, v) :: r, t => match Nat.beq k t with | true => some v | false => kfind r t
def kdrop (d : Option Nat) : List (Nat × Bool) → List (Nat × Bool)
  | [] => []
  | (k, v) :: r => match d with
    | none => (k, v) :: r
    | some d => match Nat.beq k d with | true => kdrop (some d) r | false => (k, v) :: kdrop (some d) r
def kfindO (kn : List (Nat × Bool)) : Operand → Option Bool
  | .tmp t => kfind kn t
  | _ => none

/-! What must be frozen ahead of an operation: slices and arrays of our own that are to lie in cells of rows. -/
def frzV (G : Hp) (l : Nat) : List Nat := match G l with | some (.rows .own _ _ _) => [l] | _ => []
def frzL (G : Hp) : List Kd → List SV → List Nat
  | .sl _ :: ks, .sl l _ _ :: vs => apL (frzV G l) (frzL G ks vs)
  | .pt _ _ :: ks, .p l _ _ :: vs => apL (frzV G l) (frzL G ks vs)
  | .pt _ _ :: ks, .q l _ :: vs => apL (frzV G l) (frzL G ks vs)
  | _ :: ks, _ :: vs => frzL G ks vs
  | _, _ => []
def frzP (G : Hp) (ks : List Kd) (F : Fr) : List (Nat × Operand) → List Nat
  | [] => []
  | (_, x) :: r => match (oa F x).cells with | some cs => apL (frzL G ks cs) (frzP G ks F r) | none => frzP G ks F r
def frzS (T : List (Nat × TI)) (G : Hp) (t : Nat) (x v : SV) : List Nat :=
  match tget T t, x, v.cells with
  | some ti, .p l _ c, some vs => match G l with
    | some (.rows _ ks _ _) => frzL G (takeK ti.size (dropK c ks)) vs
    | _ => []
  | _, _, _ => []
def frzO (T : List (Nat × TI)) (F : Fr) (G : Hp) (o : Oper) : List Nat :=
  match o.op with
  | .store t x v => frzS T G t (oa F x) (oa F v)
  | .buildSlice t _ ps => match tget T t with
    | some ⟨.slice e, _, _, _⟩ => match kdsT T 12 e with | some ks => frzP G ks F ps.toList | none => []
    | _ => []
  | .build t ps => match tget T t with
    | some ⟨.arr _ e, _, _, _⟩ => match kdsT T 12 e with | some ks => frzP G ks F ps.toList | none => []
    | _ => []
  | .mapUpdate _ x _ v => match oa F x, (oa F v).cells with
    | .mp l, some vs => match G l with | some (.map _ _ ks _ _ _) => frzL G ks vs | _ => []
    | _, _ => []
  | _ => []
def fzW (G : Hp) : List Nat → List (Nat × Blk)
  | [] => []
  | l :: r => match G l with | some (.rows .own ks n f) => (l, .rows .fz ks n f) :: fzW G r | _ => fzW G r
/-- Where it was looked whether something must be frozen. -/
def frzR (F : Fr) (o : Oper) : List Nat :=
  match o.op with
  | .store _ x v => apL (oa F x).labs (oa F v).labs
  | .buildSlice _ _ ps => labsO F ps.toList
  | .build _ ps => labsO F ps.toList
  | .mapUpdate _ x _ v => apL (oa F x).labs (oa F v).labs
  | _ => []
def evW (T : List (Nat × TI)) (wraps : List Nat) (F : Fr) (G : Hp) (o : Oper) (fz : List (Nat × Blk)) : Option Res :=
  match ev T wraps F (upds G fz) o with
  | some r => some { v := r.v, wr := appH r.wr fz, rd := apL r.rd (apL (frzR F o) (keys fz)), pre := r.pre }
  | none => none
/-- An operation, behind the freezing that it wants. -/
def evZ (T : List (Nat × TI)) (wraps : List Nat) (F : Fr) (G : Hp) (o : Oper) : Option Res :=
  match frzO T F G o with
  | [] => ev T wraps F G o
  | l :: ls => evW T wraps F G o (fzW G (l :: ls))

def stepK (c : Cfg) (o : Oper) (kn : List (Nat × Bool)) (F : Fr) (G : Hp) (k : SV → List (Nat × Blk) → FP → Prop) : Prop :=
  match o.op with
  | .pick x a b => match oa F x with
    | .bt true => k (oa F a) [] ⟨[], []⟩
    | .bt false => k (oa F b) [] ⟨[], []⟩
    | .b v => match kfindO kn x with
      | some true => k (oa F a) [] ⟨[], []⟩
      | some false => k (oa F b) [] ⟨[], []⟩
      | none => (v = true → k (oa F a) [] ⟨[], []⟩) ∧ (v = false → k (oa F b) [] ⟨[], []⟩)
    | _ => Stuck 4 (dN o.dst)
  | .call { callee := .value f, args, .. } => match oa F f with
    | .fn g caps => callK c g (args.toList.map (oa F) ++ caps) o.dst G k
    | _ => Stuck 5 (dN o.dst)
  | _ => match evZ c.T c.wraps F G o with
    | none => Stuck 6 (dN o.dst)
    | some r => match r.pre with
      | none => k r.v r.wr ⟨r.rd, keys r.wr⟩
      | some p => ob (dN o.dst) p ∧ k r.v r.wr ⟨r.rd, keys r.wr⟩

def nthO : List Oper → Nat → Option Oper
  | [], _ => none
  | x :: _, 0 => some x
  | _ :: xs, n + 1 => nthO xs n
def slotOf (all : List Oper) (j : Nat) : Option Nat := match nthO all j with | some o => o.dst | none => none
def consO (d : Option Nat) (v : SV) (fr : List (Nat × SV)) : List (Nat × SV) := match d with | some d => (d, v) :: fr | none => fr

/-! What an operation names. -/
def opdSlots : List Operand → List Nat
  | [] => []
  | .tmp t :: r => t :: opdSlots r
  | _ :: r => opdSlots r
def readsOf (all : List Oper) (o : Oper) : List Nat :=
  (match o.guard with | some (j, _) => (match slotOf all j with | some s => [s] | none => []) | none => []) ++ opdSlots o.op.operands.toList
def disj : List Nat → List Nat → Bool
  | [], _ => true
  | x :: r, ys => match memN ys x with | true => false | false => disj r ys
def slotsApart (all : List Oper) (a b : Oper) : Bool :=
  (match a.dst with | some d => !memN (readsOf all b) d && (match b.dst with | some e => !Nat.beq d e | none => true) | none => true) &&
  (match b.dst with | some d => !memN (readsOf all a) d | none => true)
def fpApart (a b : FP) : Bool := disj a.wr b.rd && disj a.wr b.wr && disj b.wr a.rd
/-- Of operation i (from 0 on): all that must run ahead of it, as bits. -/
def befs (ops : List Oper) : List Nat → List Nat
  | acc => ops.foldl (fun acc o => acc ++ [o.after.toList.foldl (fun s e => if Region.binds .any e then s ||| (1 <<< e.on) ||| (acc.getD e.on 0) else s) 0]) acc
def apart1 (all : List Oper) (o : Oper) (fp : FP) (bj : Nat) : List (Nat × Oper × FP) → Bool
  | [] => true
  | (i, p, fq) :: r => (bj.testBit i || (slotsApart all p o && fpApart fq fp)) && apart1 all o fp bj r
def apartAll (all : List Oper) : List (Nat × Oper × FP × Nat) → List (Nat × Oper × FP) → Bool
  | [], _ => true
  | (i, o, fp, b) :: r, seen => apart1 all o fp b seen && apartAll all r (seen ++ [(i, o, fp)])
def edgesBack (ops : List Oper) : Nat → Bool
  | n => match ops with
    | [] => true
    | o :: r => o.after.toList.all (fun e => !Region.binds .any e || Nat.blt e.on n) && edgesBack r (n + 1)
def mk4 : List Oper → List FP → List Nat → Nat → List (Nat × Oper × FP × Nat)
  | o :: os, f :: fs, b :: bs, n => (n, o, f, b) :: mk4 os fs bs (n + 1)
  | _, _, _, _ => []
/-- An order in which the operations can run, each behind what it waits for. -/
def topo1 (md : Region.Mode) (ops : List Oper) : List Nat → List Nat → Bool
  | [], _ => true
  | i :: r, seen => (match nthO ops i with
    | some o => o.after.toList.all (fun e => !Region.binds md e || memN seen e.on)
    | none => false) && topo1 md ops r (i :: seen)
def topoOk (md : Region.Mode) (ops : List Oper) : Bool :=
  let l := Region.linearise md ops.toArray 0
  topo1 md ops l [] && (List.range ops.length).all (memN l)
/-- Operations between which no order is laid don't touch each other. -/
def indep (all : List Oper) (lg : List FP) : Bool :=
  Nat.beq all.length lg.length && edgesBack all 0 && topoOk .any all && topoOk .text all && topoOk .gc all && apartAll all (mk4 all lg (befs all []) 0) []

/-- Is the operation carried out? -/
inductive Doing where | stuck | go | skip | ask (s : Nat) (v want : Bool)
def doIt (all : List Oper) (o : Oper) (kn : List (Nat × Bool)) (fr : List (Nat × SV)) : Doing :=
  match o.guard with
  | none => .go
  | some (j, want) => match slotOf all j with
    | none => .stuck
    | some s => match fget fr s with
      | .bt v => match v, want with | true, true => .go | false, false => .go | _, _ => .skip
      | .b v => match kfind kn s, want with
        | some true, true => .go
        | some false, false => .go
        | some true, false => .skip
        | some false, true => .skip
        | none, true => .ask s v true
        | none, false => .ask s v false
      | .tup cs => match cs with | [] => .skip | _ => .stuck
      | _ => .stuck
def pickN (n : Nat) : List Nat → Option Nat
  | [] => none
  | c :: r => match Nat.beq n c with | true => some c | false => pickN n r
def fN (cs : List Nat) : List Nat → (List Nat → Prop) → Prop
  | [], k => k []
  | n :: r, k => match pickN n cs with
    | some c => fN cs r fun r => k (c :: r)
    | none => Stuck 7 n
def fFP (cs : List Nat) (fp : FP) (k : FP → Prop) : Prop := fN cs fp.rd fun rd => fN cs fp.wr fun wr => k ⟨rd, wr⟩
def goOn (c : Cfg) (o : Oper) (kn : List (Nat × Bool)) (fr : List (Nat × SV)) (hp : List (Nat × Blk)) (k : FP → List (Nat × SV) → List (Nat × Blk) → Prop) : Prop :=
  stepK c o kn (fget fr) (hget hp) fun v wr fp => fV v fun v => fH wr hp fun hp => fFP (keys hp) fp fun fp => match o.dst with
    | some d => k fp ((d, v) :: fr) hp
    | none => k fp fr hp

def lenO : List Oper → Nat | [] => 0 | o :: _ => dN o.dst
def runOps (c : Cfg) (all : List Oper) (dr : Bool) : List Oper → List FP → List (Nat × Bool) → List (Nat × SV) → List (Nat × Blk) → (List (Nat × SV) → List (Nat × Blk) → Prop) → Prop
  | [], lg, _, fr, hp, K => match dr with
    | false => K fr hp
    | true => match indep all lg.reverse with | true => K fr hp | false => Stuck 8 (lenO all)
  | o :: os, lg, kn, fr, hp, K =>
    match doIt all o kn fr with
    | .stuck => Stuck 9 (dN o.dst)
    | .go => goOn c o kn fr hp fun fp fr hp => match dr with
      | true => runOps c all dr os (fp :: lg) (kdrop o.dst kn) fr hp K
      | false => runOps c all dr os [] (kdrop o.dst kn) fr hp K
    | .skip => match dr with
      | true => runOps c all dr os (⟨[], []⟩ :: lg) (kdrop o.dst kn) (consO o.dst (.tup []) fr) hp K
      | false => runOps c all dr os [] (kdrop o.dst kn) (consO o.dst (.tup []) fr) hp K
    | .ask s v want =>
      (v = want → goOn c o ((s, want) :: kn) fr hp fun fp fr hp => match dr with
        | true => runOps c all dr os (fp :: lg) (kdrop o.dst ((s, want) :: kn)) fr hp K
        | false => runOps c all dr os [] (kdrop o.dst ((s, want) :: kn)) fr hp K) ∧
      (v = !want → match dr with
        | true => runOps c all dr os (⟨[], []⟩ :: lg) (kdrop o.dst ((s, !want) :: kn)) (consO o.dst (.tup []) fr) hp K
        | false => runOps c all dr os [] (kdrop o.dst ((s, !want) :: kn)) (consO o.dst (.tup []) fr) hp K)

inductive Ex where | normal | exit (id : Nat) | ret

def renF (m : Nat → Nat) : List (Nat × SV) → List (Nat × SV)
  | [] => []
  | (t, v) :: r => (t, ren m v) :: renF m r
def smallK : List (Nat × Nat) → Bool
  | [] => true
  | (k, _) :: r => match Nat.blt k 100000 with | true => smallK r | false => false
/-- The state at hand is the loop's state x, its labels lying where m says. -/
structure At (v : Inv) (F : Fr) (G : Hp) (x : v.X) (ml : List (Nat × Nat)) : Prop where
  ok : v.ok x
  lab : diff (mapN (mget ml) (keys (v.hp x))) = true
  ext : smallK ml = true
  great : greatIn G (keys (v.hp x)) = true
  scf : scopeF (v.hp x) (v.fr x) = true
  sch : scopeH (v.hp x) (v.hp x) = true
  fr : EntF F G (renF (mget ml) (v.fr x))
  hp : EntH G (renH (mget ml) (v.hp x))

/-! What a loop leaves alone. -/
def appF : List (Nat × SV) → List (Nat × SV) → List (Nat × SV)
  | [], ys => ys
  | x :: xs, ys => x :: appF xs ys
def Inv.ext (v : Inv) (fr0 : List (Nat × SV)) (hp0 : List (Nat × Blk)) : Inv := ⟨v.X, v.ok, fun x => appF (v.fr x) fr0, fun x => appH (v.hp x) hp0, v.me, v.inn⟩
def dstsO : List Oper → List Nat → List Nat
  | [], r => r
  | o :: os, r => match o.dst with | some d => dstsO os (d :: r) | none => dstsO os r
def dsts : Code → List Nat → List Nat
  | .region _ ops _, r => dstsO ops.toList r
  | .seq a b, r => dsts a (dsts b r)
  | .cond _ a b, r => dsts a (dsts b r)
  | .block _ b, r => dsts b r
  | .loop b, r => dsts b r
  | .scope b, r => dsts b r
  | _, r => r
def opdS : List Operand → List Nat → List Nat
  | [], r => r
  | .tmp t :: xs, r => t :: opdS xs r
  | _ :: xs, r => opdS xs r
def rdsO : List Oper → List Nat → List Nat
  | [], r => r
  | o :: os, r => opdS o.op.operands.toList (rdsO os r)
/-- The slots that a piece of code reads. -/
def rds : Code → List Nat → List Nat
  | .region _ ops _, r => rdsO ops.toList r
  | .seq a b, r => rds a (rds b r)
  | .cond x a b, r => opdS [x] (rds a (rds b r))
  | .block _ b, r => rds b r
  | .loop b, r => rds b r
  | .scope b, r => rds b r
  | _, r => r
def vals : ML → List Nat
  | [] => []
  | (_, v) :: r => v :: vals r
/-- The blocks that stand, each once, none of those of 'no'. -/
def keepH1 (no : List Nat) : List (Nat × Blk) → List Nat → List (Nat × Blk)
  | [], _ => []
  | (l, b) :: r, seen => match memN no l, memN seen l, b.live with
    | false, false, true => (l, b) :: keepH1 no r (l :: seen)
    | _, _, _ => keepH1 no r (l :: seen)
def keepH2 (hp : List (Nat × Blk)) : List (Nat × Blk) → List (Nat × Blk)
  | [] => []
  | (l, b) :: r => match defd hp b.labs with | true => (l, b) :: keepH2 hp r | false => keepH2 hp r
def iterH (ex : List (Nat × Blk)) : Nat → List (Nat × Blk) → List (Nat × Blk)
  | 0, hp => hp
  | n + 1, hp => iterH ex n (keepH2 (appH ex hp) hp)
def keepH (ex : List (Nat × Blk)) (no : List Nat) (hp : List (Nat × Blk)) : List (Nat × Blk) := iterH ex 3 (keepH1 no hp [])
def slotsF : List (Nat × SV) → List Nat
  | [] => []
  | (t, _) :: r => t :: slotsF r
def keepF (vars : Nat) (rd : List Nat) (hp : List (Nat × Blk)) : List (Nat × SV) → List Nat → List (Nat × SV)
  | [], _ => []
  | (t, v) :: r, seen => match memN seen t, (match Nat.blt t vars with | true => true | false => memN rd t), defd hp v.labs with
    | false, true, true => (t, v) :: keepF vars rd hp r (t :: seen)
    | _, _, _ => keepF vars rd hp r (t :: seen)
/-- Which label of a loop's state stands where. -/
def mAt (v : Inv) (F : Fr) (G : Hp) (x : v.X) : ML := mH 1998 G (v.hp x) (mF 1998 F (v.fr x) [])
def keptH (v : Inv) (hp : List (Nat × Blk)) (x : v.X) (ml : ML) : List (Nat × Blk) := keepH (v.hp x) (apL (keys (v.hp x)) (vals ml)) hp
def keptF (c : Cfg) (body : Code) (v : Inv) (fr : List (Nat × SV)) (x : v.X) (hp0 : List (Nat × Blk)) : List (Nat × SV) := keepF c.vars (rds body []) (appH (v.hp x) hp0) fr (dsts body (slotsF (v.fr x)))
/-- What is to be shown where a state is to be one of a loop's. -/
def atK (v : Inv) (F : Fr) (G : Hp) (x : v.X) (ml : ML) : Prop :=
  match diff (mapN (mget ml) (keys (v.hp x))), smallK ml, greatIn G (keys (v.hp x)), scopeF (v.hp x) (v.fr x), scopeH (v.hp x) (v.hp x) with
  | true, true, true, true, true => ob 4 (v.ok x) ∧ ob 5 (EntF F G (renF (mget ml) (v.fr x))) ∧ ob 6 (EntH G (renH (mget ml) (v.hp x)))
  | a, b, c, d, e => Stuck 10 (bN a b c d e)

/-- Behind a block. -/
def outK (id : Nat) (K : Ex → List (Nat × SV) → List (Nat × Blk) → Prop) : Ex → List (Nat × SV) → List (Nat × Blk) → Prop
  | .normal, fr, hp => K .normal fr hp
  | .exit i, fr, hp => match Nat.beq i id with | true => K .normal fr hp | false => K (.exit i) fr hp
  | .ret, fr, hp => K .ret fr hp

/-- The invariants that hold within a loop. -/
def Cfg.at (c : Cfg) (i : Nat → Option Inv) : Cfg := ⟨c.T, c.wraps, c.C, fun id => match i id with | some v => some v | none => c.invs id, c.vars⟩
def exec : Code → Cfg → List (Nat × SV) → List (Nat × Blk) → (Ex → List (Nat × SV) → List (Nat × Blk) → Prop) → Prop
  | .skip, c, fr, hp, K => K .normal fr hp
  | .label _, c, fr, hp, K => K .normal fr hp
  | .ret, c, fr, hp, K => K .ret fr hp
  | .exit id, c, fr, hp, K => K (.exit id) fr hp
  | .seq a b, c, fr, hp, K => exec a c fr hp fun e fr hp => match e with
    | .normal => exec b c fr hp K
    | .exit i => K (.exit i) fr hp
    | .ret => K .ret fr hp
  | .cond x a b, c, fr, hp, K => match oa (fget fr) x with
    | .bt true => exec a c fr hp K
    | .bt false => exec b c fr hp K
    | .b v => (v = true → exec a c fr hp K) ∧ (v = false → exec b c fr hp K)
    | _ => Stuck 11 0
  | .block id (.loop body), c, fr, hp, K => match c.invs id with
    | none => Stuck 12 id
    | some v => ∃ x0 : v.X, fH (keptH v hp x0 (mAt v (fget fr) (hget hp) x0)) [] fun hp0 => fF (keptF c body v fr x0 hp0) fun fr0 =>
      atK (v.ext fr0 hp0) (fget fr) (hget hp) x0 (mAt v (fget fr) (hget hp) x0) ∧
      ∀ x, v.ok x → fF (appF (v.fr x) fr0) fun fr => fH (appH (v.hp x) hp0) [] fun hp => exec body (c.at (v.inn x)) fr hp fun e fr' hp' => match e with
        | .normal => ∃ x', ob 7 (v.me x' < v.me x) ∧ atK (v.ext fr0 hp0) (fget fr') (hget hp') x' (mAt v (fget fr') (hget hp') x')
        | .exit i => (match Nat.beq i id with | true => K .normal fr' hp' | false => K (.exit i) fr' hp')
        | .ret => K .ret fr' hp'
  | .block id b, c, fr, hp, K => exec b c fr hp (outK id K)
  | .scope b, c, fr, hp, K => exec b c fr hp K
  | .region _ ops dr, c, fr, hp, K => runOps c ops.toList dr ops.toList [] [] fr hp (K .normal)
  | _, c, _, _, _ => Stuck 13 0

/-- Every operation writes to a slot below n. -/
def dstOk (n : Nat) : Code → Bool
  | .region _ ops _ => ops.toList.all fun o => match o.dst with | some d => Nat.blt d n | none => true
  | .seq a b => dstOk n a && dstOk n b
  | .cond _ a b => dstOk n a && dstOk n b
  | .block _ b => dstOk n b
  | .loop b => dstOk n b
  | .scope b => dstOk n b
  | _ => true

def argF : Nat → List SV → List (Nat × SV)
  | _, [] => []
  | n, v :: r => (n, v) :: argF (n + 1) r

/-- What a function hands back, out of its frame and heap. -/
def res1 (T : List (Nat × TI)) (F : Fr) (G : Hp) : ResultVar → Option SV
  | .tmp t => some (F t)
  | .cell a t => match tget T t with
    | some ti => match evLoad T G none ti (F a) with
      | some r => match r.pre, r.wr with | none, [] => some r.v | _, _ => none
      | none => none
    | none => none
def resL (T : List (Nat × TI)) (F : Fr) (G : Hp) : List ResultVar → Option (List SV)
  | [] => some []
  | x :: r => match res1 T F G x, resL T F G r with | some v, some vs => some (v :: vs) | _, _ => none
def resV (T : List (Nat × TI)) (F : Fr) (G : Hp) (l : List ResultVar) : Option SV :=
  match resL T F G l with
  | some [v] => some v
  | some vs => some (.tup vs)
  | none => none

def liveH : List (Nat × Blk) → Bool
  | [] => true
  | (_, b) :: r => match b.live with | true => liveH r | false => false
/-- What a contract changes was handed over to be changed. -/
def chgOk (g0 : List (Nat × Blk)) : List (Nat × Blk) → Bool
  | [] => true
  | (l, b) :: r => match hget g0 l with
    | some b0 => (match b0.mut with | true => chgOk g0 r | false => false)
    | none => chgOk g0 r
def greatLs : List Nat → Bool
  | [] => true
  | l :: r => match Nat.ble 100000 l with | true => greatLs r | false => false
/-- A contract's labels are in order. -/
def ctSt (ct : CT) (x : ct.X) : Bool :=
  match diff (keys (ct.g0 x)), diff (keys (ct.g1 x)), liveH (ct.g0 x), mutOk (keys (ct.g1 x)) (ct.g0 x), chgOk (ct.g0 x) (ct.g1 x), scopeH (ct.g0 x) (ct.g0 x), defd (ct.g0 x) (labsL (ct.args x)),
    scopeH (appH (ct.g1 x) (ct.g0 x)) (ct.g1 x), defd (appH (ct.g1 x) (ct.g0 x)) (ct.res x).labs, greatLs (keys (ct.g0 x)) with
  | true, true, true, true, true, true, true, true, true, true => true
  | _, _, _, _, _, _, _, _, _, _ => false

/-- Where the labels that a contract brings lie at the end. -/
def mEnd (ct : CT) (x : ct.X) (v : SV) (G : Hp) : ML := mH 1999 G (ct.g1 x) (mV 1999 (ct.res x) v [])
def finK (ct : CT) (x : ct.X) (v : SV) (G : Hp) (ml : ML) : Prop :=
  match diffF (mfl (mget ml) (appH (ct.g1 x) (ct.g0 x)) (liveLs (appH (ct.g1 x) (ct.g0 x)) (apL (keys (ct.g0 x)) (newLs (keys (ct.g0 x)) (keys (ct.g1 x))))) []), smallK ml, greatIn G (keys (ct.g0 x)) with
  | true, true, true => ob 8 (Ent G v (ren (mget ml) (ct.res x))) ∧ ob 9 (EntH G (renH (mget ml) (ct.g1 x)))
  | a, b, c => Stuck 14 (bN a b c false false)
/-- What is to be shown of a function's text so that it keeps a contract. -/
def Keeps (c : Cfg) (fn : Func) (ct : CT) (iv : ct.X → Nat → Option Inv) : Prop :=
  ∀ x, ct.pre x → match ctSt ct x with
    | false => Stuck 15 0
    | true => match fn.body with
    | none => Stuck 16 0
    | some code => fL (ct.args x) fun args => fF (argF 0 args) fun fr => fH (ct.g0 x) [] fun hp => exec code (c.at (iv x)) fr hp fun e fr hp => match e with
      | .exit _ => Stuck 17 0
      | _ => match resV c.T (fget fr) (hget hp) fn.results.toList with
        | none => Stuck 16 0
        | some v => finK ct x v (hget hp) (mEnd ct x v (hget hp))
end Go.Sym

