import Derived.Test.YtmomlgnnbpkgcaaG1
import Derived.Deep.DrawnRows
import Derived.Laws.MakeOwn
import Derived.Deep.CutRange
import Derived.Lib.Hide
namespace Go.Sym
set_option linter.unusedVariables false
open Go.Proofs Go.RowKit
structure Ed where
 f : Int
 t : Int
 d : Int
deriving Inhabited, DecidableEq
def Met2 (W : World) (ev : Value) (n : Nat) (L : Bool -> Nat -> List Int) (s5 : Value) (w : World) : Prop :=
 ∃ B2 bg blk c, s5 = .pointer (some ⟨bg, 0, none⟩) /\ BInv B2 3 w bg blk ev n c L /\ Below W.heap.size W w /\ W.heap.size <= bg /\ ∀ s, W.heap.size <= blk s
def adj (es : List Ed) (k : Nat) (s : Bool) (x : Nat) : List Int := ((List.range k).filter fun i => cond s (es.getD i default).f (es.getD i default).t == (x : Int)).map fun (i : Nat) => (i : Int)
theorem adj_len (es : List Ed) (k : Nat) (s : Bool) (x : Nat) : (adj es k s x).length <= k := by
 unfold adj
 rw [List.length_map]
 have := List.length_filter_le (fun i => cond s (es.getD i default).f (es.getD i default).t == (x : Int)) (List.range k)
 simpa using this
theorem adj_one {es : List Ed} {k : Nat} {s : Bool} {x : Nat} : adj es (k + 1) s x = if cond s (es.getD k default).f (es.getD k default).t = (x : Int) then adj es k s x ++ [(k : Int)] else adj es k s x := by
 unfold adj
 rw [List.range_succ, List.filter_append, List.map_append]
 by_cases h : cond s (es.getD k default).f (es.getD k default).t = (x : Int)
 ·rw [if_pos h]
  rw [List.filter_cons, if_pos (by simpa using h)]
  rfl
 ·rw [if_neg h]
  rw [List.filter_cons, if_neg (by simpa using h)]
  simp
theorem adj_succ {es : List Ed} {k x y : Nat} (hx : (es.getD k default).f = x) (hy : (es.getD k default).t = y) :
  adj es (k + 1) = updF (updF (adj es k) true x (adj es k true x ++ [(k : Int)])) false y (updF (adj es k) true x (adj es k true x ++ [(k : Int)]) false y ++ [(k : Int)]) := by
 funext s j
 rw [adj_one]
 unfold updF
 cases s
 ·simp only [cond, hy]
  by_cases h : y = j
  ·subst h; simp
  ·have : ¬ ((y : Int) = (j : Int)) := by omega
   simp [this, Ne.symm h]
 ·simp only [cond, hx]
  by_cases h : x = j
  ·subst h; simp
  ·have : ¬ ((x : Int) = (j : Int)) := by omega
   simp [this, Ne.symm h]
theorem infoI : (Try.prog.info? 3).map (fun i => (i.zero, i.size, i.bytes)) = some (some (.int .i64 0), 1, 8) := by kernel_rfl
theorem infoL : (Try.prog.info? 28).map (fun i => (i.zero, i.size, i.bytes)) = some (some (.slice none 0 0), 1, 24) := by kernel_rfl
theorem alloc_sz (w : World) (o : Obj) : (w.alloc o).heap.size = w.heap.size + 1 := Array.size_push _
theorem cell_in {w : World} {b o : Nat} {arr : Array Value} {T : TypeId} {fz : Nat × Nat} {v : Value} (h : w.heap[b]? = some (.cells arr T fz)) (hv : arr[o]? = some v) : w.cell? ⟨b, o, none⟩ = some v := by simp [World.cell?, h, hv]
theorem free_in {w : World} {b o : Nat} {arr : Array Value} {T : TypeId} (h : w.heap[b]? = some (.cells arr T (0, 0))) : w.frozen? ⟨b, o, none⟩ = false := by simp [World.frozen?, h]
theorem frz_any {w w' : World} {b x : Nat} (h : w.frozen? ⟨b, x, none⟩ = false) (hb : w'.heap[b]? = w.heap[b]?) : w'.frozen? ⟨b, x, none⟩ = false := by
 rw [<- h]
 exact World.frozen?_of_block hb
theorem keepS {w w' : World} {bg eb o1 o2 : Nat} {u1 u2 : Value} (s1 : w.cell? ⟨bg, o1, none⟩ = some u1) (s2 : w.cell? ⟨eb, o2, none⟩ = some u2)
  (h1 : w'.heap[bg]? = w.heap[bg]?) (h2 : w'.heap[eb]? = w.heap[eb]?) : w'.cell? ⟨bg, o1, none⟩ = some u1 /\ w'.cell? ⟨eb, o2, none⟩ = some u2 :=
 ⟨(World.cell?_of_block h1).trans s1, (World.cell?_of_block h2).trans s2⟩
def nilRows (n : Nat) : Array Value := madeCells (Value.slice none 0 0).cells n
theorem nilRows_size (n : Nat) : (nilRows n).size = n := size_madeCells _ _
theorem nilRows_at {n j : Nat} (h : j < n) : (nilRows n)[j]? = some (.slice none 0 0) := by
 have hl := nilRows_size n
 rw [Array.getElem?_eq_getElem (by omega)]
 simp [nilRows, madeCells, Value.cells, Nat.mod_one]
theorem start_inv (o : Bool) (W : World) (ev : Value) (n : Nat) :
  Met2 W ev n (fun _ _ => []) (.pointer (some ⟨W.heap.size + 1 + 1, 0, none⟩)) (((W.alloc (.cells (nilRows n) 28)).alloc (.cells (nilRows n) 28)).alloc
   (.cells #[ev, .slice (some ⟨cond o (W.heap.size + 1) W.heap.size, 0, none⟩) n n, .slice (some ⟨cond o W.heap.size (W.heap.size + 1), 0, none⟩) n n] 87)).drew := by
 have hs : (((W.alloc (.cells (nilRows n) 28)).alloc (.cells (nilRows n) 28)).alloc
   (.cells #[ev, .slice (some ⟨cond o (W.heap.size + 1) W.heap.size, 0, none⟩) n n, .slice (some ⟨cond o W.heap.size (W.heap.size + 1), 0, none⟩) n n] 87)).drew.heap =
   ((W.heap.push (.cells (nilRows n) 28)).push (.cells (nilRows n) 28)).push (.cells #[ev, .slice (some ⟨cond o (W.heap.size + 1) W.heap.size, 0, none⟩) n n, .slice (some ⟨cond o W.heap.size (W.heap.size + 1), 0, none⟩) n n] 87) := rfl
 refine ⟨W.heap.size + 3, W.heap.size + 2, fun s => cond (s == o) (W.heap.size + 1) W.heap.size, fun _ _ => .slice none 0 0, rfl, ⟨?_, fun s => ?_, fun s j _ => ?_, fun s j s' j' g _ _ h => ?_, by omega, fun s => ?_, fun s => ?_, ?_, ?_⟩, ⟨rfl, rfl, rfl, ?_, fun k hk => ?_⟩, by omega, fun s => ?_⟩
 ·refine ⟨87, ?_⟩
  rw [hs, Array.getElem?_push]
  simp only [Array.size_push, if_true]
  cases o <;> rfl
 ·refine ⟨nilRows n, 28, ?_, nilRows_size n, fun j hj => nilRows_at hj⟩
  rw [hs, Array.getElem?_push, Array.getElem?_push, Array.getElem?_push]
  simp only [Array.size_push]
  cases s <;> cases o <;> simp <;> omega
 ·exact ⟨by simp, .inl ⟨rfl, rfl⟩⟩
 ·cases h
 ·cases s <;> cases o <;> simp
 ·cases s <;> cases o <;> simp <;> omega
 ·cases o <;> simp
 ·rw [hs]; simp
 ·rw [hs]; simp; omega
 ·rw [hs, Array.getElem?_push, Array.getElem?_push, Array.getElem?_push]
  simp only [Array.size_push]
  rw [if_neg (by omega), if_neg (by omega), if_neg (by omega)]
 ·cases s <;> cases o <;> simp
theorem fin5 {B2 eT eT' base : Nat} {W wa w1 : World} {bg eb : Nat} {blk : Bool -> Nat} {ev : Value} {n : Nat} {c : Bool -> Nat -> Value} {L : Bool -> Nat -> List Int} {s : Bool} {x gg cap2 o1 : Nat} {k : Int} {cb : Array Value} {uy : Value}
  (I : BInv B2 eT wa bg blk ev n c L) (hbel : Below base W wa) (hx : x < n) (hal : ∀ (o : Obj) (q : Nat), q < wa.heap.size -> (wa.alloc o).heap[q]? = wa.heap[q]?)
  (hown2 : w1.ownsRow B2 eT 1 (.slice (some ⟨gg, 0, none⟩) ((L s x).length + 1) cap2) ((L s x).length + 1) (ints (L s x) ++ [.int .i64 k]))
  (hgrow : ((wa.alloc (.cells cb eT')).drew).grownBy w1 (c s x).ownBlock) (hat : (c s x).ownBlock = some gg ∨ gg = wa.heap.size + 1) (hsz : ((wa.alloc (.cells cb eT')).drew).heap.size <= w1.heap.size)
  (c1 : wa.cell? ⟨eb, o1, none⟩ = some uy) (le : eb < wa.heap.size) (hobe : (c s x).ownBlock ≠ some eb) (ebt : eb ≠ blk s) (hB : base <= B2) (hbB : ∀ s, base <= blk s) :
  BInv B2 eT (w1.setCell ⟨blk s, x, none⟩ (.slice (some ⟨gg, 0, none⟩) ((L s x).length + 1) cap2)) bg blk ev n (updF c s x (.slice (some ⟨gg, 0, none⟩) ((L s x).length + 1) cap2)) (updF L s x (L s x ++ [k])) /\
   Below base W (w1.setCell ⟨blk s, x, none⟩ (.slice (some ⟨gg, 0, none⟩) ((L s x).length + 1) cap2)) /\ (w1.setCell ⟨blk s, x, none⟩ (.slice (some ⟨gg, 0, none⟩) ((L s x).length + 1) cap2)).cell? ⟨eb, o1, none⟩ = some uy /\
   eb < (w1.setCell ⟨blk s, x, none⟩ (.slice (some ⟨gg, 0, none⟩) ((L s x).length + 1) cap2)).heap.size := by
 have hs2 : ∀ v, (w1.setCell ⟨blk s, x, none⟩ v).heap.size = w1.heap.size := fun v => by simp [World.setCell]
 have hs1 : ((wa.alloc (.cells cb eT')).drew).heap.size = wa.heap.size + 1 := alloc_sz _ _
 have hI := I.sz
 refine ⟨I.push (w1 := (wa.alloc (.cells cb eT')).drew) (by omega) (fun q hq => hal _ q hq) hx hown2 hgrow rfl (by rw [hs1]; exact hat), ?_, ?_, by rw [hs2]; omega⟩
 ·refine hbel.trans ⟨hgrow.os, hgrow.tape, hgrow.output, by rw [hs2]; omega, fun q hq => ?_⟩
  rw [setCell_other (by have := hbB s; show q ≠ blk s; omega), hgrow.block q (by omega) (fun e => by have := (ownBlock_lt (I.own s x hx) e.symm).1; omega)]
  exact hal _ q (by omega)
 ·rw [World.cell?_of_block (a := ⟨eb, o1, none⟩) (setCell_other ebt), World.cell?_of_block (a := ⟨eb, o1, none⟩) (hgrow.block eb (by omega) (Ne.symm hobe))]
  exact (World.cell?_of_block (w := wa) (w' := (wa.alloc (.cells cb eT')).drew) (a := ⟨eb, o1, none⟩) (hal _ eb le)).trans c1
def opNth : List Oper -> Nat -> Option Oper
 | [], _ => none
 | o :: _, 0 => some o
 | _ :: r, n + 1 => opNth r n
theorem opNth_eq : ∀ (l : List Oper) (i : Nat), l.toArray[i]? = opNth l i
 | [], i => by simp [opNth]
 | o :: r, 0 => by simp [opNth]
 | o :: r, n + 1 => by have := opNth_eq r n; simpa [opNth] using this
theorem opTake {P : Program} {Q : Exit -> Act -> World -> Prop} {md : Region.Mode} {S : World -> Prop} {l : List Oper} {i : Nat} {oi : Oper} {v : Value} {fuel : Nat} {listed : Array Bool} {a : Act} {w : World} (hi : opNth l i = some oi)
  (hy : YieldsIf P l.toArray S oi v a) (hS : S w)
  (h : wpAnyH P md l.toArray Q S fuel (listed.setIfInBounds i true) (a.put oi.dst v) w) (hs : Region.noSelect l.toArray = true := by kernel_rfl) (hf : Region.free md l.toArray listed i = true := by kernel_rfl)
  (hr : (Region.ready md l.toArray listed).contains i = true := by kernel_rfl) (hQ : ∀ c a w, Q (.panic c) (a.put oi.dst v) w -> Q (.panic c) a w := by exact fun _ _ _ h => h) : wpAnyH P md l.toArray Q S (fuel + 1) listed a w :=
 wpAnyH_take ((opNth_eq l i).trans hi) hs hf hr hQ hy hS h
theorem opCons {P : Program} {Q : Exit -> Act -> World -> Prop} {md : Region.Mode} {S : World -> Prop} {l : List Oper} {fuel : Nat} {listed : Array Bool} {a : Act} {w : World} {i : Nat} {o : Oper} {rs : List Nat} (ho : opNth l i = some o)
  (h : ∀ K' : Act -> World -> Prop, Shut (∀ a w, S w -> (S w -> wpAnyH P md l.toArray Q S fuel (listed.setIfInBounds i true) a w) -> K' a w) -> if Region.wanted o (yielded l.toArray a.tmps) = true then Oper.wp P o a w K' Q else K' (a.put o.dst undef) w)
  (hs : AllReadyH P md l.toArray Q S fuel listed a w rs) : AllReadyH P md l.toArray Q S fuel listed a w (i :: rs) :=
 AllReadyH.cons ((opNth_eq l i).trans ho) h hs
set_option maxRecDepth 100000 in
set_option maxHeartbeats 4000000 in
theorem build_core (n b0 off ne cap : Nat) (a : Option Addr) (es : List Ed) (W : World) (hn : n <= 4096) (hne : es.length = ne) (hne2 : ne <= 16384) (ha : 0 < ne -> a = some ⟨b0, off, none⟩) (hb0' : 0 < ne -> b0 < W.heap.size)
  (hE : ∀ k, k < ne -> W.cell? ⟨b0, off + k * 3, none⟩ = some (.int .i64 (es.getD k default).f) /\ W.cell? ⟨b0, off + k * 3 + 1, none⟩ = some (.int .i64 (es.getD k default).t) /\ W.cell? ⟨b0, off + k * 3 + 2, none⟩ = some (.int .i64 (es.getD k default).d))
  (hR : ∀ k, k < ne -> 0 <= (es.getD k default).f /\ (es.getD k default).f < n /\ 0 <= (es.getD k default).t /\ (es.getD k default).t < n) :
  Calls Try.prog 36 #[.int .i64 n, .slice a ne cap] W fun e w => ∃ v, e = .returned v /\ Met2 W (.slice a ne cap) n (adj es ne) v w := by
 obtain ⟨iL, hiL, hzL, hsL, hbL⟩ := info_parts infoL
 obtain ⟨iI, hiI, hzI, hsI, hbI⟩ := info_parts infoI
 have hmk : ∀ w : World, (Instr.makeSlice 85 (.int .i64 (n : Int)) (.int .i64 (n : Int))).run Try.prog w = .ok (.slice (some ⟨w.heap.size, 0, none⟩) n n) (w.alloc (.cells (nilRows n) 28)) := by
  intro w
  have := run_make (P := Try.prog) w 85 28 iL _ Try.underlying85 hiL hzL .i64 .i64 (n : Int) (n : Int) (by omega) (by omega) (by rw [hbL]; omega) (by omega)
  rw [this, hsL]; simp only [Int.toNat_natCast, Nat.mul_one]; rfl
 go_enter Try.func36, Try.ntmps36
 go_upto_region 1 with (fail)
 go_cut [5] from 200 (fun s5 wx => Met2 W (.slice a ne cap) n (fun _ _ => []) s5 wx)
 case first =>
  rename_i hJR hMet
  go_region
  all_goals (refine hMet _ _ (Met.intro (hJR _ _ ?_)); (repeat apply Exists.intro); refine ⟨?_, rfl⟩)
  ·exact start_inv false W _ n
  ·exact start_inv true W _ n
 case rest =>
  obtain ⟨B2, bg, blk, c0, rfl, I0, hbel0, hg0, hblk0⟩ := hcut
  have hsz0 := hbel0.size
  go_wp2
  go_loopw [17] (fun i wr => ∃ (k : Nat) (c : Bool -> Nat -> Value), k <= ne /\ i = .int .i64 k /\ BInv B2 3 wr bg blk (.slice a ne cap) n c (adj es k) /\ Below W.heap.size W wr)
   (fun i _ => ne - (intOf i).toNat)
  case atStart => exact ⟨0, c0, Nat.zero_le _, rfl, I0, hbel0⟩
  case round =>
   obtain ⟨k, c, hk, rfl, I, hbel⟩ := hrel
   clear I0 hbel0
   by_cases hlt : k < ne
   ·obtain rfl := ha (by omega)
    have hb0 := hb0' (by omega)
    have hb0'' := Lib.hid hb0'
    clear hb0'
    obtain ⟨e1, e2, e3⟩ := hE k hlt
    obtain ⟨x0, x1, y0, y1⟩ := hR k hlt
    obtain ⟨x, hx⟩ : ∃ x : Nat, (es.getD k default).f = x := ⟨(es.getD k default).f.toNat, by omega⟩
    obtain ⟨y, hy⟩ : ∃ y : Nat, (es.getD k default).t = y := ⟨(es.getD k default).t.toNat, by omega⟩
    obtain ⟨d, hd⟩ : ∃ d, (es.getD k default).d = d := ⟨_, rfl⟩
    rw [hx] at e1 x1
    rw [hy] at e2 y1
    rw [hd] at e3
    have hxn : x < n := by omega
    have hyn : y < n := by omega
    rw [<- hbel.cell (p := ⟨b0, off + k * 3, none⟩) hb0] at e1
    rw [<- hbel.cell (p := ⟨b0, off + k * 3 + 1, none⟩) hb0] at e2
    rw [<- hbel.cell (p := ⟨b0, off + k * 3 + 2, none⟩) hb0] at e3
    have hE' := Lib.hid hE
    have hR' := Lib.hid hR
    have ha' := Lib.hid ha
    have hx' := Lib.hid hx
    have hy' := Lib.hid hy
    have hd' := Lib.hid hd
    clear hE hR ha hx hy hd x0 y0
    go_upto_region 5 with (fail)
    obtain ⟨eb, heb⟩ : ∃ eb, eb = wr.heap.size := ⟨_, rfl⟩
    rw [<- heb]
    have Ia := I.more (w' := wr.alloc (.cells #[.int .i64 (x : Int), .int .i64 (y : Int), .int .i64 d] 67)) (by rw [alloc_sz]; omega) (fun q hq => heap_alloc_old wr _ hq)
    have hn1 := heap_alloc_new wr (.cells #[.int .i64 (x : Int), .int .i64 (y : Int), .int .i64 d] 67)
    have hbelA := hbel.trans ((Below.alloc (Below.refl W.heap.size wr) (by have := hbel.size; omega) (.cells #[.int .i64 (x : Int), .int .i64 (y : Int), .int .i64 d] 67)))
    have hszA : (wr.alloc (.cells #[.int .i64 (x : Int), .int .i64 (y : Int), .int .i64 d] 67)).heap.size = eb + 1 := by rw [alloc_sz, heb]
    have hown1 : ∀ s j, j < n -> (c s j).ownBlock ≠ some eb := fun s j hj h => by have := (ownBlock_lt (I.own s j hj) h).2; omega
    rw [<- heb] at hn1
    have hlt2 : B2 <= eb := by have := I.sz; omega
    clear heb hbel I e1 e2 e3
    generalize wr.alloc (.cells #[.int .i64 (x : Int), .int .i64 (y : Int), .int .i64 d] 67) = wa at *
    have c0 : wa.cell? ⟨eb, 0, none⟩ = some (.int .i64 (x : Int)) := cell_in hn1 rfl
    have c1 : wa.cell? ⟨eb, 1, none⟩ = some (.int .i64 (y : Int)) := cell_in hn1 rfl
    clear hn1
    have hB0 : W.heap.size <= B2 := by have := hblk0 true; have := Ia.bt true; omega
    go_cut [7, 19] from 22 to 58 (fun s7 s19 wx => ∃ v, s7 = .pointer (some ⟨eb, 0, none⟩) /\ s19 = .int .i64 (k : Int) /\ BInv B2 3 wx bg blk (.slice (some ⟨b0, off, none⟩) ne cap) n (updF c true x v) (updF (adj es k) true x (adj es k true x ++ [(k : Int)])) /\ Below W.heap.size W wx /\ wx.cell? ⟨eb, 1, none⟩ = some (.int .i64 (y : Int)) /\ eb < wx.heap.size)
    case first =>
     rename_i hJR hMet
     obtain ⟨Tg, qg⟩ := Ia.g
     obtain ⟨arr, Ta, qa, qs, qc⟩ := Ia.r true
     have s1 : wa.cell? ⟨bg, 1, none⟩ = some (.slice (some ⟨blk true, 0, none⟩) n n) := cell_in qg rfl
     have s2 : wa.cell? ⟨blk true, x, none⟩ = some (c true x) := cell_in qa (qc x hxn)
     have s3 : wa.frozen? ⟨blk true, x, none⟩ = false := free_in qa
     have ow := Ia.own true x hxn
     have ob : ∀ g, (c true x).ownBlock = some g -> B2 <= g := fun g hg => (ownBlock_lt ow hg).1
     have hobe := hown1 true x hxn
     generalize hv : c true x = v at *
     have lg : bg < wa.heap.size := by have := Ia.gt; omega
     have lb : blk true < wa.heap.size := by have := Ia.bt true; omega
     have le : eb < wa.heap.size := by omega
     have ag : v.ownBlock ≠ some bg := fun h => by have := ob _ h; have := Ia.gt; omega
     have ab : v.ownBlock ≠ some (blk true) := fun h => by have := ob _ h; have := Ia.bt true; omega
     have x0' : (0 : Int) <= (x : Int) := Int.natCast_nonneg _
     have x1' : (x : Int) < (n : Int) := by omega
     have hlen := adj_len es k true x
     have hmax : (adj es k true x).length + 1 <= maxLen := by unfold maxLen; omega
     have hbyt : ((adj es k true x).length + 1) * 8 <= 140737488355328 := by omega
     have hbase : B2 <= wa.heap.size + 1 := by omega
     have Ih := Lib.hid Ia
     have hown' := Lib.hid hown1
     have hqc := Lib.hid qc
     have hszA' := Lib.hid hszA
     clear hszA
     clear Ia hown1 qc ob hlen
     have hal := fun (o : Obj) (q : Nat) (hq : q < wa.heap.size) => heap_alloc_old wa o hq
     have gbt := Ih.out.gb true
     have ebt : eb ≠ blk true := by have := Ih.out.bt true; omega
     have nwb := World.new_ne wa ⟨blk true, x, none⟩ s2
     refine wp_region_noPanic ?_
     refine wp_region_held_drew (S := (fun w' => w'.cell? ⟨bg, 1, none⟩ = some (.slice (some ⟨blk true, 0, none⟩) n n) /\ w'.cell? ⟨eb, 0, none⟩ = some (.int .i64 (x : Int)))) (by kernel_rfl) ?_ (fun hHeld => ?_)
     ·exact keepS s1 c0 rfl rfl
     ((refine opTake (i := (0)) (v := ?_) rfl (Or.inl ⟨by rfl, ?_⟩) (by assumption) ?_; rotate_left; (focus (intro w hSw; (try dsimp only at hSw); go_simp; (try with_reducible rfl); done)); (try simp only [Act.put, List.setIfInBounds_toArray, List.set_cons_zero, List.set_cons_succ])))
     ((refine opTake (i := (1)) (v := ?_) rfl (Or.inl ⟨by rfl, ?_⟩) (by assumption) ?_; rotate_left; (focus (intro w hSw; (try dsimp only at hSw); go_simp; (try with_reducible rfl); done)); (try simp only [Act.put, List.setIfInBounds_toArray, List.set_cons_zero, List.set_cons_succ])))
     ((refine opTake (i := (2)) (v := ?_) rfl (Or.inl ⟨by rfl, ?_⟩) (by assumption) ?_; rotate_left; (focus (intro w hSw; (try dsimp only at hSw); go_simp; (try with_reducible rfl); done)); (try simp only [Act.put, List.setIfInBounds_toArray, List.set_cons_zero, List.set_cons_succ])))
     ((refine opTake (i := (3)) (v := ?_) rfl (Or.inl ⟨by rfl, ?_⟩) (by assumption) ?_; rotate_left; (focus (intro w hSw; (try dsimp only at hSw); go_simp; (try with_reducible rfl); done)); (try simp only [Act.put, List.setIfInBounds_toArray, List.set_cons_zero, List.set_cons_succ])))
     ((refine opTake (i := (4)) (v := ?_) rfl (Or.inl ⟨by rfl, ?_⟩) (by assumption) ?_; rotate_left; (focus (intro w hSw; (try dsimp only at hSw); go_simp; (try with_reducible rfl); done)); (try simp only [Act.put, List.setIfInBounds_toArray, List.set_cons_zero, List.set_cons_succ])))
     ((refine opTake (i := (5)) (v := ?_) rfl (Or.inl ⟨by rfl, ?_⟩) (by assumption) ?_; rotate_left; (focus (intro w hSw; (try dsimp only at hSw); go_simp; (try with_reducible rfl); done)); (try simp only [Act.put, List.setIfInBounds_toArray, List.set_cons_zero, List.set_cons_succ])))
     ((refine opTake (i := (6)) (v := ?_) rfl (Or.inl ⟨by rfl, ?_⟩) (by assumption) ?_; rotate_left; (focus (intro w hSw; (try dsimp only at hSw); go_simp; (try with_reducible rfl); done)); (try simp only [Act.put, List.setIfInBounds_toArray, List.set_cons_zero, List.set_cons_succ])))
     ((refine opTake (i := (7)) (v := ?_) rfl (Or.inl ⟨by rfl, ?_⟩) (by assumption) ?_; rotate_left; (focus (intro w hSw; (try dsimp only at hSw); go_simp; (try with_reducible rfl); done)); (try simp only [Act.put, List.setIfInBounds_toArray, List.set_cons_zero, List.set_cons_succ])))
     ((refine opTake (i := (8)) (v := ?_) rfl (Or.inl ⟨by rfl, ?_⟩) (by assumption) ?_; rotate_left; (focus (intro w hSw; (try dsimp only at hSw); go_simp; (try with_reducible rfl); done)); (try simp only [Act.put, List.setIfInBounds_toArray, List.set_cons_zero, List.set_cons_succ])))
     ((refine opTake (i := (9)) (v := ?_) rfl (Or.inl ⟨by rfl, ?_⟩) (by assumption) ?_; rotate_left; (focus (intro w hSw; (try dsimp only at hSw); go_simp; (try with_reducible rfl); done)); (try simp only [Act.put, List.setIfInBounds_toArray, List.set_cons_zero, List.set_cons_succ])))
     ((refine opTake (i := (10)) (v := ?_) rfl (Or.inl ⟨by rfl, ?_⟩) (by assumption) ?_; rotate_left; (focus (intro w hSw; (try dsimp only at hSw); go_simp; (try with_reducible rfl); done)); (try simp only [Act.put, List.setIfInBounds_toArray, List.set_cons_zero, List.set_cons_succ])))
     ((refine opTake (i := (11)) (v := ?_) rfl (Or.inl ⟨by rfl, ?_⟩) (by assumption) ?_; rotate_left; (focus (intro w hSw; (try dsimp only at hSw); go_simp; (try with_reducible rfl); done)); (try simp only [Act.put, List.setIfInBounds_toArray, List.set_cons_zero, List.set_cons_succ])))
     ((refine opTake (i := (12)) (v := ?_) rfl (Or.inl ⟨by rfl, ?_⟩) (by assumption) ?_; rotate_left; (focus (intro w hSw; (try dsimp only at hSw); go_simp; (try with_reducible rfl); done)); (try simp only [Act.put, List.setIfInBounds_toArray, List.set_cons_zero, List.set_cons_succ])))
     ((refine opTake (i := (14)) (v := ?_) rfl (Or.inl ⟨by rfl, ?_⟩) (by assumption) ?_; rotate_left; (focus (intro w hSw; (try dsimp only at hSw); go_simp; (try with_reducible rfl); done)); (try simp only [Act.put, List.setIfInBounds_toArray, List.set_cons_zero, List.set_cons_succ])))
     refine wpAnyH_ready (rs := [13, 15]) (by kernel_rfl) (by simp) ?_
     refine opCons (i := 13) rfl (fun K hK => ?_) (opCons (i := 15) rfl (fun K hK => ?_) AllReadyH.nil)
     ·go_simp
      refine hK.out _ _ ?_ (fun hHeld2 => ?_)
      ·((try dsimp only); first | exact keepS s1 c0 rfl rfl | exact keepS s1 c0 (hal _ _ lg) (hal _ _ le) | exact keepS s1 c0 ((hgrow.block _ (by simp; omega) (Ne.symm ag)).trans (hal _ _ lg)) ((hgrow.block _ (by simp; omega) (Ne.symm hobe)).trans (hal _ _ le)) | exact keepS s1 c0 ((setCell_other gbt).trans ((hgrow.block _ (by simp; omega) (Ne.symm ag)).trans (hal _ _ lg))) ((setCell_other ebt).trans ((hgrow.block _ (by simp; omega) (Ne.symm hobe)).trans (hal _ _ le))))
      clear hK K hHeld
      have hHeld := hHeld2
      clear hHeld2
      (try simp only [Act.put, List.setIfInBounds_toArray, List.set_cons_zero, List.set_cons_succ])
      refine wpAnyH_ready (rs := [15]) (by kernel_rfl) (by simp) ?_
      refine opCons (i := 15) rfl (fun K hK => ?_) AllReadyH.nil
      go_simp
      refine hK.out _ _ ?_ (fun hHeld2 => ?_)
      ·((try dsimp only); first | exact keepS s1 c0 rfl rfl | exact keepS s1 c0 (hal _ _ lg) (hal _ _ le) | exact keepS s1 c0 ((hgrow.block _ (by simp; omega) (Ne.symm ag)).trans (hal _ _ lg)) ((hgrow.block _ (by simp; omega) (Ne.symm hobe)).trans (hal _ _ le)) | exact keepS s1 c0 ((setCell_other gbt).trans ((hgrow.block _ (by simp; omega) (Ne.symm ag)).trans (hal _ _ lg))) ((setCell_other ebt).trans ((hgrow.block _ (by simp; omega) (Ne.symm hobe)).trans (hal _ _ le))))
      clear hK K hHeld
      have hHeld := hHeld2
      clear hHeld2
      (try simp only [Act.put, List.setIfInBounds_toArray, List.set_cons_zero, List.set_cons_succ])
      refine wpAnyH_ready (rs := [16]) (by kernel_rfl) (by simp) ?_
      refine opCons (i := 16) rfl (fun K hK => ?_) AllReadyH.nil
      refine step_append_lies _ (by rfl) _ _ _ (by rfl) B2 3 iI _ 1 8 Try.underlying28 hiI hzI hsI hbI rfl (by omega) v (adj es k true x).length (ints (adj es k true x)) (by rfl) ((ow.alloc _).drew) ⟨wa.heap.size, 0, none⟩ 1 1 [.int .i64 (k : Int)] (by rfl) (by rfl) (World.news_of_block (cs := #[.int .i64 (k : Int)]) (t := 3) (fr := (0, 0)) (heap_alloc_new wa _)) (by simp [Value.oneCell']) (by omega) hmax hbyt (by simp; omega) (wa.heap.size + 1) (by simp) ?_
      intro gg cap2 w1 hown2 hgrow hat hlt4
      have hfr := frz_any s3 ((hgrow.block (blk true) (by simp; omega) (Ne.symm ab)).trans (heap_alloc_old wa _ lb))
      have hce := (World.cell?_of_block (a := ⟨blk true, x, none⟩) ((hgrow.block (blk true) (by simp; omega) (Ne.symm ab)).trans (heap_alloc_old wa _ lb))).trans s2
      refine hK.out _ _ ?_ (fun hHeld2 => ?_)
      ·((try dsimp only); first | exact keepS s1 c0 rfl rfl | exact keepS s1 c0 (hal _ _ lg) (hal _ _ le) | exact keepS s1 c0 ((hgrow.block _ (by simp; omega) (Ne.symm ag)).trans (hal _ _ lg)) ((hgrow.block _ (by simp; omega) (Ne.symm hobe)).trans (hal _ _ le)) | exact keepS s1 c0 ((setCell_other gbt).trans ((hgrow.block _ (by simp; omega) (Ne.symm ag)).trans (hal _ _ lg))) ((setCell_other ebt).trans ((hgrow.block _ (by simp; omega) (Ne.symm hobe)).trans (hal _ _ le))))
      clear hK K hHeld
      have hHeld := hHeld2
      clear hHeld2
      (try simp only [Act.put, List.setIfInBounds_toArray, List.set_cons_zero, List.set_cons_succ])
      ((refine opTake (i := (17)) (v := ?_) rfl (Or.inl ⟨by rfl, ?_⟩) (by assumption) ?_; rotate_left; (focus (intro w hSw; (try dsimp only at hSw); go_simp; (try with_reducible rfl); done)); (try simp only [Act.put, List.setIfInBounds_toArray, List.set_cons_zero, List.set_cons_succ])))
      refine wpAnyH_ready (rs := [18]) (by kernel_rfl) (by simp) ?_
      refine opCons (i := 18) rfl (fun K hK => ?_) AllReadyH.nil
      go_simp
      refine hK.out _ _ ?_ (fun hHeld2 => ?_)
      ·((try dsimp only); first | exact keepS s1 c0 rfl rfl | exact keepS s1 c0 (hal _ _ lg) (hal _ _ le) | exact keepS s1 c0 ((hgrow.block _ (by simp; omega) (Ne.symm ag)).trans (hal _ _ lg)) ((hgrow.block _ (by simp; omega) (Ne.symm hobe)).trans (hal _ _ le)) | exact keepS s1 c0 ((setCell_other gbt).trans ((hgrow.block _ (by simp; omega) (Ne.symm ag)).trans (hal _ _ lg))) ((setCell_other ebt).trans ((hgrow.block _ (by simp; omega) (Ne.symm hobe)).trans (hal _ _ le))))
      clear hK K hHeld
      have hHeld := hHeld2
      clear hHeld2
      (try simp only [Act.put, List.setIfInBounds_toArray, List.set_cons_zero, List.set_cons_succ])
      refine wpAnyH_done (by kernel_rfl) ?_ _
      refine NoPanic.normal ?_
      refine hMet _ _ (Met.intro (hJR _ _ ?_))
      (repeat apply Exists.intro)
      refine ⟨⟨.slice (some ⟨gg, 0, none⟩) ((adj es k true x).length + 1) cap2, rfl, rfl, ?_⟩, rfl⟩
      subst hv
      exact fin5 Ih.out hbelA hxn hal hown2 hgrow hat (hgrow.size) c1 le (hown'.out true x hxn) ebt hB0 hblk0
     ·go_simp
      refine hK.out _ _ ?_ (fun hHeld2 => ?_)
      ·((try dsimp only); first | exact keepS s1 c0 rfl rfl | exact keepS s1 c0 (hal _ _ lg) (hal _ _ le) | exact keepS s1 c0 ((hgrow.block _ (by simp; omega) (Ne.symm ag)).trans (hal _ _ lg)) ((hgrow.block _ (by simp; omega) (Ne.symm hobe)).trans (hal _ _ le)) | exact keepS s1 c0 ((setCell_other gbt).trans ((hgrow.block _ (by simp; omega) (Ne.symm ag)).trans (hal _ _ lg))) ((setCell_other ebt).trans ((hgrow.block _ (by simp; omega) (Ne.symm hobe)).trans (hal _ _ le))))
      clear hK K hHeld
      have hHeld := hHeld2
      clear hHeld2
      (try simp only [Act.put, List.setIfInBounds_toArray, List.set_cons_zero, List.set_cons_succ])
      refine wpAnyH_ready (rs := [13]) (by kernel_rfl) (by simp) ?_
      refine opCons (i := 13) rfl (fun K hK => ?_) AllReadyH.nil
      go_simp
      refine hK.out _ _ ?_ (fun hHeld2 => ?_)
      ·((try dsimp only); first | exact keepS s1 c0 rfl rfl | exact keepS s1 c0 (hal _ _ lg) (hal _ _ le) | exact keepS s1 c0 ((hgrow.block _ (by simp; omega) (Ne.symm ag)).trans (hal _ _ lg)) ((hgrow.block _ (by simp; omega) (Ne.symm hobe)).trans (hal _ _ le)) | exact keepS s1 c0 ((setCell_other gbt).trans ((hgrow.block _ (by simp; omega) (Ne.symm ag)).trans (hal _ _ lg))) ((setCell_other ebt).trans ((hgrow.block _ (by simp; omega) (Ne.symm hobe)).trans (hal _ _ le))))
      clear hK K hHeld
      have hHeld := hHeld2
      clear hHeld2
      (try simp only [Act.put, List.setIfInBounds_toArray, List.set_cons_zero, List.set_cons_succ])
      refine wpAnyH_ready (rs := [16]) (by kernel_rfl) (by simp) ?_
      refine opCons (i := 16) rfl (fun K hK => ?_) AllReadyH.nil
      refine step_append_lies _ (by rfl) _ _ _ (by rfl) B2 3 iI _ 1 8 Try.underlying28 hiI hzI hsI hbI rfl (by omega) v (adj es k true x).length (ints (adj es k true x)) (by rfl) ((ow.alloc _).drew) ⟨wa.heap.size, 0, none⟩ 1 1 [.int .i64 (k : Int)] (by rfl) (by rfl) (World.news_of_block (cs := #[.int .i64 (k : Int)]) (t := 3) (fr := (0, 0)) (heap_alloc_new wa _)) (by simp [Value.oneCell']) (by omega) hmax hbyt (by simp; omega) (wa.heap.size + 1) (by simp) ?_
      intro gg cap2 w1 hown2 hgrow hat hlt4
      have hfr := frz_any s3 ((hgrow.block (blk true) (by simp; omega) (Ne.symm ab)).trans (heap_alloc_old wa _ lb))
      have hce := (World.cell?_of_block (a := ⟨blk true, x, none⟩) ((hgrow.block (blk true) (by simp; omega) (Ne.symm ab)).trans (heap_alloc_old wa _ lb))).trans s2
      refine hK.out _ _ ?_ (fun hHeld2 => ?_)
      ·((try dsimp only); first | exact keepS s1 c0 rfl rfl | exact keepS s1 c0 (hal _ _ lg) (hal _ _ le) | exact keepS s1 c0 ((hgrow.block _ (by simp; omega) (Ne.symm ag)).trans (hal _ _ lg)) ((hgrow.block _ (by simp; omega) (Ne.symm hobe)).trans (hal _ _ le)) | exact keepS s1 c0 ((setCell_other gbt).trans ((hgrow.block _ (by simp; omega) (Ne.symm ag)).trans (hal _ _ lg))) ((setCell_other ebt).trans ((hgrow.block _ (by simp; omega) (Ne.symm hobe)).trans (hal _ _ le))))
      clear hK K hHeld
      have hHeld := hHeld2
      clear hHeld2
      (try simp only [Act.put, List.setIfInBounds_toArray, List.set_cons_zero, List.set_cons_succ])
      ((refine opTake (i := (17)) (v := ?_) rfl (Or.inl ⟨by rfl, ?_⟩) (by assumption) ?_; rotate_left; (focus (intro w hSw; (try dsimp only at hSw); go_simp; (try with_reducible rfl); done)); (try simp only [Act.put, List.setIfInBounds_toArray, List.set_cons_zero, List.set_cons_succ])))
      refine wpAnyH_ready (rs := [18]) (by kernel_rfl) (by simp) ?_
      refine opCons (i := 18) rfl (fun K hK => ?_) AllReadyH.nil
      go_simp
      refine hK.out _ _ ?_ (fun hHeld2 => ?_)
      ·((try dsimp only); first | exact keepS s1 c0 rfl rfl | exact keepS s1 c0 (hal _ _ lg) (hal _ _ le) | exact keepS s1 c0 ((hgrow.block _ (by simp; omega) (Ne.symm ag)).trans (hal _ _ lg)) ((hgrow.block _ (by simp; omega) (Ne.symm hobe)).trans (hal _ _ le)) | exact keepS s1 c0 ((setCell_other gbt).trans ((hgrow.block _ (by simp; omega) (Ne.symm ag)).trans (hal _ _ lg))) ((setCell_other ebt).trans ((hgrow.block _ (by simp; omega) (Ne.symm hobe)).trans (hal _ _ le))))
      clear hK K hHeld
      have hHeld := hHeld2
      clear hHeld2
      (try simp only [Act.put, List.setIfInBounds_toArray, List.set_cons_zero, List.set_cons_succ])
      refine wpAnyH_done (by kernel_rfl) ?_ _
      refine NoPanic.normal ?_
      refine hMet _ _ (Met.intro (hJR _ _ ?_))
      (repeat apply Exists.intro)
      refine ⟨⟨.slice (some ⟨gg, 0, none⟩) ((adj es k true x).length + 1) cap2, rfl, rfl, ?_⟩, rfl⟩
      subst hv
      exact fin5 Ih.out hbelA hxn hal hown2 hgrow hat (hgrow.size) c1 le (hown'.out true x hxn) ebt hB0 hblk0
    case rest =>
     obtain ⟨v1, rfl, rfl, I2, hbel2, c12, hlt3⟩ := hcut
     have hobe : (updF c true x v1 false y).ownBlock ≠ some eb := hown1 false y hyn
     have hlen : (updF (adj es k) true x (adj es k true x ++ [(k : Int)]) false y).length <= k := adj_len es k false y
     generalize hc2 : updF c true x v1 = c2 at *
     generalize hL2 : updF (adj es k) true x (adj es k true x ++ [(k : Int)]) = L2 at *
     clear Ia hown1 c0 c1 hbelA hszA
     obtain ⟨wb, hwb⟩ : ∃ wb, wb = wc := ⟨_, rfl⟩
     rw [<- hwb] at I2 hbel2 c12 hlt3 ⊢
     clear hwb
     go_upto_region 6 with (fail)
     obtain ⟨Tg, qg⟩ := I2.g
     obtain ⟨arr, Ta, qa, qs, qc⟩ := I2.r false
     have s1 : wb.cell? ⟨bg, 2, none⟩ = some (.slice (some ⟨blk false, 0, none⟩) n n) := cell_in qg rfl
     have s2 : wb.cell? ⟨blk false, y, none⟩ = some (c2 false y) := cell_in qa (qc y hyn)
     have s3 : wb.frozen? ⟨blk false, y, none⟩ = false := free_in qa
     have ow := I2.own false y hyn
     have ob : ∀ g, (c2 false y).ownBlock = some g -> B2 <= g := fun g hg => (ownBlock_lt ow hg).1
     generalize hv : c2 false y = v at *
     have lg : bg < wb.heap.size := by have := I2.gt; have := I2.sz; omega
     have lb : blk false < wb.heap.size := by have := I2.bt false; have := I2.sz; omega
     have le : eb < wb.heap.size := hlt3
     have ag : v.ownBlock ≠ some bg := fun h => by have := ob _ h; have := I2.gt; omega
     have ab : v.ownBlock ≠ some (blk false) := fun h => by have := ob _ h; have := I2.bt false; omega
     have x0' : (0 : Int) <= (y : Int) := Int.natCast_nonneg _
     have x1' : (y : Int) < (n : Int) := by omega
     have hmax : (L2 false y).length + 1 <= maxLen := by unfold maxLen; omega
     have hbyt : ((L2 false y).length + 1) * 8 <= 140737488355328 := by omega
     have hbase : B2 <= wb.heap.size + 1 := by have := I2.sz; omega
     have Ih := Lib.hid I2
     have hqc := Lib.hid qc
     have hc2' := Lib.hid hc2
     have hL2' := Lib.hid hL2
     clear I2 qc ob hlen hc2 hL2
     have hal := fun (o : Obj) (q : Nat) (hq : q < wb.heap.size) => heap_alloc_old wb o hq
     have gbt := Ih.out.gb false
     have ebt : eb ≠ blk false := by have := Ih.out.bt false; omega
     have nwb := World.new_ne wb ⟨blk false, y, none⟩ s2
     refine wp_region_noPanic ?_
     refine wp_region_held_drew (S := (fun w' => w'.cell? ⟨bg, 2, none⟩ = some (.slice (some ⟨blk false, 0, none⟩) n n) /\ w'.cell? ⟨eb, 1, none⟩ = some (.int .i64 (y : Int)))) (by kernel_rfl) ?_ (fun hHeld => ?_)
     ·exact keepS s1 c12 rfl rfl
     ((refine opTake (i := (0)) (v := ?_) rfl (Or.inl ⟨by rfl, ?_⟩) (by assumption) ?_; rotate_left; (focus (intro w hSw; (try dsimp only at hSw); go_simp; (try with_reducible rfl); done)); (try simp only [Act.put, List.setIfInBounds_toArray, List.set_cons_zero, List.set_cons_succ])))
     ((refine opTake (i := (1)) (v := ?_) rfl (Or.inl ⟨by rfl, ?_⟩) (by assumption) ?_; rotate_left; (focus (intro w hSw; (try dsimp only at hSw); go_simp; (try with_reducible rfl); done)); (try simp only [Act.put, List.setIfInBounds_toArray, List.set_cons_zero, List.set_cons_succ])))
     ((refine opTake (i := (2)) (v := ?_) rfl (Or.inl ⟨by rfl, ?_⟩) (by assumption) ?_; rotate_left; (focus (intro w hSw; (try dsimp only at hSw); go_simp; (try with_reducible rfl); done)); (try simp only [Act.put, List.setIfInBounds_toArray, List.set_cons_zero, List.set_cons_succ])))
     ((refine opTake (i := (3)) (v := ?_) rfl (Or.inl ⟨by rfl, ?_⟩) (by assumption) ?_; rotate_left; (focus (intro w hSw; (try dsimp only at hSw); go_simp; (try with_reducible rfl); done)); (try simp only [Act.put, List.setIfInBounds_toArray, List.set_cons_zero, List.set_cons_succ])))
     ((refine opTake (i := (4)) (v := ?_) rfl (Or.inl ⟨by rfl, ?_⟩) (by assumption) ?_; rotate_left; (focus (intro w hSw; (try dsimp only at hSw); go_simp; (try with_reducible rfl); done)); (try simp only [Act.put, List.setIfInBounds_toArray, List.set_cons_zero, List.set_cons_succ])))
     ((refine opTake (i := (5)) (v := ?_) rfl (Or.inl ⟨by rfl, ?_⟩) (by assumption) ?_; rotate_left; (focus (intro w hSw; (try dsimp only at hSw); go_simp; (try with_reducible rfl); done)); (try simp only [Act.put, List.setIfInBounds_toArray, List.set_cons_zero, List.set_cons_succ])))
     ((refine opTake (i := (6)) (v := ?_) rfl (Or.inl ⟨by rfl, ?_⟩) (by assumption) ?_; rotate_left; (focus (intro w hSw; (try dsimp only at hSw); go_simp; (try with_reducible rfl); done)); (try simp only [Act.put, List.setIfInBounds_toArray, List.set_cons_zero, List.set_cons_succ])))
     ((refine opTake (i := (7)) (v := ?_) rfl (Or.inl ⟨by rfl, ?_⟩) (by assumption) ?_; rotate_left; (focus (intro w hSw; (try dsimp only at hSw); go_simp; (try with_reducible rfl); done)); (try simp only [Act.put, List.setIfInBounds_toArray, List.set_cons_zero, List.set_cons_succ])))
     ((refine opTake (i := (8)) (v := ?_) rfl (Or.inl ⟨by rfl, ?_⟩) (by assumption) ?_; rotate_left; (focus (intro w hSw; (try dsimp only at hSw); go_simp; (try with_reducible rfl); done)); (try simp only [Act.put, List.setIfInBounds_toArray, List.set_cons_zero, List.set_cons_succ])))
     ((refine opTake (i := (9)) (v := ?_) rfl (Or.inl ⟨by rfl, ?_⟩) (by assumption) ?_; rotate_left; (focus (intro w hSw; (try dsimp only at hSw); go_simp; (try with_reducible rfl); done)); (try simp only [Act.put, List.setIfInBounds_toArray, List.set_cons_zero, List.set_cons_succ])))
     ((refine opTake (i := (10)) (v := ?_) rfl (Or.inl ⟨by rfl, ?_⟩) (by assumption) ?_; rotate_left; (focus (intro w hSw; (try dsimp only at hSw); go_simp; (try with_reducible rfl); done)); (try simp only [Act.put, List.setIfInBounds_toArray, List.set_cons_zero, List.set_cons_succ])))
     ((refine opTake (i := (11)) (v := ?_) rfl (Or.inl ⟨by rfl, ?_⟩) (by assumption) ?_; rotate_left; (focus (intro w hSw; (try dsimp only at hSw); go_simp; (try with_reducible rfl); done)); (try simp only [Act.put, List.setIfInBounds_toArray, List.set_cons_zero, List.set_cons_succ])))
     ((refine opTake (i := (12)) (v := ?_) rfl (Or.inl ⟨by rfl, ?_⟩) (by assumption) ?_; rotate_left; (focus (intro w hSw; (try dsimp only at hSw); go_simp; (try with_reducible rfl); done)); (try simp only [Act.put, List.setIfInBounds_toArray, List.set_cons_zero, List.set_cons_succ])))
     ((refine opTake (i := (14)) (v := ?_) rfl (Or.inl ⟨by rfl, ?_⟩) (by assumption) ?_; rotate_left; (focus (intro w hSw; (try dsimp only at hSw); go_simp; (try with_reducible rfl); done)); (try simp only [Act.put, List.setIfInBounds_toArray, List.set_cons_zero, List.set_cons_succ])))
     refine wpAnyH_ready (rs := [13, 15]) (by kernel_rfl) (by simp) ?_
     refine opCons (i := 13) rfl (fun K hK => ?_) (opCons (i := 15) rfl (fun K hK => ?_) AllReadyH.nil)
     ·go_simp
      refine hK.out _ _ ?_ (fun hHeld2 => ?_)
      ·((try dsimp only); first | exact keepS s1 c12 rfl rfl | exact keepS s1 c12 (hal _ _ lg) (hal _ _ le) | exact keepS s1 c12 ((hgrow.block _ (by simp; omega) (Ne.symm ag)).trans (hal _ _ lg)) ((hgrow.block _ (by simp; omega) (Ne.symm hobe)).trans (hal _ _ le)) | exact keepS s1 c12 ((setCell_other gbt).trans ((hgrow.block _ (by simp; omega) (Ne.symm ag)).trans (hal _ _ lg))) ((setCell_other ebt).trans ((hgrow.block _ (by simp; omega) (Ne.symm hobe)).trans (hal _ _ le))))
      clear hK K hHeld
      have hHeld := hHeld2
      clear hHeld2
      (try simp only [Act.put, List.setIfInBounds_toArray, List.set_cons_zero, List.set_cons_succ])
      refine wpAnyH_ready (rs := [15]) (by kernel_rfl) (by simp) ?_
      refine opCons (i := 15) rfl (fun K hK => ?_) AllReadyH.nil
      go_simp
      refine hK.out _ _ ?_ (fun hHeld2 => ?_)
      ·((try dsimp only); first | exact keepS s1 c12 rfl rfl | exact keepS s1 c12 (hal _ _ lg) (hal _ _ le) | exact keepS s1 c12 ((hgrow.block _ (by simp; omega) (Ne.symm ag)).trans (hal _ _ lg)) ((hgrow.block _ (by simp; omega) (Ne.symm hobe)).trans (hal _ _ le)) | exact keepS s1 c12 ((setCell_other gbt).trans ((hgrow.block _ (by simp; omega) (Ne.symm ag)).trans (hal _ _ lg))) ((setCell_other ebt).trans ((hgrow.block _ (by simp; omega) (Ne.symm hobe)).trans (hal _ _ le))))
      clear hK K hHeld
      have hHeld := hHeld2
      clear hHeld2
      (try simp only [Act.put, List.setIfInBounds_toArray, List.set_cons_zero, List.set_cons_succ])
      refine wpAnyH_ready (rs := [16]) (by kernel_rfl) (by simp) ?_
      refine opCons (i := 16) rfl (fun K hK => ?_) AllReadyH.nil
      refine step_append_lies _ (by rfl) _ _ _ (by rfl) B2 3 iI _ 1 8 Try.underlying28 hiI hzI hsI hbI rfl (by omega) v (L2 false y).length (ints (L2 false y)) (by rfl) ((ow.alloc _).drew) ⟨wb.heap.size, 0, none⟩ 1 1 [.int .i64 (k : Int)] (by rfl) (by rfl) (World.news_of_block (cs := #[.int .i64 (k : Int)]) (t := 3) (fr := (0, 0)) (heap_alloc_new wb _)) (by simp [Value.oneCell']) (by omega) hmax hbyt (by simp; omega) (wb.heap.size + 1) (by simp) ?_
      intro gg cap2 w1 hown2 hgrow hat hlt4
      have hfr := frz_any s3 ((hgrow.block (blk false) (by simp; omega) (Ne.symm ab)).trans (heap_alloc_old wb _ lb))
      have hce := (World.cell?_of_block (a := ⟨blk false, y, none⟩) ((hgrow.block (blk false) (by simp; omega) (Ne.symm ab)).trans (heap_alloc_old wb _ lb))).trans s2
      refine hK.out _ _ ?_ (fun hHeld2 => ?_)
      ·((try dsimp only); first | exact keepS s1 c12 rfl rfl | exact keepS s1 c12 (hal _ _ lg) (hal _ _ le) | exact keepS s1 c12 ((hgrow.block _ (by simp; omega) (Ne.symm ag)).trans (hal _ _ lg)) ((hgrow.block _ (by simp; omega) (Ne.symm hobe)).trans (hal _ _ le)) | exact keepS s1 c12 ((setCell_other gbt).trans ((hgrow.block _ (by simp; omega) (Ne.symm ag)).trans (hal _ _ lg))) ((setCell_other ebt).trans ((hgrow.block _ (by simp; omega) (Ne.symm hobe)).trans (hal _ _ le))))
      clear hK K hHeld
      have hHeld := hHeld2
      clear hHeld2
      (try simp only [Act.put, List.setIfInBounds_toArray, List.set_cons_zero, List.set_cons_succ])
      ((refine opTake (i := (17)) (v := ?_) rfl (Or.inl ⟨by rfl, ?_⟩) (by assumption) ?_; rotate_left; (focus (intro w hSw; (try dsimp only at hSw); go_simp; (try with_reducible rfl); done)); (try simp only [Act.put, List.setIfInBounds_toArray, List.set_cons_zero, List.set_cons_succ])))
      refine wpAnyH_ready (rs := [18]) (by kernel_rfl) (by simp) ?_
      refine opCons (i := 18) rfl (fun K hK => ?_) AllReadyH.nil
      go_simp
      refine hK.out _ _ ?_ (fun hHeld2 => ?_)
      ·((try dsimp only); first | exact keepS s1 c12 rfl rfl | exact keepS s1 c12 (hal _ _ lg) (hal _ _ le) | exact keepS s1 c12 ((hgrow.block _ (by simp; omega) (Ne.symm ag)).trans (hal _ _ lg)) ((hgrow.block _ (by simp; omega) (Ne.symm hobe)).trans (hal _ _ le)) | exact keepS s1 c12 ((setCell_other gbt).trans ((hgrow.block _ (by simp; omega) (Ne.symm ag)).trans (hal _ _ lg))) ((setCell_other ebt).trans ((hgrow.block _ (by simp; omega) (Ne.symm hobe)).trans (hal _ _ le))))
      clear hK K hHeld
      have hHeld := hHeld2
      clear hHeld2
      (try simp only [Act.put, List.setIfInBounds_toArray, List.set_cons_zero, List.set_cons_succ])
      refine wpAnyH_done (by kernel_rfl) ?_ _
      refine NoPanic.normal ?_
      subst hv
      have q := fin5 Ih.out hbel2 hyn hal hown2 hgrow hat (hgrow.size) c12 le hobe ebt hB0 hblk0
      obtain ⟨I3, hbel3, _, _⟩ := q
      have e3 : updF L2 false y (L2 false y ++ [(k : Int)]) = adj es (k + 1) := by
       rw [<- hL2'.out]; exact (adj_succ hx'.out hy'.out).symm
      rw [e3] at I3
      clear hown2 hgrow hat hfr hce Ih hlt4 ow
      generalize (w1.setCell ⟨blk false, y, none⟩ (.slice (some ⟨gg, 0, none⟩) ((L2 false y).length + 1) cap2)) = w3 at *
      go_wp2
      go_roundw
      case rel => exact ⟨k + 1, _, by omega, by go_num, I3, hbel3⟩
      case measure => simp [intOf]; omega
     ·go_simp
      refine hK.out _ _ ?_ (fun hHeld2 => ?_)
      ·((try dsimp only); first | exact keepS s1 c12 rfl rfl | exact keepS s1 c12 (hal _ _ lg) (hal _ _ le) | exact keepS s1 c12 ((hgrow.block _ (by simp; omega) (Ne.symm ag)).trans (hal _ _ lg)) ((hgrow.block _ (by simp; omega) (Ne.symm hobe)).trans (hal _ _ le)) | exact keepS s1 c12 ((setCell_other gbt).trans ((hgrow.block _ (by simp; omega) (Ne.symm ag)).trans (hal _ _ lg))) ((setCell_other ebt).trans ((hgrow.block _ (by simp; omega) (Ne.symm hobe)).trans (hal _ _ le))))
      clear hK K hHeld
      have hHeld := hHeld2
      clear hHeld2
      (try simp only [Act.put, List.setIfInBounds_toArray, List.set_cons_zero, List.set_cons_succ])
      refine wpAnyH_ready (rs := [13]) (by kernel_rfl) (by simp) ?_
      refine opCons (i := 13) rfl (fun K hK => ?_) AllReadyH.nil
      go_simp
      refine hK.out _ _ ?_ (fun hHeld2 => ?_)
      ·((try dsimp only); first | exact keepS s1 c12 rfl rfl | exact keepS s1 c12 (hal _ _ lg) (hal _ _ le) | exact keepS s1 c12 ((hgrow.block _ (by simp; omega) (Ne.symm ag)).trans (hal _ _ lg)) ((hgrow.block _ (by simp; omega) (Ne.symm hobe)).trans (hal _ _ le)) | exact keepS s1 c12 ((setCell_other gbt).trans ((hgrow.block _ (by simp; omega) (Ne.symm ag)).trans (hal _ _ lg))) ((setCell_other ebt).trans ((hgrow.block _ (by simp; omega) (Ne.symm hobe)).trans (hal _ _ le))))
      clear hK K hHeld
      have hHeld := hHeld2
      clear hHeld2
      (try simp only [Act.put, List.setIfInBounds_toArray, List.set_cons_zero, List.set_cons_succ])
      refine wpAnyH_ready (rs := [16]) (by kernel_rfl) (by simp) ?_
      refine opCons (i := 16) rfl (fun K hK => ?_) AllReadyH.nil
      refine step_append_lies _ (by rfl) _ _ _ (by rfl) B2 3 iI _ 1 8 Try.underlying28 hiI hzI hsI hbI rfl (by omega) v (L2 false y).length (ints (L2 false y)) (by rfl) ((ow.alloc _).drew) ⟨wb.heap.size, 0, none⟩ 1 1 [.int .i64 (k : Int)] (by rfl) (by rfl) (World.news_of_block (cs := #[.int .i64 (k : Int)]) (t := 3) (fr := (0, 0)) (heap_alloc_new wb _)) (by simp [Value.oneCell']) (by omega) hmax hbyt (by simp; omega) (wb.heap.size + 1) (by simp) ?_
      intro gg cap2 w1 hown2 hgrow hat hlt4
      have hfr := frz_any s3 ((hgrow.block (blk false) (by simp; omega) (Ne.symm ab)).trans (heap_alloc_old wb _ lb))
      have hce := (World.cell?_of_block (a := ⟨blk false, y, none⟩) ((hgrow.block (blk false) (by simp; omega) (Ne.symm ab)).trans (heap_alloc_old wb _ lb))).trans s2
      refine hK.out _ _ ?_ (fun hHeld2 => ?_)
      ·((try dsimp only); first | exact keepS s1 c12 rfl rfl | exact keepS s1 c12 (hal _ _ lg) (hal _ _ le) | exact keepS s1 c12 ((hgrow.block _ (by simp; omega) (Ne.symm ag)).trans (hal _ _ lg)) ((hgrow.block _ (by simp; omega) (Ne.symm hobe)).trans (hal _ _ le)) | exact keepS s1 c12 ((setCell_other gbt).trans ((hgrow.block _ (by simp; omega) (Ne.symm ag)).trans (hal _ _ lg))) ((setCell_other ebt).trans ((hgrow.block _ (by simp; omega) (Ne.symm hobe)).trans (hal _ _ le))))
      clear hK K hHeld
      have hHeld := hHeld2
      clear hHeld2
      (try simp only [Act.put, List.setIfInBounds_toArray, List.set_cons_zero, List.set_cons_succ])
      ((refine opTake (i := (17)) (v := ?_) rfl (Or.inl ⟨by rfl, ?_⟩) (by assumption) ?_; rotate_left; (focus (intro w hSw; (try dsimp only at hSw); go_simp; (try with_reducible rfl); done)); (try simp only [Act.put, List.setIfInBounds_toArray, List.set_cons_zero, List.set_cons_succ])))
      refine wpAnyH_ready (rs := [18]) (by kernel_rfl) (by simp) ?_
      refine opCons (i := 18) rfl (fun K hK => ?_) AllReadyH.nil
      go_simp
      refine hK.out _ _ ?_ (fun hHeld2 => ?_)
      ·((try dsimp only); first | exact keepS s1 c12 rfl rfl | exact keepS s1 c12 (hal _ _ lg) (hal _ _ le) | exact keepS s1 c12 ((hgrow.block _ (by simp; omega) (Ne.symm ag)).trans (hal _ _ lg)) ((hgrow.block _ (by simp; omega) (Ne.symm hobe)).trans (hal _ _ le)) | exact keepS s1 c12 ((setCell_other gbt).trans ((hgrow.block _ (by simp; omega) (Ne.symm ag)).trans (hal _ _ lg))) ((setCell_other ebt).trans ((hgrow.block _ (by simp; omega) (Ne.symm hobe)).trans (hal _ _ le))))
      clear hK K hHeld
      have hHeld := hHeld2
      clear hHeld2
      (try simp only [Act.put, List.setIfInBounds_toArray, List.set_cons_zero, List.set_cons_succ])
      refine wpAnyH_done (by kernel_rfl) ?_ _
      refine NoPanic.normal ?_
      subst hv
      have q := fin5 Ih.out hbel2 hyn hal hown2 hgrow hat (hgrow.size) c12 le hobe ebt hB0 hblk0
      obtain ⟨I3, hbel3, _, _⟩ := q
      have e3 : updF L2 false y (L2 false y ++ [(k : Int)]) = adj es (k + 1) := by
       rw [<- hL2'.out]; exact (adj_succ hx'.out hy'.out).symm
      rw [e3] at I3
      clear hown2 hgrow hat hfr hce Ih hlt4 ow
      generalize (w1.setCell ⟨blk false, y, none⟩ (.slice (some ⟨gg, 0, none⟩) ((L2 false y).length + 1) cap2)) = w3 at *
      go_wp2
      go_roundw
      case rel => exact ⟨k + 1, _, by omega, by go_num, I3, hbel3⟩
      case measure => simp [intOf]; omega
   ·obtain rfl : k = ne := by omega
    go_wp2
    go_ret
    exact ⟨_, rfl, B2, bg, blk, c, rfl, I, hbel, hg0, hblk0⟩
end Go.Sym