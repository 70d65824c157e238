import Derived.Test.YtmomlgnnbpkgcaaV2
import Derived.ProofKit
import Derived.Test.YtmomlgnnbpkgcaaRows
namespace Go.Sym
set_option linter.unusedVariables false
set_option linter.unusedSimpArgs false
open Go.Proofs Go.ChangeShapes Go.WideShapes Go.RowKit
theorem okWide_array' {P : Program} {w : World} {r : Reach} {base : Nat} {t n : Nat} {e : TypeId} {v : Value} (ht : P.underlying t = some (.array n e)) (h : Value.okWide P w r base t v) : ∃ cs, v = .agg cs /\ cs.size = P.cellsOf t := by
 simp only [Value.okWide, ht] at h
 obtain ⟨cs, h1, h2, _⟩ := h
 exact ⟨cs, h1, h2⟩
theorem arr4_in {H : Type} {enc : TypeId × Value -> H} {W : World} {cs : Array Value} {d : DataW H} {p : List MemPlace} (h : DataW.Trod enc Try.prog W 0 (fun _ => true) true 60 (.agg cs) d p) :
  ∃ a b c e : Int, cs.toList = [.int .i64 a, .int .i64 b, .int .i64 c, .int .i64 e] /\ inR .i64 a /\ inR .i64 b := by
 obtain ⟨fl, h⟩ := h
 have c1 : Try.prog.cellsOf 2 = 1 := by kernel_rfl
 have c4 : Try.prog.cellsOf 60 = 4 := by kernel_rfl
 obtain ⟨xs, m, _, ex, hlen, hl, hel⟩ := DataW.trod_array Try.underlying60 h
 rw [c4] at hlen
 rw [c1] at hel
 have hc : (Value.agg cs).cells.toList = cs.toList := rfl
 rw [hc] at hlen hel
 have get : ∀ i, i < 4 -> ∃ z : Int, cs.toList[i]? = some (.int .i64 z) /\ inR .i64 z := fun i hi => by
  have k := hel i hi
  rw [Nat.mul_one, List.getElem?_eq_getElem (by omega)] at k
  obtain ⟨z, a, b, hw⟩ := DataW.trod_int Try.underlying2 k
  refine ⟨z, ?_, inR_of_wf hw⟩
  have := congrArg (fun l => l[0]?) a
  simp only [List.getElem?_take, List.getElem?_drop, Nat.add_zero] at this
  simpa using this
 match hq : cs.toList, hlen with
 | [u0, u1, u2, u3], _ =>
  rw [hq] at get
  obtain ⟨a, ea, ra⟩ := get 0 (by decide)
  obtain ⟨b, eb, rb⟩ := get 1 (by decide)
  obtain ⟨c, ec, _⟩ := get 2 (by decide)
  obtain ⟨e, ee, _⟩ := get 3 (by decide)
  cases ea; cases eb; cases ec; cases ee
  exact ⟨a, b, c, e, rfl, ra, rb⟩
theorem arr4_den {at' : Nat -> Option Place} {W : World} {cs : Array Value} {a b c e : Int} (h : cs.toList = [.int .i64 a, .int .i64 b, .int .i64 c, .int .i64 e]) : Den ⟨at', zW W⟩ (.arr k1 4 (encL encI [a, b, c, e])) (.agg cs) := by
 have hg : ∀ i (v : Value), cs.toList[i]? = some v -> cs[i]? = some v := fun i v hv => by rw [<- Array.getElem?_toList]; exact hv
 rw [Den]
 refine ⟨cs, rfl, by rw [<- Array.length_toList, h]; rfl, fun r hr => ?_⟩
 show DenR _ [.int .i64] _ 0 cs (r * 1)
 rw [Nat.mul_one]
 simp only [DenR, DenD, and_true]
 match r, hr with
 | 0, _ => exact ⟨_, hg 0 _ (by rw [h]; rfl), rfl⟩
 | 1, _ => exact ⟨_, hg 1 _ (by rw [h]; rfl), rfl⟩
 | 2, _ => exact ⟨_, hg 2 _ (by rw [h]; rfl), rfl⟩
 | 3, _ => exact ⟨_, hg 3 _ (by rw [h]; rfl), rfl⟩
 | r + 4, hr => omega
theorem sl_len {z : Nat -> Option Obj} {ks : List Kd} {d : D} {a : Option Addr} {len cap : Nat} (h : DenD z (.sl ks) d (.slice a len cap)) : d.toN <= len := by
 simp only [DenD] at h
 rcases h with ⟨h, _⟩ | ⟨b, off, cap', arr, T, fz, h, _⟩
 ·omega
 ·have := Value.slice.inj h; omega
end Go.Sym
namespace Go.Proofs.Ytmomlgnnbpkgcaa
open Go.Sym Go.ChangeShapes Go.WideShapes Go.ChangeAt Go.RowKit
theorem many_len {H : Type} {enc : TypeId × Value -> H} {W : World} {cs : Array Value} {d : DataW H} {p : List MemPlace} {g : Nat -> D} (h : DataW.Trod enc Try.prog W 0 (fun _ => true) true 49 (.agg cs) d p) (hg : CellsD W kMany g 0 cs.toList) (hb : (d.weights Try.prog 49).all (· <= reachBytes) = true) :
  (g 0).toN <= 1034834473170 := by
 obtain ⟨fl, h⟩ := h
 obtain ⟨y0, y1, n, ed, _, q0, _⟩ := trod_struct2 Try.underlying49 h
 have c1 : Try.prog.cellsOf 47 = 1 := by kernel_rfl
 obtain ⟨u, hu, hd⟩ := hg.2 0 _ rfl
 have hc : ((Value.agg cs).cells.toList.drop 0).take (Try.prog.cellsOf 47) = [u] := by
  rw [c1, List.drop_zero]
  show cs.toList.take 1 = [u]
  cases hl : cs.toList with
  | nil => rw [hl] at hu; cases hu
  | cons x r => rw [hl] at hu; cases hu; rfl
 have q0 : DataW.trod enc Try.prog W 0 (fun _ => true) true n 47 (((Value.agg cs).cells.toList.drop 0).take (Try.prog.cellsOf 47)) = some y0 := q0
 rw [hc] at q0
 have ed := (Prod.mk.inj ed).1
 subst ed
 rcases DataW.trod_slice Try.underlying47 q0 with ⟨e1, _⟩ | ⟨a, len, cap, elems, rest, m, _, e1, e2, _, _, _, e3, _⟩
 ·cases e1
  have := sl_len (d := g 0) hd
  omega
 ·cases e1
  have h1 := sl_len (d := g 0) hd
  have hw : DataW.weights Try.prog 49 (DataW.agg [y0.1, y1.1]) = y0.1.weights Try.prog 47 ++ (y1.1.weights Try.prog 39 ++ []) := by
   simp only [DataW.weights, Try.underlying49]
   rfl
  rw [hw, e2] at hb
  rw [List.all_eq_true] at hb
  have bi : Try.prog.bytesOf 37 = 136 := by kernel_rfl
  have h3 := hb (((elems.map (·.1)).length + (rest.map (·.1)).length) * Try.prog.bytesOf 37) (by
   refine List.mem_append.2 (.inl ?_)
   simp only [DataW.weights, Try.underlying47]
   exact List.mem_cons_self ..)
  rw [bi] at h3
  have h3 := of_decide_eq_true h3
  have : reachBytes = 140737488351232 := rfl
  rw [List.length_map, List.length_map] at h3
  omega
end Go.Proofs.Ytmomlgnnbpkgcaa