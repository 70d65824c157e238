import Derived.Test.YtmomlgnnbpkgcaaU9
namespace Go.Sym
set_option linter.unusedVariables false
set_option linter.unusedSimpArgs false
open Go.Proofs
set_option maxHeartbeats 4000000
structure S2x where
 t : Twn
 x : ICx
 near : Int
 win : Int
def s2A (x : S2x) : List SV := [twA x.t, icA x.x 100002, .agg [.i .i64 x.near, .i .i64 x.win]]
def s2H (x : S2x) : List (Nat × Blk) := twH x.t ++ icH x.x 100002
def lawS (b : Bool) : CT := ⟨S2x, fun x => True /\ twOk x.t = b, s2A, s2H, fun _ => .b true, fun _ => []⟩
theorem sok {x : S2x} (h : twOk x.t = true) (h2 : (!few2 x.x) = false) (near win : Int) (ts : List Int) : SIok ⟨x.t.g, ts, x.x.x, x.x.t, near, win⟩ := by
 have q := tw_ok h
 have f := few2_ok (notT h2)
 exact ⟨q.g, q.n, by show x.x.x.nodes.length <= _; omega, by show x.x.t.nodes.length <= _; omega, by show x.x.x.code.size <= _; omega, by show x.x.t.code.size <= _; omega⟩
def lawSC : CT := ⟨S2x, fun x => True, s2A, s2H, fun _ => .b true, fun _ => []⟩
end Go.Sym