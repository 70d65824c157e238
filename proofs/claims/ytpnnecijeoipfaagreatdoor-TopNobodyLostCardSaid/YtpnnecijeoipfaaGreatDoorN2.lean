import Derived.Test.YtpnnecijeoipfaaGreatDoorN1
import Derived.Test.YtpnnecijeoipfaaGreatDoorXD
namespace Go.Sym
set_option linter.unusedVariables false
set_option linter.unusedSimpArgs false
open Go.Proofs
set_option maxRecDepth 100000
def szW (ws:List Nat):Nat:=if ws=nilW then 0 else 64
theorem szW_zero {ws:List Nat}:szW ws=0↔ws=nilW:=by unfold szW;split <;>simp_all
theorem szW_le (ws:List Nat):szW ws<=64:=by unfold szW;split <;>omega
theorem szW_full {ws:List Nat} (h:¬ szW ws=0):szW ws=64:=by unfold szW at *;split at h <;>simp_all
def setV (ws:List Nat) (l:Nat):SV:=.agg [.q l (szW ws)]
def setH (ws:List Nat) (m:Md) (l:Nat):List (Nat × Blk):=[(l,.rows m kW (szW ws) (encL encW ws))]
def setOfC:CT where
 X:=List Nat
 pre:=WOk
 args:=fun ws=>[.p 100000 0 0]
 g0:=fun ws=>[(100000,.rows .own kW 64 (encL encW ws))]
 res:=fun ws=>setV ws 1
 g1:=fun ws=>[(100000,.dead),(1,.rows .own kW (szW ws) (encL encW ws))]
set_option maxRecDepth 100000 in
theorem setOf_keeps:Keeps cfgN0 Tryz.f112 setOfC noIv:=Eq.mp (show(∀ x1:List Nat,((WOk x1)->((0=0/\((64:Nat)<=(64:Nat)))/\(CB (decide (∀(r:Nat),r<(64:Nat)->(↑(x1.getD r default):Int)=D.toI (D.i 0))) (((szW x1=(0:Nat))/\True)/\(True/\((szW x1=(0:Nat))/\True))) (((0=0/\(0=0/\(szW x1≠(0:Nat))))/\True)/\(True/\((RW [.int .u64] (szW x1) 64 (encL encW x1) (encL encW x1))/\True)))))))=(Keeps cfgN0 Tryz.f112 setOfC noIv) by kernel_rfl) (fun x1=>fun h2=>⟨⟨rfl,(by omega)⟩,fun g3=>have h3:=dT g3;⟨⟨(by exact szW_zero.2 (all_zero h2 h3)),trivial⟩,trivial,(by exact szW_zero.2 (all_zero h2 h3)),trivial⟩,fun g4=>have h4:=dF g4;⟨⟨⟨rfl,rfl,(by exact fun hh=>h4 (fun r _=>by rw[szW_zero.1 hh,nilW_at];rfl))⟩,trivial⟩,trivial,⟨⟨(by exact szW_le _)⟩,rr⟩,trivial⟩⟩)
structure TwoX where
 a:List Nat
 b:List Nat
end Go.Sym