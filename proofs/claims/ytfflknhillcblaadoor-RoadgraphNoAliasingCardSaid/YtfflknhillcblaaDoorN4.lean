import Derived.Test.YtfflknhillcblaaDoorN6
import Derived.Test.YtfflknhillcblaaDoorXD
namespace Go.Sym
set_option linter.unusedVariables false
set_option linter.unusedSimpArgs false
open Go.Proofs
set_option maxRecDepth 100000
def bitmapC:CT where
 X:=List Nat
 pre:=WOk
 args:=fun ws=>[setV ws 100000]
 g0:=fun ws=>setH ws .bor 100000
 res:=fun ws=>.arr kW 64 (encL encW ws)
 g1:=fun ws=>[]
set_option maxRecDepth 100000 in
theorem bitmap_keeps:Keeps cfgN0 Tryd.f50 bitmapC noIv:=Eq.mp (show((∀ x1:List Nat,((WOk x1)->(((decide (szW x1=(0:Nat))=true)->((0=0/\((64:Nat)=(64:Nat)))/\((((64:Nat)=(64:Nat))/\(RowsEq [.int .u64] 64 (fun(x j:Nat)=>zRow [.int .u64] j) (encL encW x1)))/\True)))/\((decide (szW x1=(0:Nat))=false)->((szW x1≠(0:Nat))/\((0=0/\((64:Nat)<=szW x1))/\((0=0/\((64:Nat)=(64:Nat)))/\((((64:Nat)=(64:Nat))/\(RowsEq [.int .u64] 64 (encL encW x1) (encL encW x1)))/\True)))))))))=(Keeps cfgN0 Tryd.f50 bitmapC noIv) by kernel_rfl) (fun x1=>fun h2=>⟨fun g3=>have h3:=dT g3;⟨⟨rfl,rfl⟩,
⟨rfl,
(by
       (rw[szW_zero.1 h3];exact nil_rows))⟩,trivial⟩,
fun g4=>have h4:=dF g4;⟨(by omega),
⟨rfl,
(by(rw[szW_full ‹_›];exact Nat.le_refl _))⟩,
⟨rfl,rfl⟩,
⟨rfl,rr⟩,trivial⟩⟩)
end Go.Sym