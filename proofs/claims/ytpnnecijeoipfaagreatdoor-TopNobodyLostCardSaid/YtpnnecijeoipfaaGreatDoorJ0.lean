import Derived.Test.YtpnnecijeoipfaaGreatDoorB1
import Derived.WalkKit
import Derived.Test.YtpnnecijeoipfaaGreatDoorXD
namespace Go.Sym
set_option linter.unusedVariables false
open Go.Proofs Go.RowKit
set_option maxRecDepth 100000
set_option maxHeartbeats 4000000
set_option maxRecDepth 100000
theorem len64_run (x:Nat) (hx:x<=12) (w:World):Calls Tryz.prog 84 #[.int .u64 x] w fun e w'=>(∃ k:Int,e= .returned (.int .i64 k))/\w'=w:=by
 rcases(show x=0∨x=1∨x=2∨x=3∨x=4∨x=5∨x=6∨x=7∨x=8∨x=9∨x=10∨x=11∨x=12 by omega)with h|h|h|h|h|h|h|h|h|h|h|h|h <;>subst h <;>(go_enter Tryz.func84,Tryz.ntmps84;go_wp2;(try go_ret);exact⟨⟨_,rfl⟩,rfl⟩)
def len64C:CT where
 X:=Nat
 pre:=fun n=>n<=12
 args:=fun n=>[.i .u64 n]
 g0:=fun _=>[]
 res:=fun _=>.u
 g1:=fun _=>[]
theorem len64_good:Good Tryz.prog 84 len64C/\FnOk Tryz.prog 84:=by
 refine⟨good_pure (fun _ _=>rfl) (fun _=>rfl) (fun _=>rfl) fun x hx ρ w vals hg hv hz=>?_,Tryz.f84,rfl,by decide+kernel,rfl⟩
 simp only[len64C,DenL,Den]at hv
 obtain⟨v,r,rfl,rfl,rfl⟩:=hv
 exact(len64_run x hx w).mono fun e w' ⟨⟨k,h1⟩,h2⟩=>⟨⟨_,h1,by simp only[len64C,Den]⟩,h2⟩
end Go.Sym