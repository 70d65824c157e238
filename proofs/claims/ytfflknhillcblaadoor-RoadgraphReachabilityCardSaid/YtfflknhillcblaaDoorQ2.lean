import Derived.Test.YtfflknhillcblaaDoorN6
import Derived.Test.YtfflknhillcblaaDoorXD
namespace Go.Sym
set_option linter.unusedVariables false
set_option linter.unusedSimpArgs false
open Go.Proofs
set_option maxRecDepth 100000
def equalC:CT where
 X:=TwoX
 pre:=fun x=>WOk x.a/\WOk x.b
 args:=fun x=>[setV x.a 100000,setV x.b 100001]
 g0:=fun x=>setH x.a .bor 100000++setH x.b .bor 100001
 res:=fun x=>.b (decide (x.a=x.b))
 g1:=fun x=>[]
set_option maxRecDepth 100000 in
theorem equal_keeps:Keeps cfgN0 Tryd.f23 equalC noIv:=Eq.mp (show((∀ x1:TwoX,((WOk x1.a/\WOk x1.b)->(((decide (szW x1.a=(0:Nat))=false)->(((decide (szW x1.b=(0:Nat))=true)->((szW x1.a=(0:Nat)∨szW x1.b=(0:Nat))/\((decide (szW x1.a=(0:Nat)/\szW x1.b=(0:Nat))=decide (x1.a=x1.b))/\True)))/\((decide (szW x1.b=(0:Nat))=false)->((szW x1.a≠(0:Nat))/\((0=0/\((64:Nat)<=szW x1.a))/\((szW x1.b≠(0:Nat))/\((0=0/\((64:Nat)<=szW x1.b))/\((decide (∀(r:Nat),r<(64:Nat)->(↑(x1.a.getD r default):Int)=(↑(x1.b.getD r default):Int))=decide (x1.a=x1.b))/\True))))))))/\((decide (szW x1.a=(0:Nat))=true)->((szW x1.a=(0:Nat)∨szW x1.b=(0:Nat))/\((decide (szW x1.a=(0:Nat)/\szW x1.b=(0:Nat))=decide (x1.a=x1.b))/\True)))))))=(Keeps cfgN0 Tryd.f23 equalC noIv) by kernel_rfl) (fun x1=>fun h2=>⟨fun g3=>have h3:=dF g3;⟨fun g4=>have h4:=dT g4;⟨(by omega),
(by
       (apply decide_eq_decide.2;rw[szW_zero,szW_zero];have q:=szW_zero.1 h4;exact⟨fun h=>h.1.trans h.2.symm,fun h=>⟨h.trans q,q⟩⟩)),trivial⟩,
fun g5=>have h5:=dF g5;⟨(by omega),
⟨rfl,
(by(rw[szW_full ‹_›];exact Nat.le_refl _))⟩,
(by omega),
⟨rfl,
(by(rw[szW_full ‹_›];exact Nat.le_refl _))⟩,
(by
       (apply decide_eq_decide.2;exact⟨fun h=>words_eq h2.1 h2.2 h,fun h r _=>by rw[h]⟩)),trivial⟩⟩,
fun g6=>have h6:=dT g6;⟨(by omega),
(by
       (apply decide_eq_decide.2;rw[szW_zero,szW_zero];have q:=szW_zero.1 h6;exact⟨fun h=>h.1.trans h.2.symm,fun h=>⟨q,h▸q⟩⟩)),trivial⟩⟩)
theorem equal_good:Good Tryd.prog 23 equalC/\FnOk Tryd.prog 23:=good_of tok conN0 (fn:=Tryd.f23) rfl (by decide+kernel) (fun _=>rfl) equal_keeps
end Go.Sym