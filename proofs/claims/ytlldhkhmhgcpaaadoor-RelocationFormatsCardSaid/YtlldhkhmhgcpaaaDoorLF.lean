import Derived.Test.YtlldhkhmhgcpaaaDoorAL
import Derived.Test.YtlldhkhmhgcpaaaDoorTX
import Derived.Test.YtlldhkhmhgcpaaaDoorOW
import Derived.Test.YtlldhkhmhgcpaaaDoorXD
namespace Go.Sym
set_option linter.unusedVariables false
set_option linter.unusedSimpArgs false
open Go.Proofs
set_option maxRecDepth 100000
set_option maxHeartbeats 4000000
def lfA (l:List Mv):List SV:=[.sl 100000 0 l.length]
def lfH (l:List Mv):List (Nat × Blk):=[(100000,.rows .bor kM l.length (encL encM l))]
def lfC:CT where
 X:=List Mv
 pre:=fun l=>∀ m∈l,r64 m.1/\r64 m.2
 args:=lfA
 g0:=lfH
 res:=fun l=>.b true
 g1:=fun _=>[]
def cfgLf:Cfg:=⟨T,[],[(6,.one wakesC),(8,.one owC),(7,.one foC),(9,.one foC)],noInv,60,{ kn:=true }⟩
theorem conLf:ConOk Tryd.prog cfgLf:=ConL.ok (.cons (ConL.one wakes_good) (.cons (ConL.one ow_good) (.cons (ConL.one fo_good) (.cons (ConL.one tx_good) .nil))))
set_option maxRecDepth 100000 in
theorem lf_keeps:Keeps cfgLf Tryd.f3 lfC noIv:=Eq.mp (show((∀ x1:List Mv,((∀(m:Mv),m∈x1->r64 (Prod.fst m)/\r64 (Prod.snd m))->(∃ x3:Unit,(True/\(True/\(True/\((false=true->(false=true/\True))/\(false=false->(((decide (60<(x1.length:Int))=true)->(true=true/\True))/\((decide (60<(x1.length:Int))=false)->(∃ x8:List Mv,((x8.length<=(60:Nat))/\(((0=0/\x1.length=x8.length)/\True)/\((((RLe x8.length x1.length)/\(RowsEq [.int .i64,.int .i64] x8.length (encL encM x1) (encL encM x8)))/\True)/\(∃ x9:List Mv,((MvsOk x9)/\(((0=0/\x8.length=x9.length)/\True)/\((((RLe x9.length x8.length)/\(RowsEq [.int .i64,.int .i64] x9.length (encL encM x8) (encL encM x9)))/\True)/\(∃ x10:List Mv,((MvsOk x10)/\(((0=0/\x1.length=x10.length)/\True)/\((((RLe x10.length x1.length)/\(RowsEq [.int .i64,.int .i64] x10.length (encL encM x1) (encL encM x10)))/\True)/\(((ByteArray.toList (fmtF x9)==ByteArray.toList (fmtF x10))=true)/\True))))))))))))))))))))))))=(Keeps cfgLf Tryd.f3 lfC noIv) by kernel_rfl) (fun x1=>fun h2=>⟨(default),trivial,trivial,trivial,
fun h4=>⟨(by(try dsimp only at *);omega),trivial⟩,
fun h5=>⟨fun g6=>have h6:=dT g6;⟨rfl,trivial⟩,
fun g7=>have h7:=dF g7;⟨(x1),
(by(try dsimp only at *);omega),
⟨⟨rfl,rfl⟩,trivial⟩,
⟨⟨rl,rr⟩,trivial⟩,
(x1),
(by(try dsimp only at *);exact⟨by omega,h2⟩),
⟨⟨rfl,rfl⟩,trivial⟩,
⟨⟨rl,rr⟩,trivial⟩,
(x1),
(by(try dsimp only at *);exact⟨by omega,h2⟩),
⟨⟨rfl,rfl⟩,trivial⟩,
⟨⟨rl,rr⟩,trivial⟩,
(by(try dsimp only at *);grind),trivial⟩⟩⟩)
theorem lf_good:Good Tryd.prog 3 lfC/\FnOk Tryd.prog 3:=good_of tok conLf (fn:=Tryd.f3) rfl (by decide+kernel) (fun _=>rfl) lf_keeps
end Go.Sym