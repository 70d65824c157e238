import Derived.Test.YtlldhkhmhgcpaaaDoorAL
import Derived.Test.YtlldhkhmhgcpaaaDoorAR
import Derived.Test.YtlldhkhmhgcpaaaDoorOW
import Derived.Test.YtlldhkhmhgcpaaaDoorXD
namespace Go.Sym
set_option linter.unusedVariables false
set_option linter.unusedSimpArgs false
open Go.Proofs
set_option maxRecDepth 100000
set_option maxHeartbeats 4000000
def laA (x:IdX):List SV:=[.sl 100000 0 x.us.length,.sl 100001 0 x.l.length]
def laH (x:IdX):List (Nat × Blk):=[(100000,.rows .bor kU x.us.length (encL encU x.us)),(100001,.rows .bor kM x.l.length (encL encM x.l))]
def laC:CT where
 X:=IdX
 pre:=fun _=>True
 args:=laA
 g0:=laH
 res:=fun _=>.b true
 g1:=fun _=>[]
def lapI (x:IdX) (id:Nat):Option Inv:=match id with
 |0=>some { X:=Nat,ok:=fun k=>k<=(appU x.us x.l).length,fr:=fun k=>[(5,.sl 351 0 (appU x.us x.l).length),(7,.sl 352 0 (appU x.us x.l).length),(44,.i .i64 (appU x.us x.l).length),(45,.i .i64 k)],hp:=fun k=>[(351,.rows .own kU (appU x.us x.l).length (encL encU (appU x.us x.l))),(352,.rows .own kU (appU x.us x.l).length (encL encU (appU x.us x.l)))],me:=fun k=>(appU x.us x.l).length-k }
 |_=>none
def cfgLa:Cfg:=⟨T,[],[(6,.one wakesC),(8,.one owC),(10,.one apC),(11,.one apC)],noInv,90,{ kn:=true }⟩
theorem conLa:ConOk Tryd.prog cfgLa:=ConL.ok (.cons (ConL.one wakes_good) (.cons (ConL.one ow_good) (.cons (ConL.one ap_good) (.cons (ConL.one af_good) .nil))))
theorem apU_le (x:IdX):(appU x.us x.l).length<=x.us.length:=by
 unfold appU
 split
 ·rw[app_len];exact Nat.le_refl _
 ·exact Nat.zero_le _
set_option maxRecDepth 100000 in
theorem la_keeps:Keeps cfgLa Tryd.f4 laC lapI:=Eq.mp (show((∀ x1:IdX,(True->(∃ x3:Unit,(True/\(True/\(True/\((false=true->(false=true/\True))/\(false=false->(((decide (40<(x1.us.length:Int))=false)->(((decide (40<(x1.l.length:Int))=true)->(true=true/\True))/\((decide (40<(x1.l.length:Int))=false)->(∃ x9:List Mv,((x9.length<=(60:Nat))/\(((0=0/\x1.l.length=x9.length)/\True)/\((((RLe x9.length x1.l.length)/\(RowsEq [.int .i64,.int .i64] x9.length (encL encM x1.l) (encL encM x9)))/\True)/\(∃ x10:IdX,(((x10.us.length<=(1000:Nat))/\(x10.l.length<=(1000:Nat)))/\(((0=0/\x1.us.length=x10.us.length)/\((0=0/\x9.length=x10.l.length)/\True))/\((((RLe x10.us.length x1.us.length)/\(RowsEq [.int .i64,.int .i64,.int .i64,.int .i64,.int .i64,.int .i64,.int .i64,.int .i64,.int .i64,.int .i64] x10.us.length (encL encU x1.us) (encL encU x10.us)))/\(((RLe x10.l.length x9.length)/\(RowsEq [.int .i64,.int .i64] x10.l.length (encL encM x9) (encL encM x10.l)))/\True))/\(∃ x11:IdX,(((x11.us.length<=(1000:Nat))/\(x11.l.length<=(1000:Nat)))/\(((0=0/\x1.us.length=x11.us.length)/\((0=0/\x1.l.length=x11.l.length)/\True))/\((((RLe x11.us.length x1.us.length)/\(RowsEq [.int .i64,.int .i64,.int .i64,.int .i64,.int .i64,.int .i64,.int .i64,.int .i64,.int .i64,.int .i64] x11.us.length (encL encU x1.us) (encL encU x11.us)))/\(((RLe x11.l.length x1.l.length)/\(RowsEq [.int .i64,.int .i64] x11.l.length (encL encM x1.l) (encL encM x11.l)))/\True))/\(((decide (appE2 x10.us x10.l≠appE2 x11.us x11.l)=false)->(((decide ((↑(appU x10.us x10.l).length:Int)≠(↑(appU x11.us x11.l).length:Int))=true)->(false=true/\True))/\((decide ((↑(appU x10.us x10.l).length:Int)≠(↑(appU x11.us x11.l).length:Int))=false)->(∃ x15:Nat,(((x15<=(appU x1.us x1.l).length)/\(((0=0/\((appU x10.us x10.l).length=(appU x1.us x1.l).length))/\((0=0/\((appU x11.us x11.l).length=(appU x1.us x1.l).length))/\(((↑(appU x11.us x11.l).length:Int)=(↑(appU x1.us x1.l).length:Int))/\((0=(x15:Int))/\(false=false/\((decide ((↑(appU x10.us x10.l).length:Int)≠(↑(appU x11.us x11.l).length:Int))=decide ((↑(appU x10.us x10.l).length:Int)≠(↑(appU x11.us x11.l).length:Int)))/\(((↑(appU x11.us x11.l).length:Int)=(↑(appU x11.us x11.l).length:Int))/\(((↑(appU x10.us x10.l).length:Int)=(↑(appU x10.us x10.l).length:Int))/\((decide (appE2 x10.us x10.l≠appE2 x11.us x11.l)=decide (appE2 x10.us x10.l≠appE2 x11.us x11.l))/\((decide (appE2 x10.us x10.l≠appE2 x11.us x11.l)=decide (appE2 x10.us x10.l≠appE2 x11.us x11.l))/\((appE2 x11.us x11.l=appE2 x11.us x11.l)/\((appE2 x10.us x10.l=appE2 x10.us x10.l)/\((appE2 x11.us x11.l=appE2 x11.us x11.l)/\((appE2 x11.us x11.l=appE2 x11.us x11.l)/\((0=0/\x1.l.length=x1.l.length)/\((0=0/\x1.us.length=x1.us.length)/\((appE2 x10.us x10.l=appE2 x10.us x10.l)/\((appE2 x10.us x10.l=appE2 x10.us x10.l)/\((0=0/\x9.length=x9.length)/\((0=0/\x1.l.length=x1.l.length)/\((0=0/\x1.us.length=x1.us.length)/\(false=false/\((decide (40<(x1.l.length:Int))=decide (40<(x1.l.length:Int)))/\(((x1.l.length:Int)=(x1.l.length:Int))/\((0=0/\x1.l.length=x1.l.length)/\((decide (40<(x1.us.length:Int))=decide (40<(x1.us.length:Int)))/\((decide (40<(x1.us.length:Int))=decide (40<(x1.us.length:Int)))/\(((x1.us.length:Int)=(x1.us.length:Int))/\((0=0/\x1.us.length=x1.us.length)/\(false=false/\(true=true/\((0=0/\x1.us.length=x1.us.length)/\((0=0/\x1.l.length=x1.l.length)/\True)))))))))))))))))))))))))))))))))/\(((RLe (appU x1.us x1.l).length (appU x10.us x10.l).length)/\(RowsEq [.int .i64,.int .i64,.int .i64,.int .i64,.int .i64,.int .i64,.int .i64,.int .i64,.int .i64,.int .i64] (appU x1.us x1.l).length (encL encU (appU x10.us x10.l)) (encL encU (appU x1.us x1.l))))/\(((RLe (appU x1.us x1.l).length (appU x11.us x11.l).length)/\(RowsEq [.int .i64,.int .i64,.int .i64,.int .i64,.int .i64,.int .i64,.int .i64,.int .i64,.int .i64,.int .i64] (appU x1.us x1.l).length (encL encU (appU x11.us x11.l)) (encL encU (appU x1.us x1.l))))/\(((RLe x9.length x9.length)/\(RowsEq [.int .i64,.int .i64] x9.length (encL encM x9) (encL encM x9)))/\(((RLe x1.us.length x1.us.length)/\(RowsEq [.int .i64,.int .i64,.int .i64,.int .i64,.int .i64,.int .i64,.int .i64,.int .i64,.int .i64,.int .i64] x1.us.length (encL encU x1.us) (encL encU x1.us)))/\(((RLe x1.l.length x1.l.length)/\(RowsEq [.int .i64,.int .i64] x1.l.length (encL encM x1.l) (encL encM x1.l)))/\True)))))))/\(∀ x16:Nat,((x16<=(appU x1.us x1.l).length)->(((decide ((x16:Int)<(↑(appU x1.us x1.l).length:Int))=true)->((((0:Int)<=(x16:Int))/\((x16:Int)<(↑(appU x1.us x1.l).length:Int)))/\((0+Int.toNat (x16:Int)<(appU x1.us x1.l).length)/\((((0:Int)<=(x16:Int))/\((x16:Int)<(↑(appU x1.us x1.l).length:Int)))/\((0+Int.toNat (x16:Int)<(appU x1.us x1.l).length)/\((((!(decide (((appU x1.us x1.l).getD (0+Int.toNat (x16:Int)) default).id=((appU x1.us x1.l).getD (0+Int.toNat (x16:Int)) default).id)&&(decide (((appU x1.us x1.l).getD (0+Int.toNat (x16:Int)) default).b=((appU x1.us x1.l).getD (0+Int.toNat (x16:Int)) default).b)&&(decide (((appU x1.us x1.l).getD (0+Int.toNat (x16:Int)) default).c=((appU x1.us x1.l).getD (0+Int.toNat (x16:Int)) default).c)&&(decide (((appU x1.us x1.l).getD (0+Int.toNat (x16:Int)) default).st=((appU x1.us x1.l).getD (0+Int.toNat (x16:Int)) default).st)&&(decide (((appU x1.us x1.l).getD (0+Int.toNat (x16:Int)) default).nd=((appU x1.us x1.l).getD (0+Int.toNat (x16:Int)) default).nd)&&(decide (((appU x1.us x1.l).getD (0+Int.toNat (x16:Int)) default).f=((appU x1.us x1.l).getD (0+Int.toNat (x16:Int)) default).f)&&(decide (((appU x1.us x1.l).getD (0+Int.toNat (x16:Int)) default).g=((appU x1.us x1.l).getD (0+Int.toNat (x16:Int)) default).g)&&(decide (((appU x1.us x1.l).getD (0+Int.toNat (x16:Int)) default).h=((appU x1.us x1.l).getD (0+Int.toNat (x16:Int)) default).h)&&(decide (((appU x1.us x1.l).getD (0+Int.toNat (x16:Int)) default).i=((appU x1.us x1.l).getD (0+Int.toNat (x16:Int)) default).i)&&(decide (((appU x1.us x1.l).getD (0+Int.toNat (x16:Int)) default).j=((appU x1.us x1.l).getD (0+Int.toNat (x16:Int)) default).j)&&true)))))))))))=true)->(false=true/\True))/\(((!(decide (((appU x1.us x1.l).getD (0+Int.toNat (x16:Int)) default).id=((appU x1.us x1.l).getD (0+Int.toNat (x16:Int)) default).id)&&(decide (((appU x1.us x1.l).getD (0+Int.toNat (x16:Int)) default).b=((appU x1.us x1.l).getD (0+Int.toNat (x16:Int)) default).b)&&(decide (((appU x1.us x1.l).getD (0+Int.toNat (x16:Int)) default).c=((appU x1.us x1.l).getD (0+Int.toNat (x16:Int)) default).c)&&(decide (((appU x1.us x1.l).getD (0+Int.toNat (x16:Int)) default).st=((appU x1.us x1.l).getD (0+Int.toNat (x16:Int)) default).st)&&(decide (((appU x1.us x1.l).getD (0+Int.toNat (x16:Int)) default).nd=((appU x1.us x1.l).getD (0+Int.toNat (x16:Int)) default).nd)&&(decide (((appU x1.us x1.l).getD (0+Int.toNat (x16:Int)) default).f=((appU x1.us x1.l).getD (0+Int.toNat (x16:Int)) default).f)&&(decide (((appU x1.us x1.l).getD (0+Int.toNat (x16:Int)) default).g=((appU x1.us x1.l).getD (0+Int.toNat (x16:Int)) default).g)&&(decide (((appU x1.us x1.l).getD (0+Int.toNat (x16:Int)) default).h=((appU x1.us x1.l).getD (0+Int.toNat (x16:Int)) default).h)&&(decide (((appU x1.us x1.l).getD (0+Int.toNat (x16:Int)) default).i=((appU x1.us x1.l).getD (0+Int.toNat (x16:Int)) default).i)&&(decide (((appU x1.us x1.l).getD (0+Int.toNat (x16:Int)) default).j=((appU x1.us x1.l).getD (0+Int.toNat (x16:Int)) default).j)&&true)))))))))))=false)->((((-9223372036854775808:Int)<=(x16:Int)+1)/\((x16:Int)+1<=(9223372036854775807:Int)))/\(∃ x21:Nat,(((appU x1.us x1.l).length-x21<(appU x1.us x1.l).length-x16)/\((x21<=(appU x1.us x1.l).length)/\(((0=0/\((appU x1.us x1.l).length=(appU x1.us x1.l).length))/\((0=0/\((appU x1.us x1.l).length=(appU x1.us x1.l).length))/\(((↑(appU x1.us x1.l).length:Int)=(↑(appU x1.us x1.l).length:Int))/\(((x16:Int)+1=(x21:Int))/\(false=false/\((decide ((↑(appU x10.us x10.l).length:Int)≠(↑(appU x11.us x11.l).length:Int))=decide ((↑(appU x10.us x10.l).length:Int)≠(↑(appU x11.us x11.l).length:Int)))/\(((↑(appU x11.us x11.l).length:Int)=(↑(appU x11.us x11.l).length:Int))/\(((↑(appU x10.us x10.l).length:Int)=(↑(appU x10.us x10.l).length:Int))/\((decide (appE2 x10.us x10.l≠appE2 x11.us x11.l)=decide (appE2 x10.us x10.l≠appE2 x11.us x11.l))/\((decide (appE2 x10.us x10.l≠appE2 x11.us x11.l)=decide (appE2 x10.us x10.l≠appE2 x11.us x11.l))/\((appE2 x11.us x11.l=appE2 x11.us x11.l)/\((appE2 x10.us x10.l=appE2 x10.us x10.l)/\((appE2 x11.us x11.l=appE2 x11.us x11.l)/\((appE2 x11.us x11.l=appE2 x11.us x11.l)/\((0=0/\x1.l.length=x1.l.length)/\((0=0/\x1.us.length=x1.us.length)/\((appE2 x10.us x10.l=appE2 x10.us x10.l)/\((appE2 x10.us x10.l=appE2 x10.us x10.l)/\((0=0/\x9.length=x9.length)/\((0=0/\x1.l.length=x1.l.length)/\((0=0/\x1.us.length=x1.us.length)/\(false=false/\((decide (40<(x1.l.length:Int))=decide (40<(x1.l.length:Int)))/\(((x1.l.length:Int)=(x1.l.length:Int))/\((0=0/\x1.l.length=x1.l.length)/\((decide (40<(x1.us.length:Int))=decide (40<(x1.us.length:Int)))/\((decide (40<(x1.us.length:Int))=decide (40<(x1.us.length:Int)))/\(((x1.us.length:Int)=(x1.us.length:Int))/\((0=0/\x1.us.length=x1.us.length)/\(false=false/\(true=true/\((0=0/\x1.us.length=x1.us.length)/\((0=0/\x1.l.length=x1.l.length)/\True)))))))))))))))))))))))))))))))))/\(((RLe (appU x1.us x1.l).length (appU x1.us x1.l).length)/\(RowsEq [.int .i64,.int .i64,.int .i64,.int .i64,.int .i64,.int .i64,.int .i64,.int .i64,.int .i64,.int .i64] (appU x1.us x1.l).length (encL encU (appU x1.us x1.l)) (encL encU (appU x1.us x1.l))))/\(((RLe (appU x1.us x1.l).length (appU x1.us x1.l).length)/\(RowsEq [.int .i64,.int .i64,.int .i64,.int .i64,.int .i64,.int .i64,.int .i64,.int .i64,.int .i64,.int .i64] (appU x1.us x1.l).length (encL encU (appU x1.us x1.l)) (encL encU (appU x1.us x1.l))))/\(((RLe x9.length x9.length)/\(RowsEq [.int .i64,.int .i64] x9.length (encL encM x9) (encL encM x9)))/\(((RLe x1.us.length x1.us.length)/\(RowsEq [.int .i64,.int .i64,.int .i64,.int .i64,.int .i64,.int .i64,.int .i64,.int .i64,.int .i64,.int .i64] x1.us.length (encL encU x1.us) (encL encU x1.us)))/\(((RLe x1.l.length x1.l.length)/\(RowsEq [.int .i64,.int .i64] x1.l.length (encL encM x1.l) (encL encM x1.l)))/\True)))))))))))))))))/\((decide ((x16:Int)<(↑(appU x1.us x1.l).length:Int))=false)->(true=true/\True))))))))))/\((decide (appE2 x10.us x10.l≠appE2 x11.us x11.l)=true)->(false=true/\True))))))))))))))))))/\((decide (40<(x1.us.length:Int))=true)->(true=true/\True))))))))))))=(Keeps cfgLa Tryd.f4 laC lapI) by kernel_rfl) (fun x1=>fun h2=>⟨(default),
 trivial,trivial,trivial,
fun h4=>⟨(by(try dsimp only at *);omega),trivial⟩,
fun h5=>⟨fun g6=>have h6:=dF g6;⟨fun g7=>have h7:=dT g7;⟨rfl,trivial⟩,
fun g8=>have h8:=dF g8;⟨(IdX.l x1),
(by(try dsimp only at *);omega),
⟨⟨rfl,rfl⟩,trivial⟩,
⟨⟨rl,rr⟩,trivial⟩,
(x1),
⟨(by(try dsimp only at *);omega),
(by(try dsimp only at *);omega)⟩,
⟨⟨rfl,rfl⟩,
⟨rfl,rfl⟩,trivial⟩,
⟨⟨rl,rr⟩,
⟨rl,rr⟩,trivial⟩,
(x1),
⟨(by(try dsimp only at *);omega),
(by(try dsimp only at *);omega)⟩,
⟨⟨rfl,rfl⟩,
⟨rfl,rfl⟩,trivial⟩,
⟨⟨rl,rr⟩,
⟨rl,rr⟩,trivial⟩,
fun g12=>have h12:=dF g12;⟨fun g13=>have h13:=dT g13;⟨(by(try dsimp only at *);omega),trivial⟩,
fun g14=>have h14:=dF g14;⟨((0:Nat)),
⟨(by(try dsimp only at *);omega),
⟨⟨rfl,rfl⟩,
⟨rfl,rfl⟩,rfl,
(by(try dsimp only at *);omega),rfl,rfl,rfl,rfl,rfl,rfl,rfl,rfl,rfl,rfl,
⟨rfl,rfl⟩,
⟨rfl,rfl⟩,rfl,rfl,
⟨rfl,rfl⟩,
⟨rfl,rfl⟩,
⟨rfl,rfl⟩,rfl,rfl,rfl,
⟨rfl,rfl⟩,rfl,rfl,rfl,
⟨rfl,rfl⟩,rfl,rfl,
⟨rfl,rfl⟩,
⟨rfl,rfl⟩,trivial⟩,
⟨rl,rr⟩,
⟨rl,rr⟩,
⟨rl,rr⟩,
⟨rl,rr⟩,
⟨rl,rr⟩,trivial⟩,
fun x16=>fun h17=>⟨fun g18=>have h18:=dT g18;⟨⟨(by(try dsimp only at *);omega),
(by(try dsimp only at *);omega)⟩,
(by(try dsimp only at *);omega),
⟨(by(try dsimp only at *);omega),
(by(try dsimp only at *);omega)⟩,
(by(try dsimp only at *);omega),
fun h19=>⟨(by(try dsimp only at *);grind),trivial⟩,
fun h20=>⟨⟨(by(try dsimp only at *);omega),
(by(try dsimp only at *);(have:=apU_le x1;omega))⟩,
(x16+(1:Nat)),
(by(try dsimp only at *);omega),
(by(try dsimp only at *);omega),
⟨⟨rfl,rfl⟩,
⟨rfl,rfl⟩,rfl,
(by(try dsimp only at *);omega),rfl,rfl,rfl,rfl,rfl,rfl,rfl,rfl,rfl,rfl,
⟨rfl,rfl⟩,
⟨rfl,rfl⟩,rfl,rfl,
⟨rfl,rfl⟩,
⟨rfl,rfl⟩,
⟨rfl,rfl⟩,rfl,rfl,rfl,
⟨rfl,rfl⟩,rfl,rfl,rfl,
⟨rfl,rfl⟩,rfl,rfl,
⟨rfl,rfl⟩,
⟨rfl,rfl⟩,trivial⟩,
⟨rl,rr⟩,
⟨rl,rr⟩,
⟨rl,rr⟩,
⟨rl,rr⟩,
⟨rl,rr⟩,trivial⟩⟩,
fun g22=>have h22:=dF g22;⟨rfl,trivial⟩⟩⟩⟩,
fun g23=>have h23:=dT g23;⟨(by(try dsimp only at *);omega),trivial⟩⟩⟩,
fun g24=>have h24:=dT g24;⟨rfl,trivial⟩⟩⟩)
theorem la_good:Good Tryd.prog 4 laC/\FnOk Tryd.prog 4:=good_of tok conLa (fn:=Tryd.f4) rfl (by decide+kernel) (fun _=>rfl) la_keeps
end Go.Sym