import Derived.Test.YtcghhlodddpmaaaDoorX1
import Derived.Test.YtcghhlodddpmaaaDoorX2
import Derived.Test.YtcghhlodddpmaaaDoorXD
namespace Go.Sym
set_option linter.unusedVariables false
set_option linter.unusedSimpArgs false
open Go.Proofs
set_option maxRecDepth 100000
set_option maxHeartbeats 4000000
def cfgS:Cfg:=⟨T,[],[(55,.one lsC)],noInv,60,{}⟩
theorem conS:ConOk Tryd.prog cfgS:=ConL.ok (.cons (ConL.one ls_good) .nil)
theorem sm_last {x:Cmd × Cmd} (h13:¬ x.1.kind≠x.2.kind) (h14:¬ x.1.call≠x.2.call) (h15:¬ x.1.inc≠x.2.inc) (h16:¬ x.1.oth≠x.2.oth) (h17:¬ x.1.urg≠x.2.urg)
  (h18:(!(x.1.code.toList==x.2.code.toList))=false) (h19:¬ x.1.dist≠x.2.dist) (h20:¬ x.1.cen≠x.2.cen) (h21:¬ x.1.ep≠x.2.ep) (h22:¬ x.1.tick≠x.2.tick)
  (h23:(!(decide (x.1.su=x.2.su)&&(decide (x.1.sq=x.2.sq)&&(decide (x.1.ss=x.2.ss)&&(decide (x.1.sn=x.2.sn)&&(decide (x.1.se=x.2.se)&&true))))))=false) (h24:¬ x.1.edge≠x.2.edge) (h25:¬ x.1.time≠x.2.time) (h26:¬ x.1.node≠x.2.node):
  decide (x.1.nodes=x.2.nodes)=decide (x.1=x.2):=by
 rw[seq_eq]at h18
 simp only[Bool.and_true,Bool.not_eq_false',Bool.and_eq_true,decide_eq_true_eq]at h18 h23
 obtain⟨a,b⟩:=x
 cases a
 cases b
 simp only[ne_eq,Decidable.not_not]at*
 obtain⟨q1,q2,q3,q4,q5⟩:=h23
 subst_vars
 simp
set_option maxRecDepth 100000 in
theorem sm_keeps:Keeps cfgS Tryd.f19 eqCt noIv:=Eq.mp (show((∀ x1:Cmd × Cmd,(((Prod.fst x1).nodes.length<=(1000000:Nat))->(((decide ((Prod.fst x1).kind≠(Prod.snd x1).kind)=false)->(((decide ((Prod.fst x1).call≠(Prod.snd x1).call)=false)->(((decide ((Prod.fst x1).inc≠(Prod.snd x1).inc)=false)->(((decide ((Prod.fst x1).oth≠(Prod.snd x1).oth)=false)->(((decide ((Prod.fst x1).urg≠(Prod.snd x1).urg)=false)->((((!ByteArray.toList (Prod.fst x1).code==ByteArray.toList (Prod.snd x1).code)=false)->(((decide ((Prod.fst x1).dist≠(Prod.snd x1).dist)=false)->(((decide ((Prod.fst x1).cen≠(Prod.snd x1).cen)=false)->(((decide ((Prod.fst x1).ep≠(Prod.snd x1).ep)=false)->(((decide ((Prod.fst x1).tick≠(Prod.snd x1).tick)=false)->((((!(decide ((Prod.fst x1).su=(Prod.snd x1).su)&&(decide ((Prod.fst x1).sq=(Prod.snd x1).sq)&&(decide ((Prod.fst x1).ss=(Prod.snd x1).ss)&&(decide ((Prod.fst x1).sn=(Prod.snd x1).sn)&&(decide ((Prod.fst x1).se=(Prod.snd x1).se)&&true))))))=false)->(((decide ((Prod.fst x1).edge≠(Prod.snd x1).edge)=false)->(((decide ((Prod.fst x1).time≠(Prod.snd x1).time)=false)->(((decide ((Prod.fst x1).node≠(Prod.snd x1).node)=true)->((false=decide (Prod.fst x1=Prod.snd x1))/\True))/\((decide ((Prod.fst x1).node≠(Prod.snd x1).node)=false)->(∃ x18:List Int × List Int,(((Prod.fst x18).length<=(1000000:Nat))/\(((0=0/\((Prod.fst x1).nodes.length=(Prod.fst x18).length))/\((0=0/\((Prod.snd x1).nodes.length=(Prod.snd x18).length))/\True))/\((((RLe (Prod.fst x18).length (Prod.fst x1).nodes.length)/\(RowsEq [.int .i64] (Prod.fst x18).length (encL encI (Prod.fst x1).nodes) (encL encI (Prod.fst x18))))/\(((RLe (Prod.snd x18).length (Prod.snd x1).nodes.length)/\(RowsEq [.int .i64] (Prod.snd x18).length (encL encI (Prod.snd x1).nodes) (encL encI (Prod.snd x18))))/\True))/\((decide (Prod.fst x18=Prod.snd x18)=decide (Prod.fst x1=Prod.snd x1))/\True))))))))/\((decide ((Prod.fst x1).time≠(Prod.snd x1).time)=true)->((false=decide (Prod.fst x1=Prod.snd x1))/\True))))/\((decide ((Prod.fst x1).edge≠(Prod.snd x1).edge)=true)->((false=decide (Prod.fst x1=Prod.snd x1))/\True))))/\(((!(decide ((Prod.fst x1).su=(Prod.snd x1).su)&&(decide ((Prod.fst x1).sq=(Prod.snd x1).sq)&&(decide ((Prod.fst x1).ss=(Prod.snd x1).ss)&&(decide ((Prod.fst x1).sn=(Prod.snd x1).sn)&&(decide ((Prod.fst x1).se=(Prod.snd x1).se)&&true))))))=true)->((false=decide (Prod.fst x1=Prod.snd x1))/\True))))/\((decide ((Prod.fst x1).tick≠(Prod.snd x1).tick)=true)->((false=decide (Prod.fst x1=Prod.snd x1))/\True))))/\((decide ((Prod.fst x1).ep≠(Prod.snd x1).ep)=true)->((false=decide (Prod.fst x1=Prod.snd x1))/\True))))/\((decide ((Prod.fst x1).cen≠(Prod.snd x1).cen)=true)->((false=decide (Prod.fst x1=Prod.snd x1))/\True))))/\((decide ((Prod.fst x1).dist≠(Prod.snd x1).dist)=true)->((false=decide (Prod.fst x1=Prod.snd x1))/\True))))/\(((!ByteArray.toList (Prod.fst x1).code==ByteArray.toList (Prod.snd x1).code)=true)->((false=decide (Prod.fst x1=Prod.snd x1))/\True))))/\((decide ((Prod.fst x1).urg≠(Prod.snd x1).urg)=true)->((false=decide (Prod.fst x1=Prod.snd x1))/\True))))/\((decide ((Prod.fst x1).oth≠(Prod.snd x1).oth)=true)->((false=decide (Prod.fst x1=Prod.snd x1))/\True))))/\((decide ((Prod.fst x1).inc≠(Prod.snd x1).inc)=true)->((false=decide (Prod.fst x1=Prod.snd x1))/\True))))/\((decide ((Prod.fst x1).call≠(Prod.snd x1).call)=true)->((false=decide (Prod.fst x1=Prod.snd x1))/\True))))/\((decide ((Prod.fst x1).kind≠(Prod.snd x1).kind)=true)->((false=decide (Prod.fst x1=Prod.snd x1))/\True))))))=(Keeps cfgS Tryd.f19 eqCt noIv) by kernel_rfl) (fun x1=>fun h2=>⟨fun g3=>have h3:=dF g3;⟨fun g4=>have h4:=dF g4;⟨fun g5=>have h5:=dF g5;⟨fun g6=>have h6:=dF g6;⟨fun g7=>have h7:=dF g7;⟨fun h8=>⟨fun g9=>have h9:=dF g9;⟨fun g10=>have h10:=dF g10;⟨fun g11=>have h11:=dF g11;⟨fun g12=>have h12:=dF g12;⟨fun h13=>⟨fun g14=>have h14:=dF g14;⟨fun g15=>have h15:=dF g15;⟨fun g16=>have h16:=dT g16;⟨(by grind),trivial⟩,
fun g17=>have h17:=dF g17;⟨((Cmd.nodes (Prod.fst x1),Cmd.nodes (Prod.snd x1))),
(by(try dsimp only at *);omega),
⟨⟨rfl,rfl⟩,
⟨rfl,rfl⟩,trivial⟩,
⟨⟨rl,rr⟩,
⟨rl,rr⟩,trivial⟩,
(by(try dsimp only at *);exact sm_last ‹_› ‹_› ‹_› ‹_› ‹_› ‹_› ‹_› ‹_› ‹_› ‹_› ‹_› ‹_› ‹_› ‹_› ),trivial⟩⟩,
fun g19=>have h19:=dT g19;⟨(by(try dsimp only at *);grind),trivial⟩⟩,
fun g20=>have h20:=dT g20;⟨(by(try dsimp only at *);grind),trivial⟩⟩,
fun h21=>⟨(by(try dsimp only at *);grind),trivial⟩⟩,
fun g22=>have h22:=dT g22;⟨(by(try dsimp only at *);grind),trivial⟩⟩,
fun g23=>have h23:=dT g23;⟨(by(try dsimp only at *);grind),trivial⟩⟩,
fun g24=>have h24:=dT g24;⟨(by(try dsimp only at *);grind),trivial⟩⟩,
fun g25=>have h25:=dT g25;⟨(by(try dsimp only at *);grind),trivial⟩⟩,
fun h26=>⟨(by(try dsimp only at *);grind),trivial⟩⟩,
fun g27=>have h27:=dT g27;⟨(by(try dsimp only at *);grind),trivial⟩⟩,
fun g28=>have h28:=dT g28;⟨(by(try dsimp only at *);grind),trivial⟩⟩,
fun g29=>have h29:=dT g29;⟨(by(try dsimp only at *);grind),trivial⟩⟩,
fun g30=>have h30:=dT g30;⟨(by(try dsimp only at *);grind),trivial⟩⟩,
fun g31=>have h31:=dT g31;⟨(by(try dsimp only at *);grind),trivial⟩⟩)
theorem sm_good:Good Tryd.prog 19 eqCt/\FnOk Tryd.prog 19:=good_of tok conS (fn:=Tryd.f19) rfl (by decide+kernel) (fun _=>rfl) sm_keeps
def whatF (c:Cmd):Bool:=decide (1<=c.urg/\c.urg<=5)&&(vCode c.code&&vNodes c.nodes)
def hasF (c:Cmd):Bool:=if c.kind=1 then numP c.call&&(whatF c&&dskP c.dist)else if c.kind=2 then numP c.call&&whatF c else if c.kind=3 then numP c.inc&&(numP c.oth&&decide (c.inc≠c.oth))
 else if c.kind=4 then numP c.call&&numP c.inc else if c.kind=5 then untP c.su&&(numP c.sq&&(decide (1<=c.ss/\c.ss<=7)&&(decide (0<=c.sn/\c.sn<=4095)&&decide (0<=c.se/\c.se<=1099511627776))))
 else if c.kind=7 then untP c.su&&numP c.inc else if c.kind=8∨c.kind=9∨c.kind=10 then dskP c.dist&&(dskP c.cen&&numP c.ep)
 else if c.kind=11 then decide (0<=c.edge/\c.edge<=16383)&&decide ((1<=c.time/\c.time<=1048576)∨c.time=4611686018427387904)else if c.kind=12 then decide (0<=c.tick/\c.tick<=1099511627776)
 else if c.kind=13 then numP c.inc else if c.kind=14 then untP c.su&&decide (0<=c.node/\c.node<=4095)else if c.kind=15 then numP c.call else decide (c.kind=6)
def cfgH:Cfg:=⟨T,[],[(60,.one (n1C numP)),(58,.one (n1C dskP)),(63,.one (n1C untP)),(61,.one rcC),(62,.one rnC)],noInv,60,{}⟩
theorem conH:ConOk Tryd.prog cfgH:=ConL.ok (.cons (ConL.one np_good) (.cons (ConL.one dk_good) (.cons (ConL.one up_good) (.cons (ConL.one rc_good) (.cons (ConL.one rn_good) .nil)))))
def haC:CT where
 X:=Cmd
 pre:=fun x=>x.nodes.length<=1000000/\x.code.size<=1000000
 args:=fun x=>[.agg (cl x 100001)]
 g0:=fun x=>[nB 100001 x]
 res:=fun x=>.b (hasF x)
 g1:=fun _=>[]
def haI (x:Cmd) (id:Nat):Option Inv:=match id with
 |100004=>some (cutB 4 (decide (whatF x=true)))
 |_=>none
set_option maxRecDepth 100000 in
theorem ha_keeps:Keeps cfgH Tryd.f35 haC haI:=Eq.mp (show((∀ x1:Cmd,((x1.nodes.length<=(1000000:Nat)/\ByteArray.size x1.code<=(1000000:Nat))->(∃ x3:Int,(True/\((x1.call=x3/\True)/\(True/\((((decide ((1:Int)<=x1.urg)=true)->(((decide (x1.urg<=(5:Int))=true)->(∃ x6:ByteArray,((ByteArray.size x6<=(1000000:Nat))/\((x1.code=x6/\True)/\(True/\(((vCode x6=true)->(∃ x8:List Int,((x8.length<=(1000000:Nat))/\(((0=0/\x1.nodes.length=x8.length)/\True)/\((((RLe x8.length x1.nodes.length)/\(RI x8.length x1.nodes x8))/\True)/\(∃ x9:Unit,(True/\((vNodes x8=decide (whatF x1=true))/\True))))))))/\((vCode x6=false)->(∃ x11:Unit,(True/\((false=decide (whatF x1=true))/\True))))))))))/\((decide (x1.urg<=(5:Int))=false)->(∃ x13:Unit,(True/\((false=decide (whatF x1=true))/\True))))))/\((decide ((1:Int)<=x1.urg)=false)->(∃ x15:Unit,(True/\((false=decide (whatF x1=true))/\True)))))/\(∀ x16:Unit,(True->(((decide (x1.kind=(1:Int))=true)->(((numP x3=true)->(((decide (whatF x1=true)=true)->(∃ x21:Int,(True/\((x1.dist=x21/\True)/\(True/\((dskP x21=hasF x1)/\True))))))/\((decide (whatF x1=true)=false)->((false=hasF x1)/\True))))/\((numP x3=false)->((false=hasF x1)/\True))))/\((decide (x1.kind=(1:Int))=false)->(((decide (x1.kind=(2:Int))=true)->(((numP x3=true)->((decide (whatF x1=true)=hasF x1)/\True))/\((numP x3=false)->((false=hasF x1)/\True))))/\((decide (x1.kind=(2:Int))=false)->(((decide (x1.kind=(3:Int))=true)->(∃ x30:Int,(True/\((x1.inc=x30/\True)/\(True/\(((numP x30=true)->(∃ x32:Int,(True/\((x1.oth=x32/\True)/\(True/\(((numP x32=true)->((decide (x1.inc≠x1.oth)=hasF x1)/\True))/\((numP x32=false)->((false=hasF x1)/\True))))))))/\((numP x30=false)->((false=hasF x1)/\True))))))))/\((decide (x1.kind=(3:Int))=false)->(((decide (x1.kind=(4:Int))=true)->(((numP x3=true)->(∃ x39:Int,(True/\((x1.inc=x39/\True)/\(True/\((numP x39=hasF x1)/\True))))))/\((numP x3=false)->((false=hasF x1)/\True))))/\((decide (x1.kind=(4:Int))=false)->(((decide (x1.kind=(5:Int))=true)->(∃ x43:Int,(True/\((x1.su=x43/\True)/\(True/\(((untP x43=true)->(∃ x45:Int,(True/\((x1.sq=x45/\True)/\(True/\(((numP x45=true)->(((decide ((1:Int)<=x1.ss)=true)->(((decide (x1.ss<=(7:Int))=true)->(((decide ((0:Int)<=x1.sn)=true)->(((decide (x1.sn<=(4095:Int))=true)->(((decide ((0:Int)<=x1.se)=true)->((decide (x1.se<=(1099511627776:Int))=hasF x1)/\True))/\((decide ((0:Int)<=x1.se)=false)->((false=hasF x1)/\True))))/\((decide (x1.sn<=(4095:Int))=false)->((false=hasF x1)/\True))))/\((decide ((0:Int)<=x1.sn)=false)->((false=hasF x1)/\True))))/\((decide (x1.ss<=(7:Int))=false)->((false=hasF x1)/\True))))/\((decide ((1:Int)<=x1.ss)=false)->((false=hasF x1)/\True))))/\((numP x45=false)->((false=hasF x1)/\True))))))))/\((untP x43=false)->((false=hasF x1)/\True))))))))/\((decide (x1.kind=(5:Int))=false)->(((decide (x1.kind=(7:Int))=true)->(∃ x61:Int,(True/\((x1.su=x61/\True)/\(True/\(((untP x61=true)->(∃ x63:Int,(True/\((x1.inc=x63/\True)/\(True/\((numP x63=hasF x1)/\True))))))/\((untP x61=false)->((false=hasF x1)/\True))))))))/\((decide (x1.kind=(7:Int))=false)->(((decide (x1.kind=(8:Int))=true)->(((decide (x1.kind=(8:Int))=true)->(∃ x68:Int,(True/\((x1.dist=x68/\True)/\(True/\(((dskP x68=true)->(∃ x70:Int,(True/\((x1.cen=x70/\True)/\(True/\(((dskP x70=true)->(∃ x72:Int,(True/\((x1.ep=x72/\True)/\(True/\((numP x72=hasF x1)/\True))))))/\((dskP x70=false)->((false=hasF x1)/\True))))))))/\((dskP x68=false)->((false=hasF x1)/\True))))))))/\((decide (x1.kind=(8:Int))=false)->(((decide (x1.kind=(11:Int))=true)->(((decide ((0:Int)<=x1.edge)=true)->(((decide (x1.edge<=(16383:Int))=true)->(((decide ((1:Int)<=x1.time)=true)->(((decide (x1.time<=(1048576:Int))=false)->((decide (x1.time=(4611686018427387904:Int))=hasF x1)/\True))/\((decide (x1.time<=(1048576:Int))=true)->((true=hasF x1)/\True))))/\((decide ((1:Int)<=x1.time)=false)->((decide (x1.time=(4611686018427387904:Int))=hasF x1)/\True))))/\((decide (x1.edge<=(16383:Int))=false)->((false=hasF x1)/\True))))/\((decide ((0:Int)<=x1.edge)=false)->((false=hasF x1)/\True))))/\((decide (x1.kind=(11:Int))=false)->(((decide (x1.kind=(12:Int))=true)->(((decide ((0:Int)<=x1.tick)=true)->((decide (x1.tick<=(1099511627776:Int))=hasF x1)/\True))/\((decide ((0:Int)<=x1.tick)=false)->((false=hasF x1)/\True))))/\((decide (x1.kind=(12:Int))=false)->(((decide (x1.kind=(13:Int))=true)->(∃ x91:Int,(True/\((x1.inc=x91/\True)/\(True/\((numP x91=hasF x1)/\True))))))/\((decide (x1.kind=(13:Int))=false)->(((decide (x1.kind=(14:Int))=true)->(∃ x94:Int,(True/\((x1.su=x94/\True)/\(True/\(((untP x94=true)->(((decide ((0:Int)<=x1.node)=true)->((decide (x1.node<=(4095:Int))=hasF x1)/\True))/\((decide ((0:Int)<=x1.node)=false)->((false=hasF x1)/\True))))/\((untP x94=false)->((false=hasF x1)/\True))))))))/\((decide (x1.kind=(14:Int))=false)->(((decide (x1.kind=(15:Int))=true)->((numP x3=hasF x1)/\True))/\((decide (x1.kind=(15:Int))=false)->((decide (x1.kind=(6:Int))=hasF x1)/\True))))))))))))))/\((decide (x1.kind=(8:Int))=false)->(((decide (x1.kind=(9:Int))=true)->(((decide (x1.kind=(9:Int))=true)->(∃ x105:Int,(True/\((x1.dist=x105/\True)/\(True/\(((dskP x105=true)->(∃ x107:Int,(True/\((x1.cen=x107/\True)/\(True/\(((dskP x107=true)->(∃ x109:Int,(True/\((x1.ep=x109/\True)/\(True/\((numP x109=hasF x1)/\True))))))/\((dskP x107=false)->((false=hasF x1)/\True))))))))/\((dskP x105=false)->((false=hasF x1)/\True))))))))/\((decide (x1.kind=(9:Int))=false)->(((decide (x1.kind=(11:Int))=true)->(((decide ((0:Int)<=x1.edge)=true)->(((decide (x1.edge<=(16383:Int))=true)->(((decide ((1:Int)<=x1.time)=true)->(((decide (x1.time<=(1048576:Int))=false)->((decide (x1.time=(4611686018427387904:Int))=hasF x1)/\True))/\((decide (x1.time<=(1048576:Int))=true)->((true=hasF x1)/\True))))/\((decide ((1:Int)<=x1.time)=false)->((decide (x1.time=(4611686018427387904:Int))=hasF x1)/\True))))/\((decide (x1.edge<=(16383:Int))=false)->((false=hasF x1)/\True))))/\((decide ((0:Int)<=x1.edge)=false)->((false=hasF x1)/\True))))/\((decide (x1.kind=(11:Int))=false)->(((decide (x1.kind=(12:Int))=true)->(((decide ((0:Int)<=x1.tick)=true)->((decide (x1.tick<=(1099511627776:Int))=hasF x1)/\True))/\((decide ((0:Int)<=x1.tick)=false)->((false=hasF x1)/\True))))/\((decide (x1.kind=(12:Int))=false)->(((decide (x1.kind=(13:Int))=true)->(∃ x128:Int,(True/\((x1.inc=x128/\True)/\(True/\((numP x128=hasF x1)/\True))))))/\((decide (x1.kind=(13:Int))=false)->(((decide (x1.kind=(14:Int))=true)->(∃ x131:Int,(True/\((x1.su=x131/\True)/\(True/\(((untP x131=true)->(((decide ((0:Int)<=x1.node)=true)->((decide (x1.node<=(4095:Int))=hasF x1)/\True))/\((decide ((0:Int)<=x1.node)=false)->((false=hasF x1)/\True))))/\((untP x131=false)->((false=hasF x1)/\True))))))))/\((decide (x1.kind=(14:Int))=false)->(((decide (x1.kind=(15:Int))=true)->((numP x3=hasF x1)/\True))/\((decide (x1.kind=(15:Int))=false)->((decide (x1.kind=(6:Int))=hasF x1)/\True))))))))))))))/\((decide (x1.kind=(9:Int))=false)->(((decide (x1.kind=(10:Int))=true)->(∃ x141:Int,(True/\((x1.dist=x141/\True)/\(True/\(((dskP x141=true)->(∃ x143:Int,(True/\((x1.cen=x143/\True)/\(True/\(((dskP x143=true)->(∃ x145:Int,(True/\((x1.ep=x145/\True)/\(True/\((numP x145=hasF x1)/\True))))))/\((dskP x143=false)->((false=hasF x1)/\True))))))))/\((dskP x141=false)->((false=hasF x1)/\True))))))))/\((decide (x1.kind=(10:Int))=false)->(((decide (x1.kind=(11:Int))=true)->(((decide ((0:Int)<=x1.edge)=true)->(((decide (x1.edge<=(16383:Int))=true)->(((decide ((1:Int)<=x1.time)=true)->(((decide (x1.time<=(1048576:Int))=false)->((decide (x1.time=(4611686018427387904:Int))=hasF x1)/\True))/\((decide (x1.time<=(1048576:Int))=true)->((true=hasF x1)/\True))))/\((decide ((1:Int)<=x1.time)=false)->((decide (x1.time=(4611686018427387904:Int))=hasF x1)/\True))))/\((decide (x1.edge<=(16383:Int))=false)->((false=hasF x1)/\True))))/\((decide ((0:Int)<=x1.edge)=false)->((false=hasF x1)/\True))))/\((decide (x1.kind=(11:Int))=false)->(((decide (x1.kind=(12:Int))=true)->(((decide ((0:Int)<=x1.tick)=true)->((decide (x1.tick<=(1099511627776:Int))=hasF x1)/\True))/\((decide ((0:Int)<=x1.tick)=false)->((false=hasF x1)/\True))))/\((decide (x1.kind=(12:Int))=false)->(((decide (x1.kind=(13:Int))=true)->(∃ x164:Int,(True/\((x1.inc=x164/\True)/\(True/\((numP x164=hasF x1)/\True))))))/\((decide (x1.kind=(13:Int))=false)->(((decide (x1.kind=(14:Int))=true)->(∃ x167:Int,(True/\((x1.su=x167/\True)/\(True/\(((untP x167=true)->(((decide ((0:Int)<=x1.node)=true)->((decide (x1.node<=(4095:Int))=hasF x1)/\True))/\((decide ((0:Int)<=x1.node)=false)->((false=hasF x1)/\True))))/\((untP x167=false)->((false=hasF x1)/\True))))))))/\((decide (x1.kind=(14:Int))=false)->(((decide (x1.kind=(15:Int))=true)->((numP x3=hasF x1)/\True))/\((decide (x1.kind=(15:Int))=false)->((decide (x1.kind=(6:Int))=hasF x1)/\True)))))))))))))))))))))))))))))))))))))))=(Keeps cfgH Tryd.f35 haC haI) by kernel_rfl) (fun x1=>fun h2=>⟨(Cmd.call x1),
 trivial,
⟨rfl,trivial⟩,trivial,
⟨fun g4=>have h4:=dT g4;⟨fun g5=>have h5:=dT g5;⟨(Cmd.code x1),
(by(try dsimp only at *);omega),
⟨rfl,trivial⟩,trivial,
fun h7=>⟨(Cmd.nodes x1),
(by(try dsimp only at *);omega),
⟨⟨rfl,rfl⟩,trivial⟩,
⟨⟨rl,rr⟩,trivial⟩,
(default),trivial,
(by(try dsimp only at *);simp[whatF, *]),trivial⟩,
fun h10=>⟨(default),trivial,
(by(try dsimp only at *);simp[whatF, *]),trivial⟩⟩,
fun g12=>have h12:=dF g12;⟨(default),trivial,
(by(try dsimp only at *);simp[whatF, *]),trivial⟩⟩,
fun g14=>have h14:=dF g14;⟨(default),trivial,
(by(try dsimp only at *);simp[whatF, *]),trivial⟩⟩,
fun x16=>fun h17=>⟨fun g18=>have h18:=dT g18;⟨fun h19=>⟨fun g20=>have h20:=dT g20;⟨(Cmd.dist x1),trivial,
⟨rfl,trivial⟩,trivial,
(by(try dsimp only at *);simp[hasF, *]),trivial⟩,
fun g22=>have h22:=dF g22;⟨(by(try dsimp only at *);simp[hasF, *]),trivial⟩⟩,
fun h23=>⟨(by(try dsimp only at *);simp[hasF, *]),trivial⟩⟩,
fun g24=>have h24:=dF g24;⟨fun g25=>have h25:=dT g25;⟨fun h26=>⟨(by(try dsimp only at *);simp[hasF, *]),trivial⟩,
fun h27=>⟨(by(try dsimp only at *);simp[hasF, *]),trivial⟩⟩,
fun g28=>have h28:=dF g28;⟨fun g29=>have h29:=dT g29;⟨(Cmd.inc x1),trivial,
⟨rfl,trivial⟩,trivial,
fun h31=>⟨(Cmd.oth x1),trivial,
⟨rfl,trivial⟩,trivial,
fun h33=>⟨(by(try dsimp only at *);simp[hasF, *]),trivial⟩,
fun h34=>⟨(by(try dsimp only at *);simp[hasF, *]),trivial⟩⟩,
fun h35=>⟨(by(try dsimp only at *);simp[hasF, *]),trivial⟩⟩,
fun g36=>have h36:=dF g36;⟨fun g37=>have h37:=dT g37;⟨fun h38=>⟨(Cmd.inc x1),trivial,
⟨rfl,trivial⟩,trivial,
(by(try dsimp only at *);simp[hasF, *]),trivial⟩,
fun h40=>⟨(by(try dsimp only at *);simp[hasF, *]),trivial⟩⟩,
fun g41=>have h41:=dF g41;⟨fun g42=>have h42:=dT g42;⟨(Cmd.su x1),trivial,
⟨rfl,trivial⟩,trivial,
fun h44=>⟨(Cmd.sq x1),trivial,
⟨rfl,trivial⟩,trivial,
fun h46=>⟨fun g47=>have h47:=dT g47;⟨fun g48=>have h48:=dT g48;⟨fun g49=>have h49:=dT g49;⟨fun g50=>have h50:=dT g50;⟨fun g51=>have h51:=dT g51;⟨(by(try dsimp only at *);simp[hasF, *]),trivial⟩,
fun g52=>have h52:=dF g52;⟨(by(try dsimp only at *);simp[hasF, *]),trivial⟩⟩,
fun g53=>have h53:=dF g53;⟨(by(try dsimp only at *);simp[hasF, *]),trivial⟩⟩,
fun g54=>have h54:=dF g54;⟨(by(try dsimp only at *);simp[hasF, *]),trivial⟩⟩,
fun g55=>have h55:=dF g55;⟨(by(try dsimp only at *);simp[hasF, *]),trivial⟩⟩,
fun g56=>have h56:=dF g56;⟨(by(try dsimp only at *);simp[hasF, *]),trivial⟩⟩,
fun h57=>⟨(by(try dsimp only at *);simp[hasF, *]),trivial⟩⟩,
fun h58=>⟨(by(try dsimp only at *);simp[hasF, *]),trivial⟩⟩,
fun g59=>have h59:=dF g59;⟨fun g60=>have h60:=dT g60;⟨(Cmd.su x1),trivial,
⟨rfl,trivial⟩,trivial,
fun h62=>⟨(Cmd.inc x1),trivial,
⟨rfl,trivial⟩,trivial,
(by(try dsimp only at *);simp[hasF, *]),trivial⟩,
fun h64=>⟨(by(try dsimp only at *);simp[hasF, *]),trivial⟩⟩,
fun g65=>have h65:=dF g65;⟨fun g66=>have h66:=dT g66;⟨fun g67=>have h67:=dT g67;⟨(Cmd.dist x1),trivial,
⟨rfl,trivial⟩,trivial,
fun h69=>⟨(Cmd.cen x1),trivial,
⟨rfl,trivial⟩,trivial,
fun h71=>⟨(Cmd.ep x1),trivial,
⟨rfl,trivial⟩,trivial,
(by(try dsimp only at *);simp[hasF, *]),trivial⟩,
fun h73=>⟨(by(try dsimp only at *);simp[hasF, *]),trivial⟩⟩,
fun h74=>⟨(by(try dsimp only at *);simp[hasF, *]),trivial⟩⟩,
fun g75=>have h75:=dF g75;⟨fun g76=>have h76:=dT g76;⟨fun g77=>have h77:=dT g77;⟨fun g78=>have h78:=dT g78;⟨fun g79=>have h79:=dT g79;⟨fun g80=>have h80:=dF g80;⟨(by(try dsimp only at *);omega),trivial⟩,
fun g81=>have h81:=dT g81;⟨(by(try dsimp only at *);omega),trivial⟩⟩,
fun g82=>have h82:=dF g82;⟨(by(try dsimp only at *);omega),trivial⟩⟩,
fun g83=>have h83:=dF g83;⟨(by(try dsimp only at *);omega),trivial⟩⟩,
fun g84=>have h84:=dF g84;⟨(by(try dsimp only at *);omega),trivial⟩⟩,
fun g85=>have h85:=dF g85;⟨fun g86=>have h86:=dT g86;⟨fun g87=>have h87:=dT g87;⟨(by(try dsimp only at *);omega),trivial⟩,
fun g88=>have h88:=dF g88;⟨(by(try dsimp only at *);omega),trivial⟩⟩,
fun g89=>have h89:=dF g89;⟨fun g90=>have h90:=dT g90;⟨(Cmd.inc x1),trivial,
⟨rfl,trivial⟩,trivial,
(by(try dsimp only at *);omega),trivial⟩,
fun g92=>have h92:=dF g92;⟨fun g93=>have h93:=dT g93;⟨(Cmd.su x1),trivial,
⟨rfl,trivial⟩,trivial,
fun h95=>⟨fun g96=>have h96:=dT g96;⟨(by(try dsimp only at *);omega),trivial⟩,
fun g97=>have h97:=dF g97;⟨(by(try dsimp only at *);omega),trivial⟩⟩,
fun h98=>⟨(by(try dsimp only at *);omega),trivial⟩⟩,
fun g99=>have h99:=dF g99;⟨fun g100=>have h100:=dT g100;⟨(by(try dsimp only at *);omega),trivial⟩,
fun g101=>have h101:=dF g101;⟨(by(try dsimp only at *);omega),trivial⟩⟩⟩⟩⟩⟩⟩,
fun g102=>have h102:=dF g102;⟨fun g103=>have h103:=dT g103;⟨fun g104=>have h104:=dT g104;⟨(Cmd.dist x1),trivial,
⟨rfl,trivial⟩,trivial,
fun h106=>⟨(Cmd.cen x1),trivial,
⟨rfl,trivial⟩,trivial,
fun h108=>⟨(Cmd.ep x1),trivial,
⟨rfl,trivial⟩,trivial,
(by(try dsimp only at *);simp[hasF, *]),trivial⟩,
fun h110=>⟨(by(try dsimp only at *);simp[hasF, *]),trivial⟩⟩,
fun h111=>⟨(by(try dsimp only at *);simp[hasF, *]),trivial⟩⟩,
fun g112=>have h112:=dF g112;⟨fun g113=>have h113:=dT g113;⟨fun g114=>have h114:=dT g114;⟨fun g115=>have h115:=dT g115;⟨fun g116=>have h116:=dT g116;⟨fun g117=>have h117:=dF g117;⟨(by(try dsimp only at *);omega),trivial⟩,
fun g118=>have h118:=dT g118;⟨(by(try dsimp only at *);omega),trivial⟩⟩,
fun g119=>have h119:=dF g119;⟨(by(try dsimp only at *);omega),trivial⟩⟩,
fun g120=>have h120:=dF g120;⟨(by(try dsimp only at *);omega),trivial⟩⟩,
fun g121=>have h121:=dF g121;⟨(by(try dsimp only at *);omega),trivial⟩⟩,
fun g122=>have h122:=dF g122;⟨fun g123=>have h123:=dT g123;⟨fun g124=>have h124:=dT g124;⟨(by(try dsimp only at *);omega),trivial⟩,
fun g125=>have h125:=dF g125;⟨(by(try dsimp only at *);omega),trivial⟩⟩,
fun g126=>have h126:=dF g126;⟨fun g127=>have h127:=dT g127;⟨(Cmd.inc x1),trivial,
⟨rfl,trivial⟩,trivial,
(by(try dsimp only at *);omega),trivial⟩,
fun g129=>have h129:=dF g129;⟨fun g130=>have h130:=dT g130;⟨(Cmd.su x1),trivial,
⟨rfl,trivial⟩,trivial,
fun h132=>⟨fun g133=>have h133:=dT g133;⟨(by(try dsimp only at *);omega),trivial⟩,
fun g134=>have h134:=dF g134;⟨(by(try dsimp only at *);omega),trivial⟩⟩,
fun h135=>⟨(by(try dsimp only at *);omega),trivial⟩⟩,
fun g136=>have h136:=dF g136;⟨fun g137=>have h137:=dT g137;⟨(by(try dsimp only at *);omega),trivial⟩,
fun g138=>have h138:=dF g138;⟨(by(try dsimp only at *);omega),trivial⟩⟩⟩⟩⟩⟩⟩,
fun g139=>have h139:=dF g139;⟨fun g140=>have h140:=dT g140;⟨(Cmd.dist x1),trivial,
⟨rfl,trivial⟩,trivial,
fun h142=>⟨(Cmd.cen x1),trivial,
⟨rfl,trivial⟩,trivial,
fun h144=>⟨(Cmd.ep x1),trivial,
⟨rfl,trivial⟩,trivial,
(by(try dsimp only at *);simp[hasF, *]),trivial⟩,
fun h146=>⟨(by(try dsimp only at *);simp[hasF, *]),trivial⟩⟩,
fun h147=>⟨(by(try dsimp only at *);simp[hasF, *]),trivial⟩⟩,
fun g148=>have h148:=dF g148;⟨fun g149=>have h149:=dT g149;⟨fun g150=>have h150:=dT g150;⟨fun g151=>have h151:=dT g151;⟨fun g152=>have h152:=dT g152;⟨fun g153=>have h153:=dF g153;⟨(by(try dsimp only at *);simp[hasF, *]),trivial⟩,
fun g154=>have h154:=dT g154;⟨(by(try dsimp only at *);simp[hasF, *]),trivial⟩⟩,
fun g155=>have h155:=dF g155;⟨(by(try dsimp only at *);simp[hasF, *]),trivial⟩⟩,
fun g156=>have h156:=dF g156;⟨(by(try dsimp only at *);simp[hasF, *]),trivial⟩⟩,
fun g157=>have h157:=dF g157;⟨(by(try dsimp only at *);simp[hasF, *]),trivial⟩⟩,
fun g158=>have h158:=dF g158;⟨fun g159=>have h159:=dT g159;⟨fun g160=>have h160:=dT g160;⟨(by(try dsimp only at *);simp[hasF, *]),trivial⟩,
fun g161=>have h161:=dF g161;⟨(by(try dsimp only at *);simp[hasF, *]),trivial⟩⟩,
fun g162=>have h162:=dF g162;⟨fun g163=>have h163:=dT g163;⟨(Cmd.inc x1),trivial,
⟨rfl,trivial⟩,trivial,
(by(try dsimp only at *);simp[hasF, *]),trivial⟩,
fun g165=>have h165:=dF g165;⟨fun g166=>have h166:=dT g166;⟨(Cmd.su x1),trivial,
⟨rfl,trivial⟩,trivial,
fun h168=>⟨fun g169=>have h169:=dT g169;⟨(by(try dsimp only at *);simp[hasF, *]),trivial⟩,
fun g170=>have h170:=dF g170;⟨(by(try dsimp only at *);simp[hasF, *]),trivial⟩⟩,
fun h171=>⟨(by(try dsimp only at *);simp[hasF, *]),trivial⟩⟩,
fun g172=>have h172:=dF g172;⟨fun g173=>have h173:=dT g173;⟨(by(try dsimp only at *);simp[hasF, *]),trivial⟩,
fun g174=>have h174:=dF g174;⟨(by(try dsimp only at *);simp[hasF, *]),trivial⟩⟩⟩⟩⟩⟩⟩⟩⟩⟩⟩⟩⟩⟩⟩⟩)
theorem ha_good:Good Tryd.prog 35 haC/\FnOk Tryd.prog 35:=good_of tok conH (fn:=Tryd.f35) rfl (by decide+kernel) (fun _=>rfl) ha_keeps
def rightF (c:Cmd):Bool:=kOk c.kind&&(decide (c=onlyR c)&&hasF c)
def cfgG:Cfg:=⟨T,[],[(34,.one onC),(19,.one eqCt),(35,.one haC)],noInv,60,{}⟩
theorem conG:ConOk Tryd.prog cfgG:=ConL.ok (.cons (ConL.one on_good) (.cons (ConL.one sm_good) (.cons (ConL.one ha_good) .nil)))
def rgC:CT where
 X:=Cmd
 pre:=fun x=>x.nodes.length<=1000000/\x.code.size<=1000000
 args:=fun x=>[.agg (cl x 100001)]
 g0:=fun x=>[nB 100001 x]
 res:=fun x=>.b (rightF x)
 g1:=fun _=>[]
theorem rg_k {c:Cmd} (h:kOk c.kind=false):false=rightF c:=by unfold rightF;rw[h];rfl
theorem rg_s {c:Cmd} (h:kOk c.kind=true) (h1:¬ c=onlyV c):false=rightF c:=by rw[ov_y h]at h1;unfold rightF;rw[decide_eq_false h1,Bool.false_and,Bool.and_false]
theorem rg_t {c:Cmd} (h:kOk c.kind=true) (h1:c=onlyV c):hasF c=rightF c:=by rw[ov_y h]at h1;unfold rightF;rw[decide_eq_true h1,h];rfl
set_option maxRecDepth 100000 in
theorem rg_keeps:Keeps cfgG Tryd.f13 rgC noIv:=Eq.mp (show((∀ x1:Cmd,((x1.nodes.length<=(1000000:Nat)/\ByteArray.size x1.code<=(1000000:Nat))->(∃ x3:Cmd,(True/\(((x1.kind=x3.kind/\(x1.call=x3.call/\(x1.inc=x3.inc/\(x1.oth=x3.oth/\(x1.urg=x3.urg/\(x1.code=x3.code/\((0=0/\x1.nodes.length=x3.nodes.length)/\(x1.dist=x3.dist/\(x1.cen=x3.cen/\(x1.ep=x3.ep/\(x1.tick=x3.tick/\(x1.su=x3.su/\(x1.sq=x3.sq/\(x1.ss=x3.ss/\(x1.sn=x3.sn/\(x1.se=x3.se/\(x1.edge=x3.edge/\(x1.time=x3.time/\(x1.node=x3.node/\True)))))))))))))))))))/\True)/\((((RLe x3.nodes.length x1.nodes.length)/\(RI x3.nodes.length x1.nodes x3.nodes))/\True)/\(((kOk x3.kind=true)->(∃ x5:Cmd × Cmd,(((Prod.fst x5).nodes.length<=(1000000:Nat))/\((((x1.kind=(Prod.fst x5).kind)/\((x1.call=(Prod.fst x5).call)/\((x1.inc=(Prod.fst x5).inc)/\((x1.oth=(Prod.fst x5).oth)/\((x1.urg=(Prod.fst x5).urg)/\((x1.code=(Prod.fst x5).code)/\((0=0/\(x1.nodes.length=(Prod.fst x5).nodes.length))/\((x1.dist=(Prod.fst x5).dist)/\((x1.cen=(Prod.fst x5).cen)/\((x1.ep=(Prod.fst x5).ep)/\((x1.tick=(Prod.fst x5).tick)/\((x1.su=(Prod.fst x5).su)/\((x1.sq=(Prod.fst x5).sq)/\((x1.ss=(Prod.fst x5).ss)/\((x1.sn=(Prod.fst x5).sn)/\((x1.se=(Prod.fst x5).se)/\((x1.edge=(Prod.fst x5).edge)/\((x1.time=(Prod.fst x5).time)/\((x1.node=(Prod.fst x5).node)/\True)))))))))))))))))))/\((((onlyV x3).kind=(Prod.snd x5).kind)/\(((onlyV x3).call=(Prod.snd x5).call)/\(((onlyV x3).inc=(Prod.snd x5).inc)/\(((onlyV x3).oth=(Prod.snd x5).oth)/\(((onlyV x3).urg=(Prod.snd x5).urg)/\(((onlyV x3).code=(Prod.snd x5).code)/\((0=0/\((onlyV x3).nodes.length=(Prod.snd x5).nodes.length))/\(((onlyV x3).dist=(Prod.snd x5).dist)/\(((onlyV x3).cen=(Prod.snd x5).cen)/\(((onlyV x3).ep=(Prod.snd x5).ep)/\(((onlyV x3).tick=(Prod.snd x5).tick)/\(((onlyV x3).su=(Prod.snd x5).su)/\(((onlyV x3).sq=(Prod.snd x5).sq)/\(((onlyV x3).ss=(Prod.snd x5).ss)/\(((onlyV x3).sn=(Prod.snd x5).sn)/\(((onlyV x3).se=(Prod.snd x5).se)/\(((onlyV x3).edge=(Prod.snd x5).edge)/\(((onlyV x3).time=(Prod.snd x5).time)/\(((onlyV x3).node=(Prod.snd x5).node)/\True)))))))))))))))))))/\True))/\((((RLe (Prod.fst x5).nodes.length x1.nodes.length)/\(RowsEq [.int .i64] (Prod.fst x5).nodes.length (encL encI x1.nodes) (encL encI (Prod.fst x5).nodes)))/\(((RLe (Prod.snd x5).nodes.length (onlyV x3).nodes.length)/\(RowsEq [.int .i64] (Prod.snd x5).nodes.length (encL encI (onlyV x3).nodes) (encL encI (Prod.snd x5).nodes)))/\True))/\(((decide (Prod.fst x5=Prod.snd x5)=true)->(∃ x7:Cmd,(((x7.nodes.length<=(1000000:Nat))/\(ByteArray.size x7.code<=(1000000:Nat)))/\(((x1.kind=x7.kind/\(x1.call=x7.call/\(x1.inc=x7.inc/\(x1.oth=x7.oth/\(x1.urg=x7.urg/\(x1.code=x7.code/\((0=0/\x1.nodes.length=x7.nodes.length)/\(x1.dist=x7.dist/\(x1.cen=x7.cen/\(x1.ep=x7.ep/\(x1.tick=x7.tick/\(x1.su=x7.su/\(x1.sq=x7.sq/\(x1.ss=x7.ss/\(x1.sn=x7.sn/\(x1.se=x7.se/\(x1.edge=x7.edge/\(x1.time=x7.time/\(x1.node=x7.node/\True)))))))))))))))))))/\True)/\((((RLe x7.nodes.length x1.nodes.length)/\(RI x7.nodes.length x1.nodes x7.nodes))/\True)/\((hasF x7=rightF x1)/\True))))))/\((decide (Prod.fst x5=Prod.snd x5)=false)->((false=rightF x1)/\True))))))))/\((kOk x3.kind=false)->((false=rightF x1)/\True))))))))))=(Keeps cfgG Tryd.f13 rgC noIv) by kernel_rfl) (fun x1=>fun h2=>⟨(x1),trivial,
⟨⟨rfl,rfl,rfl,rfl,rfl,rfl,
⟨rfl,rfl⟩,rfl,rfl,rfl,rfl,rfl,rfl,rfl,rfl,rfl,rfl,rfl,rfl,trivial⟩,trivial⟩,
⟨⟨rl,rr⟩,trivial⟩,
fun h4=>⟨((x1,onlyV x1)),
(by(try dsimp only at *);omega),
⟨⟨rfl,rfl,rfl,rfl,rfl,rfl,
⟨rfl,rfl⟩,rfl,rfl,rfl,rfl,rfl,rfl,rfl,rfl,rfl,rfl,rfl,rfl,trivial⟩,
⟨rfl,rfl,rfl,rfl,rfl,rfl,
⟨rfl,rfl⟩,rfl,rfl,rfl,rfl,rfl,rfl,rfl,rfl,rfl,rfl,rfl,rfl,trivial⟩,trivial⟩,
⟨⟨rl,rr⟩,
⟨rl,rr⟩,trivial⟩,
fun g6=>have h6:=dT g6;⟨(x1),
⟨(by(try dsimp only at *);omega),
(by(try dsimp only at *);omega)⟩,
⟨⟨rfl,rfl,rfl,rfl,rfl,rfl,
⟨rfl,rfl⟩,rfl,rfl,rfl,rfl,rfl,rfl,rfl,rfl,rfl,rfl,rfl,rfl,trivial⟩,trivial⟩,
⟨⟨rl,rr⟩,trivial⟩,
(by(try dsimp only at *);exact rg_t ‹_› ‹_›),trivial⟩,
fun g8=>have h8:=dF g8;⟨(by(try dsimp only at *);exact rg_s ‹_› ‹_›),trivial⟩⟩,
fun h9=>⟨(by(try dsimp only at *);exact rg_k ‹_›),trivial⟩⟩)
def smallF (c:Cmd):Bool:=decide (c.code.size<=100/\c.nodes.length<=60)
def slC:CT where
 X:=Cmd
 pre:=fun _=>True
 args:=fun x=>[.agg (cl x 100001)]
 g0:=fun x=>[nB 100001 x]
 res:=fun x=>.b (smallF x)
 g1:=fun _=>[]
theorem sl_n {c:Cmd} (h:¬ (c.code.size:Int)<=100):false=smallF c:=by unfold smallF;rw[decide_eq_false (by omega)]
theorem sl_y {c:Cmd} (h:(c.code.size:Int)<=100):decide ((c.nodes.length:Int)<=60)=smallF c:=by unfold smallF;exact decide_eq_decide.2 (by omega)
set_option maxRecDepth 100000 in
theorem sl_keeps:Keeps cfg0 Tryd.f11 slC noIv:=Eq.mp (show((∀ x1:Cmd,(True->(((decide ((↑(ByteArray.size x1.code):Int)<=(100:Int))=true)->((decide ((x1.nodes.length:Int)<=(60:Int))=smallF x1)/\True))/\((decide ((↑(ByteArray.size x1.code):Int)<=(100:Int))=false)->((false=smallF x1)/\True))))))=(Keeps cfg0 Tryd.f11 slC noIv) by kernel_rfl) (fun x1=>fun h2=>⟨fun g3=>have h3:=dT g3;⟨(by exact sl_y ‹_›),trivial⟩,
fun g4=>have h4:=dF g4;⟨(by exact sl_n ‹_›),trivial⟩⟩)
theorem rg_good:Good Tryd.prog 13 rgC/\FnOk Tryd.prog 13:=good_of tok conG (fn:=Tryd.f13) rfl (by decide+kernel) (fun _=>rfl) rg_keeps
end Go.Sym