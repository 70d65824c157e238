import Derived.Test.YtpnnecijeoipfaaGreatDoorO7
import Derived.Test.YtpnnecijeoipfaaGreatDoorXD
namespace Go.Sym
set_option linter.unusedVariables false
set_option linter.unusedSimpArgs false
open Go.Proofs
set_option maxRecDepth 100000
set_option maxHeartbeats 4000000
structure Cs where
 kind:Int
 call:Int
 at_:Int
 unit:Int
 urg:Int
 node:Int
instance:Inhabited Cs:=⟨⟨0,0,0,0,0,0⟩⟩
structure CsOk (x:Cs):Prop where
 kind:0<=x.kind/\x.kind<=255
 call:0<=x.call/\x.call<=255
 at_:0<=x.at_/\x.at_<=255
 unit:0<=x.unit/\x.unit<=255
 urg:0<=x.urg/\x.urg<=255
 node:0<=x.node/\x.node<=255
def csV (x:Cs):SV:=.agg [.i .u8 x.kind,.i .u8 x.call,.i .u8 x.at_,.i .u8 x.unit,.i .u8 x.urg,.i .u8 x.node]
def toldC (x:Cs):CR:=⟨1+x.call%6,0,1+x.urg%5,fallS,[x.node%12,x.node%12+1],false⟩
theorem told_ok {x:Cs} (h:CsOk x):COk (toldC x):=by
 have a:=h.call
 have b:=h.urg
 have c:=h.node
 refine⟨by show 1<=1+x.call%6/\1+x.call%6<=_;omega,⟨Int.le_refl _,by show(0:Int)<=1099511627776;omega⟩,by show 1<=1+x.urg%5/\1+x.urg%5<=5;omega,rfl,⟨by simp[toldC],?_,?_⟩,by simp[toldC]⟩
 ·show [x.node%12,x.node%12+1].Pairwise _
  simp
  omega
 ·intro n hn
  have:n=x.node%12∨n=x.node%12+1:=by simpa[toldC]using hn
  omega
def toC:CT where
 X:=Cs
 pre:=CsOk
 args:=fun x=>[csV x]
 g0:=fun _=>[]
 res:=fun x=>crV (toldC x) 1
 g1:=fun x=>crH (toldC x) .own 1
set_option maxRecDepth 100000 in
theorem to_keeps:Keeps cfgN0 Tryz.f7 toC noIv:=Eq.mp (show((∀ x1:Cs,((CsOk x1)->((((-9223372036854775808:Int)<=x1.node)/\(x1.node<=(9223372036854775807:Int)))/\((((0:Int)<=x1.node)/\((0:Int)<12))/\((((-9223372036854775808:Int)<=x1.call)/\(x1.call<=(9223372036854775807:Int)))/\((((0:Int)<=x1.call)/\((0:Int)<6))/\((((-9223372036854775808:Int)<=(1:Int)+x1.call%6)/\((1:Int)+x1.call%6<=(9223372036854775807:Int)))/\((((-9223372036854775808:Int)<=x1.urg)/\(x1.urg<=(9223372036854775807:Int)))/\((((0:Int)<=x1.urg)/\((0:Int)<5))/\((((-9223372036854775808:Int)<=(1:Int)+x1.urg%5)/\((1:Int)+x1.urg%5<=(9223372036854775807:Int)))/\((((-9223372036854775808:Int)<=x1.node%12+1)/\(x1.node%12+1<=(9223372036854775807:Int)))/\(((True/\True)/\((True/\True)/\True))/\((((1:Int)+x1.call%6=(toldC x1).call)/\((0=(toldC x1).inc)/\(((1:Int)+x1.urg%5=(toldC x1).urg)/\(((ByteArray.mk (List.toArray ((102:UInt8)::(97:UInt8)::(108:UInt8)::(108:UInt8)::@List.nil UInt8)))=(toldC x1).code)/\((0=0/\((2:Nat)=(toldC x1).nodes.length))/\(((0:Int)=0)/\(((0:Int)=0)/\((false=(toldC x1).closed)/\True))))))))/\(((RLe (toldC x1).nodes.length 2)/\(RowsEq [.int .i64] (toldC x1).nodes.length (litRows ((D.i (x1.node%12)::@List.nil D)::(D.i (x1.node%12+1)::@List.nil D)::@List.nil (List D))) (encL encI (toldC x1).nodes)))/\True)))))))))))))))=(Keeps cfgN0 Tryz.f7 toC noIv) by kernel_rfl) (fun x1=>fun h2=>⟨⟨(by(have:=h2.call;have:=h2.urg;have:=h2.node;omega)),
(by(have:=h2.call;have:=h2.urg;have:=h2.node;omega))⟩,
⟨(by(have:=h2.call;have:=h2.urg;have:=h2.node;omega)),
(by omega)⟩,
⟨(by(have:=h2.call;have:=h2.urg;have:=h2.node;omega)),
(by(have:=h2.call;have:=h2.urg;have:=h2.node;omega))⟩,
⟨(by(have:=h2.call;have:=h2.urg;have:=h2.node;omega)),
(by omega)⟩,
⟨(by omega),
(by omega)⟩,
⟨(by(have:=h2.call;have:=h2.urg;have:=h2.node;omega)),
(by(have:=h2.call;have:=h2.urg;have:=h2.node;omega))⟩,
⟨(by(have:=h2.call;have:=h2.urg;have:=h2.node;omega)),
(by omega)⟩,
⟨(by omega),
(by omega)⟩,
⟨(by omega),
(by omega)⟩,
⟨⟨trivial,trivial⟩,
⟨trivial,trivial⟩,trivial⟩,
⟨(by rfl),
(by rfl),
(by rfl),
(by rfl),
⟨rfl,
(by rfl)⟩,rfl,rfl,
(by rfl),trivial⟩,
⟨⟨(by exact Nat.le_refl 2)⟩,
(by exact lit2 _ _)⟩,trivial⟩)
theorem to_good:Good Tryz.prog 7 toC/\FnOk Tryz.prog 7:=good_of tok conN0 (fn:=Tryz.f7) rfl (by decide+kernel) (fun _=>rfl) to_keeps
structure OPx where
 r:Rg
 t:CR
 id:Int
def taken (q:OPx):CR:=⟨q.t.call,q.id,q.t.urg,q.t.code,q.t.nodes,false⟩
def frm (id:Int) (c:CR):Ic:=⟨id,c.urg,c.code,c.nodes,[c.call],[],0,false⟩
def opR (q:OPx):Int:=if q.t.call∈q.r.ck then 5 else if q.id∈q.r.ik then 5 else 0
def opF (q:OPx):Rg:=if q.t.call∈q.r.ck then q.r else if q.id∈q.r.ik then q.r else putI (putC q.r (taken q)) (frm q.id q.t)
structure OPok (q:OPx):Prop where
 t:COk q.t
 id:1<=q.id/\q.id<=1099511627776
theorem op_c {q:OPx} (h:q.t.call∈q.r.ck):opR q=5/\opF q=q.r:=⟨if_pos h,if_pos h⟩
theorem op_i {q:OPx} (h:¬ q.t.call∈q.r.ck) (h2:q.id∈q.r.ik):opR q=5/\opF q=q.r:=⟨by unfold opR;rw[if_neg h,if_pos h2],by unfold opF;rw[if_neg h,if_pos h2]⟩
theorem op_y {q:OPx} (h:¬ q.t.call∈q.r.ck) (h2:¬ q.id∈q.r.ik):opR q=0/\opF q=putI (putC q.r (taken q)) (frm q.id q.t):=⟨by unfold opR;rw[if_neg h,if_neg h2],by unfold opF;rw[if_neg h,if_neg h2]⟩
def opC:CT where
 X:=OPx
 pre:=OPok
 args:=fun q=>[.p 100000 0 0,crV q.t 100010,.i .i64 q.id]
 g0:=fun q=>rgH 100000 .own q.r++crH q.t .bor 100010
 res:=fun q=>.i .i64 (opR q)
 g1:=fun q=>rgM 100000 .own (opF q)
def opI (_:OPx) (id:Nat):Option Inv:=match id with
 |100055=>some (cutT 55 false)
 |_=>none
def cfgOp:Cfg:=⟨T,[],[(24,.one accC),(25,.one numC),(26,.one frC),(6,.one nwC)],noInv,12,{}⟩
theorem conOp:ConOk Tryz.prog cfgOp:=ConL.ok (.cons (ConL.one acc_good) (.cons (ConL.one rnum_good) (.cons (ConL.one fr_good) (.cons (ConL.one nw_good) .nil))))
set_option maxRecDepth 100000 in
theorem op_keeps:Keeps cfgOp Tryz.f8 opC opI:=Eq.mp (show((∀ x1:OPx,((OPok x1)->(∃ x3:CR,((COk x3)/\(((x1.t.call=x3.call/\(x1.t.inc=x3.inc/\(x1.t.urg=x3.urg/\(x1.t.code=x3.code/\((0=0/\x1.t.nodes.length=x3.nodes.length)/\(((0:Int)=0)/\(((0:Int)=0)/\(x1.t.closed=x3.closed/\True))))))))/\True)/\((((RLe x3.nodes.length x1.t.nodes.length)/\(RI x3.nodes.length x1.t.nodes x3.nodes))/\True)/\(∃ x4:Int,((((1:Int)<=x4)/\(x4<=(1099511627776:Int)))/\((x1.id=x4/\True)/\(True/\(((decide ((clrC x3).call∈x1.r.ck)=true)->(((5:Int)=opR x1)/\((MapEq (.int .i64:: .int .i64:: .int .i64::Kd.str:: .sl [.int .i64]:: .int .i64:: .int .i64::Kd.bool::[]) x1.r.ck (opF x1).ck (encRC x1.r) (encRC (opF x1)))/\((MapEq (.int .i64:: .int .i64::Kd.str:: .sl [.int .i64]:: .int .i64:: .int .i64:: .sl [.int .i64]:: .sl [.int .i64]:: .int .i64::Kd.bool::[]) x1.r.ik (opF x1).ik (encRI x1.r) (encRI (opF x1)))/\((MapEq [.int .i64] x1.r.hk (opF x1).hk (encRH x1.r) (encRH (opF x1)))/\True)))))/\((decide ((clrC x3).call∈x1.r.ck)=false)->(((decide (x1.id∈x1.r.ik)=true)->(((5:Int)=opR x1)/\((MapEq (.int .i64:: .int .i64:: .int .i64::Kd.str:: .sl [.int .i64]:: .int .i64:: .int .i64::Kd.bool::[]) x1.r.ck (opF x1).ck (encRC x1.r) (encRC (opF x1)))/\((MapEq (.int .i64:: .int .i64::Kd.str:: .sl [.int .i64]:: .int .i64:: .int .i64:: .sl [.int .i64]:: .sl [.int .i64]:: .int .i64::Kd.bool::[]) x1.r.ik (opF x1).ik (encRI x1.r) (encRI (opF x1)))/\((MapEq [.int .i64] x1.r.hk (opF x1).hk (encRH x1.r) (encRH (opF x1)))/\True)))))/\((decide (x1.id∈x1.r.ik)=false)->(∃ x9:FCx,(((COk x9.c)/\(((1:Int)<=x9.id)/\(x9.id<=(1099511627776:Int))))/\((x1.id=x9.id/\((((clrC x3).call=x9.c.call)/\(((clrC x3).inc=x9.c.inc)/\(((clrC x3).urg=x9.c.urg)/\(((clrC x3).code=x9.c.code)/\((0=0/\((clrC x3).nodes.length=x9.c.nodes.length))/\(((0:Int)=0)/\(((0:Int)=0)/\(((clrC x3).closed=x9.c.closed)/\True))))))))/\True))/\((((RLe x9.c.nodes.length x3.nodes.length)/\(RI x9.c.nodes.length x3.nodes x9.c.nodes))/\True)/\((∃ x10:Unit,(True/\((decide ((0:Int)≠(0:Int))=false)/\True)))/\(∀ x11:Unit,(True->((True/\(True/\(True/\(True/\(((0:Nat)+(clrC x3).nodes.length<=x3.nodes.length)/\(True/\(True/\(True/\True))))))))/\((True/\(True/\(True/\(((0:Nat)+x9.c.nodes.length<=x9.c.nodes.length)/\(True/\(True/\(((1:Nat)<=(1:Nat))/\(True/\(True/\(True/\True))))))))))/\(((0:Int)=opR x1)/\((MapEq (.int .i64:: .int .i64:: .int .i64::Kd.str:: .sl [.int .i64]:: .int .i64:: .int .i64::Kd.bool::[]) (madd1 x1.r.ck (clrC x3).call) (opF x1).ck (mset (encRC x1.r) (clrC x3).call fun(j:Nat)=>(D.i (clrC x3).call::D.i x1.id::D.i (clrC x3).urg::D.s (clrC x3).code::(D.l (clrC x3).nodes.length fun(r c:Nat)=>D.i (x3.nodes.getD ((0:Nat)+r) default))::D.i 0::D.i 0::D.b (clrC x3).closed::@List.nil D).getD j (D.i 0)) (encRC (opF x1)))/\((MapEq (.int .i64:: .int .i64::Kd.str:: .sl [.int .i64]:: .int .i64:: .int .i64:: .sl [.int .i64]:: .sl [.int .i64]:: .int .i64::Kd.bool::[]) (madd1 x1.r.ik x1.id) (opF x1).ik (mset (encRI x1.r) x1.id fun(j:Nat)=>(D.i x9.id::D.i x9.c.urg::D.s x9.c.code::(D.l x9.c.nodes.length fun(r c:Nat)=>D.i (x9.c.nodes.getD ((0:Nat)+r) default))::D.i 0::D.i 0::(D.l 1 fun(r c:Nat)=>D.i ((x9.c.call::@List.nil Int).getD ((0:Nat)+r) default))::(D.l 0 fun(x x_1:Nat)=>D.i 0)::D.i 0::D.b false::@List.nil D).getD j (D.i 0)) (encRI (opF x1)))/\((MapEq [.int .i64] x1.r.hk (opF x1).hk (encRH x1.r) (encRH (opF x1)))/\True))))))))))))))))))))))))))))=(Keeps cfgOp Tryz.f8 opC opI) by kernel_rfl) (fun x1=>fun h2=>⟨(OPx.t x1),
(by(try dsimp only at *);exact h2.t),
⟨⟨rfl,rfl,rfl,rfl,
⟨rfl,rfl⟩,rfl,rfl,rfl,trivial⟩,trivial⟩,
⟨⟨rl,rr⟩,trivial⟩,
(OPx.id x1),
⟨(by(try dsimp only at *);(have:=h2.id;omega)),
(by(try dsimp only at *);(have:=h2.id;omega))⟩,
⟨rfl,trivial⟩,trivial,
fun g5=>have h5:=dT g5;⟨(by(try dsimp only at *);exact(op_c ‹_›).1.symm),
(by(try dsimp only at *);(rw[(op_c ‹_›).2];exact MapEq.rfl')),
(by(try dsimp only at *);(rw[(op_c ‹_›).2];exact MapEq.rfl')),
(by(try dsimp only at *);(rw[(op_c ‹_›).2];exact MapEq.rfl')),trivial⟩,
fun g6=>have h6:=dF g6;⟨fun g7=>have h7:=dT g7;⟨(by(try dsimp only at *);exact(op_i ‹_› ‹_›).1.symm),
(by(try dsimp only at *);(rw[(op_i ‹_› ‹_›).2];exact MapEq.rfl')),
(by(try dsimp only at *);(rw[(op_i ‹_› ‹_›).2];exact MapEq.rfl')),
(by(try dsimp only at *);(rw[(op_i ‹_› ‹_›).2];exact MapEq.rfl')),trivial⟩,
fun g8=>have h8:=dF g8;⟨({ id:=OPx.id x1,c:=clrC (OPx.t x1):FCx }),
⟨(by(try dsimp only at *);exact cok0 h2.t),
(by(try dsimp only at *);(have:=h2.id;omega)),
(by(try dsimp only at *);(have:=h2.id;omega))⟩,
⟨rfl,
⟨rfl,rfl,rfl,rfl,
⟨rfl,rfl⟩,rfl,rfl,rfl,trivial⟩,trivial⟩,
⟨⟨⟨(by(try dsimp only at *);exact Nat.le_refl _)⟩,
(by(try dsimp only at *);exact rr)⟩,trivial⟩,
⟨(default),trivial,
(by(try dsimp only at *);grind),trivial⟩,
fun x11=>fun h12=>⟨⟨trivial,trivial,trivial,trivial,
(by(try dsimp only at *);exact Nat.le_of_eq (Nat.zero_add _)),trivial,trivial,trivial,trivial⟩,
⟨trivial,trivial,trivial,
(by(try dsimp only at *);omega),trivial,trivial,
(by(try dsimp only at *);omega),trivial,trivial,trivial,trivial⟩,
(by(try dsimp only at *);exact(op_y ‹_› ‹_›).1.symm),
(by(try dsimp only at *);(rw[(op_y h6 h8).2];exact put_mapC x1.r (taken x1) rfl (rowC_eq (taken x1)))),
(by(try dsimp only at *);(rw[(op_y h6 h8).2];exact put_mapI (putC x1.r (taken x1)) (frm x1.id x1.t) rfl (rowI_eq (frm x1.id x1.t)))),
(by(try dsimp only at *);(rw[(op_y h6 h8).2];exact MapEq.rfl')),trivial⟩⟩⟩⟩)
theorem op_good:Good Tryz.prog 8 opC/\FnOk Tryz.prog 8:=good_of tok conOp (fn:=Tryz.f8) rfl (by decide+kernel) (fun _=>rfl) op_keeps
def isO (x:Ic):Bool:=decide (x.merged=0)&& !x.closed
def adX (q:OPx):RRx:=⟨putC q.r (taken q),q.r.i q.id,(q.r.i q.id).calls++[q.t.call]⟩
def adR (q:OPx):Int:=if q.t.call∈q.r.ck then 5 else if q.id∈q.r.ik then(if isO (q.r.i q.id)=true then 0 else 8)else 4
def adF (q:OPx):Rg:=if q.t.call∈q.r.ck then q.r else if q.id∈q.r.ik then(if isO (q.r.i q.id)=true then rrF (adX q)else q.r)else q.r
structure ADok (q:OPx):Prop where
 t:COk q.t
 id:1<=q.id/\q.id<=1099511627776
 len:q.id∈q.r.ik->(q.r.i q.id).calls.length<=12
 rr:¬ q.t.call∈q.r.ck->q.id∈q.r.ik->isO (q.r.i q.id)=true->RRok (adX q)
theorem ad_c {q:OPx} (h:q.t.call∈q.r.ck):adR q=5/\adF q=q.r:=⟨if_pos h,if_pos h⟩
theorem ad_i {q:OPx} (h:¬ q.t.call∈q.r.ck) (h2:¬ q.id∈q.r.ik):adR q=4/\adF q=q.r:=⟨by unfold adR;rw[if_neg h,if_neg h2],by unfold adF;rw[if_neg h,if_neg h2]⟩
theorem ad_o {q:OPx} (h:¬ q.t.call∈q.r.ck) (h2:q.id∈q.r.ik) (h3:isO (q.r.i q.id)=false):adR q=8/\adF q=q.r:=⟨by unfold adR;rw[if_neg h,if_pos h2,h3];rfl,by unfold adF;rw[if_neg h,if_pos h2,h3];rfl⟩
theorem ad_y {q:OPx} (h:¬ q.t.call∈q.r.ck) (h2:q.id∈q.r.ik) (h3:isO (q.r.i q.id)=true):adR q=0/\adF q=rrF (adX q):=⟨by unfold adR;rw[if_neg h,if_pos h2,if_pos h3],by unfold adF;rw[if_neg h,if_pos h2,if_pos h3]⟩
def adC:CT where
 X:=OPx
 pre:=ADok
 args:=fun q=>[.p 100000 0 0,crV q.t 100010,.i .i64 q.id]
 g0:=fun q=>rgH 100000 .own q.r++crH q.t .bor 100010
 res:=fun q=>.i .i64 (adR q)
 g1:=fun q=>rgM 100000 .own (adF q)
def adI (_:OPx) (id:Nat):Option Inv:=match id with
 |100052=>some (cutT 52 false)
 |_=>none
def cfgAd:Cfg:=⟨T,[],[(24,.one accC),(25,.one numC),(27,.one isC),(29,.one (cloneC k1)),(28,.one rrC)],noInv,12,{}⟩
theorem conAd:ConOk Tryz.prog cfgAd:=ConL.ok (.cons (ConL.one acc_good) (.cons (ConL.one rnum_good) (.cons (ConL.one ris_good) (.cons (ConL.one cloneL_good) (.cons (ConL.one rr_good) .nil)))))
set_option maxRecDepth 100000 in
theorem ad_keeps:Keeps cfgAd Tryz.f9 adC adI:=Eq.mp (show((∀ x1:OPx,((ADok x1)->(∃ x3:CR,((COk x3)/\(((x1.t.call=x3.call/\(x1.t.inc=x3.inc/\(x1.t.urg=x3.urg/\(x1.t.code=x3.code/\((0=0/\x1.t.nodes.length=x3.nodes.length)/\(((0:Int)=0)/\(((0:Int)=0)/\(x1.t.closed=x3.closed/\True))))))))/\True)/\((((RLe x3.nodes.length x1.t.nodes.length)/\(RI x3.nodes.length x1.t.nodes x3.nodes))/\True)/\(∃ x4:Int,((((1:Int)<=x4)/\(x4<=(1099511627776:Int)))/\((x1.id=x4/\True)/\(True/\(((decide ((clrC x3).call∈x1.r.ck)=true)->(((5:Int)=adR x1)/\((MapEq (.int .i64:: .int .i64:: .int .i64::Kd.str:: .sl [.int .i64]:: .int .i64:: .int .i64::Kd.bool::[]) x1.r.ck (adF x1).ck (encRC x1.r) (encRC (adF x1)))/\((MapEq (.int .i64:: .int .i64::Kd.str:: .sl [.int .i64]:: .int .i64:: .int .i64:: .sl [.int .i64]:: .sl [.int .i64]:: .int .i64::Kd.bool::[]) x1.r.ik (adF x1).ik (encRI x1.r) (encRI (adF x1)))/\((MapEq [.int .i64] x1.r.hk (adF x1).hk (encRH x1.r) (encRH (adF x1)))/\True)))))/\((decide ((clrC x3).call∈x1.r.ck)=false)->((((!decide (x1.id∈x1.r.ik))=true)->(((4:Int)=adR x1)/\((MapEq (.int .i64:: .int .i64:: .int .i64::Kd.str:: .sl [.int .i64]:: .int .i64:: .int .i64::Kd.bool::[]) x1.r.ck (adF x1).ck (encRC x1.r) (encRC (adF x1)))/\((MapEq (.int .i64:: .int .i64::Kd.str:: .sl [.int .i64]:: .int .i64:: .int .i64:: .sl [.int .i64]:: .sl [.int .i64]:: .int .i64::Kd.bool::[]) x1.r.ik (adF x1).ik (encRI x1.r) (encRI (adF x1)))/\((MapEq [.int .i64] x1.r.hk (adF x1).hk (encRH x1.r) (encRH (adF x1)))/\True)))))/\(((!decide (x1.id∈x1.r.ik))=false)->(∃ x9:Ic,(True/\((((D.toI (if x1.id∈x1.r.ik then D.i (x1.r.i x1.id).id else D.i 0)=x9.id)/\((D.toI (if x1.id∈x1.r.ik then D.i (x1.r.i x1.id).urg else D.i 0)=x9.urg)/\((D.toS (if x1.id∈x1.r.ik then D.s (x1.r.i x1.id).code else D.s ByteArray.empty)=x9.code)/\((0=0/\(D.toN (if x1.id∈x1.r.ik then D.l (x1.r.i x1.id).nodes.length (encL encI (x1.r.i x1.id).nodes)else D.l 0 fun(x x_1:Nat)=>D.i 0)=x9.nodes.length))/\((D.toI (if x1.id∈x1.r.ik then D.i 0 else D.i 0)=(0:Int))/\((D.toI (if x1.id∈x1.r.ik then D.i 0 else D.i 0)=(0:Int))/\((0=0/\(D.toN (if x1.id∈x1.r.ik then D.l (x1.r.i x1.id).calls.length (encL encI (x1.r.i x1.id).calls)else D.l 0 fun(x x_1:Nat)=>D.i 0)=x9.calls.length))/\((0=0/\(D.toN (if x1.id∈x1.r.ik then D.l (x1.r.i x1.id).units.length (encL encI (x1.r.i x1.id).units)else D.l 0 fun(x x_1:Nat)=>D.i 0)=x9.units.length))/\((D.toI (if x1.id∈x1.r.ik then D.i (x1.r.i x1.id).merged else D.i 0)=x9.merged)/\((D.toB (if x1.id∈x1.r.ik then D.b (x1.r.i x1.id).closed else D.b false)=x9.closed)/\True))))))))))/\True)/\((((RLe x9.nodes.length (D.toN (if x1.id∈x1.r.ik then D.l (x1.r.i x1.id).nodes.length (encL encI (x1.r.i x1.id).nodes)else D.l 0 fun(x x_1:Nat)=>D.i 0)))/\(RowsEq [.int .i64] x9.nodes.length (D.toF (if x1.id∈x1.r.ik then D.l (x1.r.i x1.id).nodes.length (encL encI (x1.r.i x1.id).nodes)else D.l 0 fun(x x_1:Nat)=>D.i 0)) (encL encI x9.nodes)))/\(((RLe x9.calls.length (D.toN (if x1.id∈x1.r.ik then D.l (x1.r.i x1.id).calls.length (encL encI (x1.r.i x1.id).calls)else D.l 0 fun(x x_1:Nat)=>D.i 0)))/\(RowsEq [.int .i64] x9.calls.length (D.toF (if x1.id∈x1.r.ik then D.l (x1.r.i x1.id).calls.length (encL encI (x1.r.i x1.id).calls)else D.l 0 fun(x x_1:Nat)=>D.i 0)) (encL encI x9.calls)))/\(((RLe x9.units.length (D.toN (if x1.id∈x1.r.ik then D.l (x1.r.i x1.id).units.length (encL encI (x1.r.i x1.id).units)else D.l 0 fun(x x_1:Nat)=>D.i 0)))/\(RowsEq [.int .i64] x9.units.length (D.toF (if x1.id∈x1.r.ik then D.l (x1.r.i x1.id).units.length (encL encI (x1.r.i x1.id).units)else D.l 0 fun(x x_1:Nat)=>D.i 0)) (encL encI x9.units)))/\True)))/\((((!(decide (x9.merged=(0:Int))&& !x9.closed))=true)->(((8:Int)=adR x1)/\((MapEq (.int .i64:: .int .i64:: .int .i64::Kd.str:: .sl [.int .i64]:: .int .i64:: .int .i64::Kd.bool::[]) x1.r.ck (adF x1).ck (encRC x1.r) (encRC (adF x1)))/\((MapEq (.int .i64:: .int .i64::Kd.str:: .sl [.int .i64]:: .int .i64:: .int .i64:: .sl [.int .i64]:: .sl [.int .i64]:: .int .i64::Kd.bool::[]) x1.r.ik (adF x1).ik (encRI x1.r) (encRI (adF x1)))/\((MapEq [.int .i64] x1.r.hk (adF x1).hk (encRH x1.r) (encRH (adF x1)))/\True)))))/\(((!(decide (x9.merged=(0:Int))&& !x9.closed))=false)->((∃ x12:Unit,(True/\((decide ((1000:Int)<=(↑(D.toN (if x1.id∈x1.r.ik then D.l (x1.r.i x1.id).calls.length (encL encI (x1.r.i x1.id).calls)else D.l 0 fun(x x_1:Nat)=>D.i 0)):Int))=false)/\True)))/\(∀ x13:Unit,(True->((True/\(True/\(True/\(True/\(((0:Nat)+(clrC x3).nodes.length<=x3.nodes.length)/\(True/\(True/\(True/\True))))))))/\(∃ x15:RX,((x15.n<=(1073741824:Nat))/\(((0=0/\(D.toN (if x1.id∈x1.r.ik then D.l (x1.r.i x1.id).calls.length (encL encI (x1.r.i x1.id).calls)else D.l 0 fun(x x_1:Nat)=>D.i 0)=x15.n))/\True)/\((((RLe x15.n (D.toN (if x1.id∈x1.r.ik then D.l (x1.r.i x1.id).calls.length (encL encI (x1.r.i x1.id).calls)else D.l 0 fun(x x_1:Nat)=>D.i 0)))/\(RowsEq [.int .i64] x15.n (D.toF (if x1.id∈x1.r.ik then D.l (x1.r.i x1.id).calls.length (encL encI (x1.r.i x1.id).calls)else D.l 0 fun(x x_1:Nat)=>D.i 0)) x15.f))/\True)/\(((True/\True)/\True)/\((0=0/\((x15.n<=x15.n)/\(((1:Nat)<=(1:Nat))/\(x15.n+(1:Nat)<=(1073741824:Nat)))))/\(∃ x16:RRx,((RRok x16)/\(((0=0/\0=0)/\(((D.toI (if x1.id∈x1.r.ik then D.i (x1.r.i x1.id).id else D.i 0)=x16.x.id)/\((D.toI (if x1.id∈x1.r.ik then D.i (x1.r.i x1.id).urg else D.i 0)=x16.x.urg)/\((D.toS (if x1.id∈x1.r.ik then D.s (x1.r.i x1.id).code else D.s ByteArray.empty)=x16.x.code)/\((0=0/\(D.toN (if x1.id∈x1.r.ik then D.l (x1.r.i x1.id).nodes.length (encL encI (x1.r.i x1.id).nodes)else D.l 0 fun(x x_1:Nat)=>D.i 0)=x16.x.nodes.length))/\((D.toI (if x1.id∈x1.r.ik then D.i 0 else D.i 0)=(0:Int))/\((D.toI (if x1.id∈x1.r.ik then D.i 0 else D.i 0)=(0:Int))/\((0=0/\(D.toN (if x1.id∈x1.r.ik then D.l (x1.r.i x1.id).calls.length (encL encI (x1.r.i x1.id).calls)else D.l 0 fun(x x_1:Nat)=>D.i 0)=x16.x.calls.length))/\((0=0/\(D.toN (if x1.id∈x1.r.ik then D.l (x1.r.i x1.id).units.length (encL encI (x1.r.i x1.id).units)else D.l 0 fun(x x_1:Nat)=>D.i 0)=x16.x.units.length))/\((D.toI (if x1.id∈x1.r.ik then D.i (x1.r.i x1.id).merged else D.i 0)=x16.x.merged)/\((D.toB (if x1.id∈x1.r.ik then D.b (x1.r.i x1.id).closed else D.b false)=x16.x.closed)/\True))))))))))/\((0=0/\(x15.n+(1:Nat)=x16.l.length))/\True)))/\(((True/\(True/\(True/\True)))/\((MapEq (.int .i64:: .int .i64:: .int .i64::Kd.str:: .sl [.int .i64]:: .int .i64:: .int .i64::Kd.bool::[]) (madd1 x1.r.ck (clrC x3).call) x16.r.ck (mset (encRC x1.r) (clrC x3).call fun(j:Nat)=>(D.i (clrC x3).call::D.i x1.id::D.i (clrC x3).urg::D.s (clrC x3).code::(D.l (clrC x3).nodes.length fun(r c:Nat)=>D.i (x3.nodes.getD ((0:Nat)+r) default))::D.i 0::D.i 0::D.b (clrC x3).closed::@List.nil D).getD j (D.i 0)) (encRC x16.r))/\((MapEq (.int .i64:: .int .i64::Kd.str:: .sl [.int .i64]:: .int .i64:: .int .i64:: .sl [.int .i64]:: .sl [.int .i64]:: .int .i64::Kd.bool::[]) x1.r.ik x16.r.ik (encRI x1.r) (encRI x16.r))/\((MapEq [.int .i64] x1.r.hk x16.r.hk (encRH x1.r) (encRH x16.r))/\(((RLe x16.x.nodes.length (D.toN (if x1.id∈x1.r.ik then D.l (x1.r.i x1.id).nodes.length (encL encI (x1.r.i x1.id).nodes)else D.l 0 fun(x x_1:Nat)=>D.i 0)))/\(RowsEq [.int .i64] x16.x.nodes.length (D.toF (if x1.id∈x1.r.ik then D.l (x1.r.i x1.id).nodes.length (encL encI (x1.r.i x1.id).nodes)else D.l 0 fun(x x_1:Nat)=>D.i 0)) (encL encI x16.x.nodes)))/\(((RLe x16.x.calls.length (D.toN (if x1.id∈x1.r.ik then D.l (x1.r.i x1.id).calls.length (encL encI (x1.r.i x1.id).calls)else D.l 0 fun(x x_1:Nat)=>D.i 0)))/\(RowsEq [.int .i64] x16.x.calls.length (D.toF (if x1.id∈x1.r.ik then D.l (x1.r.i x1.id).calls.length (encL encI (x1.r.i x1.id).calls)else D.l 0 fun(x x_1:Nat)=>D.i 0)) (encL encI x16.x.calls)))/\(((RLe x16.x.units.length (D.toN (if x1.id∈x1.r.ik then D.l (x1.r.i x1.id).units.length (encL encI (x1.r.i x1.id).units)else D.l 0 fun(x x_1:Nat)=>D.i 0)))/\(RowsEq [.int .i64] x16.x.units.length (D.toF (if x1.id∈x1.r.ik then D.l (x1.r.i x1.id).units.length (encL encI (x1.r.i x1.id).units)else D.l 0 fun(x x_1:Nat)=>D.i 0)) (encL encI x16.x.units)))/\(((RLe x16.l.length (x15.n+(1:Nat)))/\(RowsEq [.int .i64] x16.l.length (appRows x15.n x15.f 0 (litRows ((D.i (clrC x3).call::@List.nil D)::@List.nil (List D)))) (encL encI x16.l)))/\True))))))))/\(((0:Int)=adR x1)/\((MapEq (.int .i64:: .int .i64:: .int .i64::Kd.str:: .sl [.int .i64]:: .int .i64:: .int .i64::Kd.bool::[]) (rrF x16).ck (adF x1).ck (encRC (rrF x16)) (encRC (adF x1)))/\((MapEq (.int .i64:: .int .i64::Kd.str:: .sl [.int .i64]:: .int .i64:: .int .i64:: .sl [.int .i64]:: .sl [.int .i64]:: .int .i64::Kd.bool::[]) (rrF x16).ik (adF x1).ik (encRI (rrF x16)) (encRI (adF x1)))/\((MapEq [.int .i64] (rrF x16).hk (adF x1).hk (encRH (rrF x16)) (encRH (adF x1)))/\True)))))))))))))))))))))))))))))))))))))))=(Keeps cfgAd Tryz.f9 adC adI) by kernel_rfl) (fun x1=>fun h2=>⟨(OPx.t x1),
(by(try dsimp only at *);exact h2.t),
⟨⟨rfl,rfl,rfl,rfl,
⟨rfl,rfl⟩,rfl,rfl,rfl,trivial⟩,trivial⟩,
⟨⟨rl,rr⟩,trivial⟩,
(OPx.id x1),
⟨(by(try dsimp only at *);(have:=h2.id;omega)),
(by(try dsimp only at *);(have:=h2.id;omega))⟩,
⟨rfl,trivial⟩,trivial,
fun g5=>have h5:=dT g5;⟨(by(try dsimp only at *);exact(ad_c ‹_›).1.symm),
(by(try dsimp only at *);(rw[(ad_c ‹_›).2];exact MapEq.rfl')),
(by(try dsimp only at *);(rw[(ad_c ‹_›).2];exact MapEq.rfl')),
(by(try dsimp only at *);(rw[(ad_c ‹_›).2];exact MapEq.rfl')),trivial⟩,
fun g6=>have h6:=dF g6;⟨fun g7=>have h7:=nT g7;⟨(by(try dsimp only at *);exact(ad_i ‹_› ‹_›).1.symm),
(by(try dsimp only at *);(rw[(ad_i ‹_› ‹_›).2];exact MapEq.rfl')),
(by(try dsimp only at *);(rw[(ad_i ‹_› ‹_›).2];exact MapEq.rfl')),
(by(try dsimp only at *);(rw[(ad_i ‹_› ‹_›).2];exact MapEq.rfl')),trivial⟩,
fun g8=>have h8:=nF g8;⟨(Rg.i (OPx.r x1) (OPx.id x1)),trivial,
⟨⟨(by(try dsimp only at *);exact ifI ‹_›),
(by(try dsimp only at *);exact ifI ‹_›),
(by(try dsimp only at *);exact ifS ‹_›),
⟨rfl,
(by(try dsimp only at *);exact ifN ‹_›)⟩,
(by(try dsimp only at *);exact ifI ‹_›),
(by(try dsimp only at *);exact ifI ‹_›),
⟨rfl,
(by(try dsimp only at *);exact ifN ‹_›)⟩,
⟨rfl,
(by(try dsimp only at *);exact ifN ‹_›)⟩,
(by(try dsimp only at *);exact ifI ‹_›),
(by(try dsimp only at *);exact ifB ‹_›),trivial⟩,trivial⟩,
⟨⟨⟨(by(try dsimp only at *);exact ifLe ‹_›)⟩,
(by(try dsimp only at *);exact ifR ‹_›)⟩,
⟨⟨(by(try dsimp only at *);exact ifLe ‹_›)⟩,
(by(try dsimp only at *);exact ifR ‹_›)⟩,
⟨⟨(by(try dsimp only at *);exact ifLe ‹_›)⟩,
(by(try dsimp only at *);exact ifR ‹_›)⟩,trivial⟩,
fun h10=>⟨(by(try dsimp only at *);exact(ad_o ‹_› ‹_› (notT h10)).1.symm),
(by(try dsimp only at *);(rw[(ad_o ‹_› ‹_› (notT h10)).2];exact MapEq.rfl')),
(by(try dsimp only at *);(rw[(ad_o ‹_› ‹_› (notT h10)).2];exact MapEq.rfl')),
(by(try dsimp only at *);(rw[(ad_o ‹_› ‹_› (notT h10)).2];exact MapEq.rfl')),trivial⟩,
fun h11=>⟨⟨(default),trivial,
(by(try dsimp only at *);(have:=h2.len h8;exact decide_eq_false (by rw[ifN h8];omega))),trivial⟩,
fun x13=>fun h14=>⟨⟨trivial,trivial,trivial,trivial,
(by(try dsimp only at *);exact Nat.le_of_eq (Nat.zero_add _)),trivial,trivial,trivial,trivial⟩,
({ n:=List.length (Ic.calls (Rg.i (OPx.r x1) (OPx.id x1))),f:=encL encI (Ic.calls (Rg.i (OPx.r x1) (OPx.id x1))):RX }),
(by(try dsimp only at *);(have:=h2.len h8;show(x1.r.i x1.id).calls.length<=1073741824;omega)),
⟨⟨rfl,
(by(try dsimp only at *);exact ifN ‹_›)⟩,trivial⟩,
⟨⟨⟨(by(try dsimp only at *);exact ifLe ‹_›)⟩,
(by(try dsimp only at *);exact ifR ‹_›)⟩,trivial⟩,
⟨⟨trivial,trivial⟩,trivial⟩,
⟨rfl,
(by(try dsimp only at *);omega),
(by(try dsimp only at *);omega),
(by(try dsimp only at *);(have:=h2.len h8;show(x1.r.i x1.id).calls.length+1<=1073741824;omega))⟩,
(adX x1),
(by(try dsimp only at *);exact h2.rr h6 h8 (notF h11)),
⟨⟨rfl,rfl⟩,
⟨(by(try dsimp only at *);exact ifI ‹_›),
(by(try dsimp only at *);exact ifI ‹_›),
(by(try dsimp only at *);exact ifS ‹_›),
⟨rfl,
(by(try dsimp only at *);exact ifN ‹_›)⟩,
(by(try dsimp only at *);exact ifI ‹_›),
(by(try dsimp only at *);exact ifI ‹_›),
⟨rfl,
(by(try dsimp only at *);exact ifN ‹_›)⟩,
⟨rfl,
(by(try dsimp only at *);exact ifN ‹_›)⟩,
(by(try dsimp only at *);exact ifI ‹_›),
(by(try dsimp only at *);exact ifB ‹_›),trivial⟩,
⟨rfl,
(by(try dsimp only at *);(show _=((x1.r.i x1.id).calls++[x1.t.call]).length;simp))⟩,trivial⟩,
⟨⟨trivial,trivial,trivial,trivial⟩,
(by(try dsimp only at *);exact put_mapC x1.r (taken x1) rfl (rowC_eq (taken x1))),
(by(try dsimp only at *);exact MapEq.rfl'),
(by(try dsimp only at *);exact MapEq.rfl'),
⟨⟨(by(try dsimp only at *);exact ifLe ‹_›)⟩,
(by(try dsimp only at *);exact ifR ‹_›)⟩,
⟨⟨(by(try dsimp only at *);exact ifLe ‹_›)⟩,
(by(try dsimp only at *);exact ifR ‹_›)⟩,
⟨⟨(by(try dsimp only at *);exact ifLe ‹_›)⟩,
(by(try dsimp only at *);exact ifR ‹_›)⟩,
⟨⟨(by(try dsimp only at *);(show((x1.r.i x1.id).calls++[x1.t.call]).length<=_;simp))⟩,
(by(try dsimp only at *);exact push1 (l:=(x1.r.i x1.id).calls) (a:=x1.t.call) (by simp[adX]))⟩,trivial⟩,
(by(try dsimp only at *);exact(ad_y ‹_› ‹_› (notF h11)).1.symm),
(by(try dsimp only at *);(rw[(ad_y ‹_› ‹_› (notF h11)).2];exact MapEq.rfl')),
(by(try dsimp only at *);(rw[(ad_y ‹_› ‹_› (notF h11)).2];exact MapEq.rfl')),
(by(try dsimp only at *);(rw[(ad_y ‹_› ‹_› (notF h11)).2];exact MapEq.rfl')),trivial⟩⟩⟩⟩⟩)
theorem ad_good:Good Tryz.prog 9 adC/\FnOk Tryz.prog 9:=good_of tok conAd (fn:=Tryz.f9) rfl (by decide+kernel) (fun _=>rfl) ad_keeps
end Go.Sym