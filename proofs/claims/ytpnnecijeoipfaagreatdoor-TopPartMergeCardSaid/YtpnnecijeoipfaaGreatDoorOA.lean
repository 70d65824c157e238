import Derived.Test.YtpnnecijeoipfaaGreatDoorO9
import Derived.Test.YtpnnecijeoipfaaGreatDoorXD
namespace Go.Sym
set_option linter.unusedVariables false
set_option linter.unusedSimpArgs false
open Go.Proofs
set_option maxRecDepth 100000
set_option maxHeartbeats 4000000
structure SPx where
 r:Rg
 c:CR
 x:Ic
 id:Int
def movC (c:CR) (id:Int):CR:=⟨c.call,id,c.urg,c.code,c.nodes,c.closed⟩
def spX (q:SPx):RRx:=⟨putI (putC q.r (movC q.c q.id)) (frm q.id q.c),q.x,outL q.x.calls q.c.call⟩
structure SPok (q:SPx):Prop where
 c:COk q.c
 id:1<=q.id/\q.id<=1099511627776
 len:q.x.calls.length<=12
 rr:RRok (spX q)
def spC:CT where
 X:=SPx
 pre:=SPok
 args:=fun q=>[.p 100000 0 0,crV q.c 100010,.agg (icL q.x 100020),.i .i64 q.id]
 g0:=fun q=>rgH 100000 .own q.r++crH q.c .fz 100010++icH q.x .bor 100020
 res:=fun _=>.tup []
 g1:=fun q=>rgM 100000 .own (rrF (spX q))
def spI (_:SPx) (id:Nat):Option Inv:=match id with
 |100018=>some (cutT 18 false)
 |_=>none
def cfgSp:Cfg:=⟨T,[],[(26,.one frC),(29,.one (cloneC k1)),(49,.one dlC),(28,.one rrC)],noInv,12,{}⟩
theorem conSp:ConOk Tryz.prog cfgSp:=ConL.ok (.cons (ConL.one fr_good) (.cons (ConL.one cloneL_good) (.cons (ConL.one dl_good) (.cons (ConL.one rr_good) .nil))))
theorem out_le (l:List Int) (c:Int):(outL l c).length<=l.length:=List.length_filter_le _ _
set_option maxRecDepth 100000 in
theorem sp_keeps:Keeps cfgSp Tryz.f32 spC spI:=Eq.mp (show((∀ x1:SPx,((SPok x1)->(∃ x3:FCx,(((COk x3.c)/\(((1:Int)<=x3.id)/\(x3.id<=(1099511627776:Int))))/\((x1.id=x3.id/\((x1.c.call=x3.c.call/\(x1.c.inc=x3.c.inc/\(x1.c.urg=x3.c.urg/\(x1.c.code=x3.c.code/\((0=0/\x1.c.nodes.length=x3.c.nodes.length)/\(((0:Int)=0)/\(((0:Int)=0)/\(x1.c.closed=x3.c.closed/\True))))))))/\True))/\((((RLe x3.c.nodes.length x1.c.nodes.length)/\(RI x3.c.nodes.length x1.c.nodes x3.c.nodes))/\True)/\((∃ x4:Unit,(True/\((decide ((0:Int)≠(0:Int))=false)/\True)))/\(∀ x5:Unit,(True->((True/\(True/\(True/\(True/\(((0:Nat)+x1.c.nodes.length<=x1.c.nodes.length)/\(True/\(True/\(True/\True))))))))/\((True/\(True/\(True/\(((0:Nat)+x3.c.nodes.length<=x3.c.nodes.length)/\(True/\(True/\(((1:Nat)<=(1:Nat))/\(True/\(True/\(True/\True))))))))))/\(∃ x7:RX,((x7.n<=(1073741824:Nat))/\(((0=0/\x1.x.calls.length=x7.n)/\True)/\((((RLe x7.n x1.x.calls.length)/\(RowsEq [.int .i64] x7.n (encL encI x1.x.calls) x7.f))/\True)/\(∃ x8:DLx,((x8.l.length<=(1000:Nat))/\(((0=0/\x7.n=x8.l.length)/\(((0=0/\0=0)/\True)/\True))/\((((RLe x8.l.length x7.n)/\(RowsEq [.int .i64] x8.l.length x7.f (encL encI x8.l)))/\((x1.c.call=x8.c/\(True/\(True/\(True/\(True/\(True/\(True/\(True/\True))))))))/\True))/\(∃ x9:RRx,((RRok x9)/\(((0=0/\0=0)/\((x1.x.id=x9.x.id/\(x1.x.urg=x9.x.urg/\(x1.x.code=x9.x.code/\((0=0/\x1.x.nodes.length=x9.x.nodes.length)/\(((0:Int)=0)/\(((0:Int)=0)/\((0=0/\x1.x.calls.length=x9.x.calls.length)/\((0=0/\x1.x.units.length=x9.x.units.length)/\(x1.x.merged=x9.x.merged/\(x1.x.closed=x9.x.closed/\True))))))))))/\((0=0/\((outL x8.l x8.c).length=x9.l.length))/\True)))/\(((True/\(True/\(True/\True)))/\((MapEq (.int .i64:: .int .i64:: .int .i64::Kd.str:: .sl [.int .i64]:: .int .i64:: .int .i64::Kd.bool::[]) (madd1 x1.r.ck x1.c.call) x9.r.ck (mset (encRC x1.r) x1.c.call fun(j:Nat)=>(D.i x1.c.call::D.i x1.id::D.i x1.c.urg::D.s x1.c.code::(D.l x1.c.nodes.length fun(r c:Nat)=>D.i (x1.c.nodes.getD ((0:Nat)+r) default))::D.i 0::D.i 0::D.b x1.c.closed::@List.nil D).getD j (D.i 0)) (encRC x9.r))/\((MapEq (.int .i64:: .int .i64::Kd.str:: .sl [.int .i64]:: .int .i64:: .int .i64:: .sl [.int .i64]:: .sl [.int .i64]:: .int .i64::Kd.bool::[]) (madd1 x1.r.ik x1.id) x9.r.ik (mset (encRI x1.r) x1.id fun(j:Nat)=>(D.i x3.id::D.i x3.c.urg::D.s x3.c.code::(D.l x3.c.nodes.length fun(r c:Nat)=>D.i (x3.c.nodes.getD ((0:Nat)+r) default))::D.i 0::D.i 0::(D.l 1 fun(r c:Nat)=>D.i ((x3.c.call::@List.nil Int).getD ((0:Nat)+r) default))::(D.l 0 fun(x x_1:Nat)=>D.i 0)::D.i 0::D.b false::@List.nil D).getD j (D.i 0)) (encRI x9.r))/\((MapEq [.int .i64] x1.r.hk x9.r.hk (encRH x1.r) (encRH x9.r))/\(((RLe x9.x.nodes.length x1.x.nodes.length)/\(RI x9.x.nodes.length x1.x.nodes x9.x.nodes))/\(((RLe x9.x.calls.length x1.x.calls.length)/\(RI x9.x.calls.length x1.x.calls x9.x.calls))/\(((RLe x9.x.units.length x1.x.units.length)/\(RI x9.x.units.length x1.x.units x9.x.units))/\(((RLe x9.l.length (outL x8.l x8.c).length)/\(RI x9.l.length (outL x8.l x8.c) x9.l))/\True))))))))/\(True/\((MapEq (.int .i64:: .int .i64:: .int .i64::Kd.str:: .sl [.int .i64]:: .int .i64:: .int .i64::Kd.bool::[]) (rrF x9).ck (rrF (spX x1)).ck (encRC (rrF x9)) (encRC (rrF (spX x1))))/\((MapEq (.int .i64:: .int .i64::Kd.str:: .sl [.int .i64]:: .int .i64:: .int .i64:: .sl [.int .i64]:: .sl [.int .i64]:: .int .i64::Kd.bool::[]) (rrF x9).ik (rrF (spX x1)).ik (encRI (rrF x9)) (encRI (rrF (spX x1))))/\((MapEq [.int .i64] (rrF x9).hk (rrF (spX x1)).hk (encRH (rrF x9)) (encRH (rrF (spX x1))))/\True))))))))))))))))))))))))))))=(Keeps cfgSp Tryz.f32 spC spI) by kernel_rfl) (fun x1=>fun h2=>⟨({ id:=SPx.id x1,c:=SPx.c x1:FCx }),
⟨(by(try dsimp only at *);exact h2.c),
(by(try dsimp only at *);(have:=h2.id;omega)),
(by(try dsimp only at *);(have:=h2.id;omega))⟩,
⟨rfl,
⟨rfl,rfl,rfl,rfl,
⟨rfl,rfl⟩,rfl,rfl,rfl,trivial⟩,trivial⟩,
⟨⟨rl,rr⟩,trivial⟩,
⟨(default),trivial,
(by(try dsimp only at *);grind),trivial⟩,
fun x5=>fun h6=>⟨⟨trivial,trivial,trivial,trivial,
(by(try dsimp only at *);omega),trivial,trivial,trivial,trivial⟩,
⟨trivial,trivial,trivial,
(by(try dsimp only at *);omega),trivial,trivial,
(by(try dsimp only at *);omega),trivial,trivial,trivial,trivial⟩,
({ n:=List.length (Ic.calls (SPx.x x1)),f:=encL encI (Ic.calls (SPx.x x1)):RX }),
(by(try dsimp only at *);(have:=h2.len;show x1.x.calls.length<=1073741824;omega)),
⟨⟨rfl,rfl⟩,trivial⟩,
⟨⟨rl,rr⟩,trivial⟩,
({ l:=Ic.calls (SPx.x x1),c:=CR.call (SPx.c x1):DLx }),
(by(try dsimp only at *);(have:=h2.len;show x1.x.calls.length<=1000;omega)),
⟨⟨rfl,rfl⟩,
⟨⟨rfl,rfl⟩,trivial⟩,trivial⟩,
⟨⟨rl,rr⟩,
⟨rfl,trivial,trivial,trivial,trivial,trivial,trivial,trivial,trivial⟩,trivial⟩,
(spX x1),
(by(try dsimp only at *);exact h2.rr),
⟨⟨rfl,rfl⟩,
⟨(by(try dsimp only at *);rfl),
(by(try dsimp only at *);rfl),
(by(try dsimp only at *);rfl),
⟨rfl,
(by(try dsimp only at *);rfl)⟩,rfl,rfl,
⟨rfl,
(by(try dsimp only at *);rfl)⟩,
⟨rfl,
(by(try dsimp only at *);rfl)⟩,
(by(try dsimp only at *);rfl),
(by(try dsimp only at *);rfl),trivial⟩,
⟨rfl,
(by(try dsimp only at *);rfl)⟩,trivial⟩,
⟨⟨trivial,trivial,trivial,trivial⟩,
(by(try dsimp only at *);exact put_mapC x1.r (movC x1.c x1.id) rfl (rowC_eq (movC x1.c x1.id))),
(by(try dsimp only at *);exact put_mapI (putC x1.r (movC x1.c x1.id)) (frm x1.id x1.c) rfl (rowI_eq (frm x1.id x1.c))),
(by(try dsimp only at *);exact MapEq.rfl'),
⟨⟨(by(try dsimp only at *);exact Nat.le_refl _)⟩,
(by(try dsimp only at *);exact rr)⟩,
⟨⟨(by(try dsimp only at *);exact Nat.le_refl _)⟩,
(by(try dsimp only at *);exact rr)⟩,
⟨⟨(by(try dsimp only at *);exact Nat.le_refl _)⟩,
(by(try dsimp only at *);exact rr)⟩,
⟨⟨(by(try dsimp only at *);exact Nat.le_refl _)⟩,
(by(try dsimp only at *);exact rr)⟩,trivial⟩,trivial,MapEq.rfl',MapEq.rfl',MapEq.rfl',trivial⟩⟩)
theorem sp_good:Good Tryz.prog 32 spC/\FnOk Tryz.prog 32:=good_of tok conSp (fn:=Tryz.f32) rfl (by decide+kernel) (fun _=>rfl) sp_keeps
def crL (c:CR) (a:Nat):List SV:=[.i .i64 c.call,.i .i64 c.inc,.i .i64 c.urg,.s c.code,.sl a 0 c.nodes.length,.i .i64 0,.i .i64 0,.b c.closed]
structure SIx where
 r:Rg
 call:Int
 inc:Int
 id:Int
 n:Nat
 a:Int
def siX (q:SIx):Ic:=q.r.i (q.r.c q.call).inc
def siS (q:SIx):SPx:=⟨q.r,q.r.c q.call,siX q,q.id⟩
def siNo (q:SIx):Prop:=isO (siX q)=false∨(siX q).calls.length<2
instance (q:SIx):Decidable (siNo q):=by unfold siNo;infer_instance
def siR (q:SIx):Int:=if q.call∈q.r.ck/\q.inc∈q.r.ik then(if q.id∈q.r.ik then 5 else if(q.r.c q.call).inc=q.a then(if siNo q then 8 else 0)else 14)else 4
def siF (q:SIx):Rg:=if q.call∈q.r.ck/\q.inc∈q.r.ik then(if q.id∈q.r.ik then q.r else if(q.r.c q.call).inc=q.a then(if siNo q then q.r else rrF (spX (siS q)))else q.r)else q.r
structure SIok (q:SIx):Prop where
 id:1<=q.id/\q.id<=1099511627776
 root:RootN q.r q.n q.inc q.a
 ci:q.call∈q.r.ck->(q.r.c q.call).inc∈q.r.ik
 sp:q.call∈q.r.ck->¬ q.id∈q.r.ik->¬ siNo q->SPok (siS q)
theorem si_4 {q:SIx} (h:¬ (q.call∈q.r.ck/\q.inc∈q.r.ik)):siR q=4/\siF q=q.r:=⟨if_neg h,if_neg h⟩
theorem si_5 {q:SIx} (h:q.call∈q.r.ck/\q.inc∈q.r.ik) (h2:q.id∈q.r.ik):siR q=5/\siF q=q.r:=⟨by unfold siR;rw[if_pos h,if_pos h2],by unfold siF;rw[if_pos h,if_pos h2]⟩
theorem si_14 {q:SIx} (h:q.call∈q.r.ck/\q.inc∈q.r.ik) (h2:¬ q.id∈q.r.ik) (h3:¬ (q.r.c q.call).inc=q.a):siR q=14/\siF q=q.r:=⟨by unfold siR;rw[if_pos h,if_neg h2,if_neg h3],by unfold siF;rw[if_pos h,if_neg h2,if_neg h3]⟩
theorem si_8 {q:SIx} (h:q.call∈q.r.ck/\q.inc∈q.r.ik) (h2:¬ q.id∈q.r.ik) (h3:(q.r.c q.call).inc=q.a) (h4:siNo q):siR q=8/\siF q=q.r:=⟨by unfold siR;rw[if_pos h,if_neg h2,if_pos h3,if_pos h4],by unfold siF;rw[if_pos h,if_neg h2,if_pos h3,if_pos h4]⟩
theorem si_0 {q:SIx} (h:q.call∈q.r.ck/\q.inc∈q.r.ik) (h2:¬ q.id∈q.r.ik) (h3:(q.r.c q.call).inc=q.a) (h4:¬ siNo q):siR q=0/\siF q=rrF (spX (siS q)):=⟨by unfold siR;rw[if_pos h,if_neg h2,if_pos h3,if_neg h4],by unfold siF;rw[if_pos h,if_neg h2,if_pos h3,if_neg h4]⟩
def siC:CT where
 X:=SIx
 pre:=SIok
 args:=fun q=>[.p 100000 0 0,.i .i64 q.call,.i .i64 q.inc,.i .i64 q.id,.i .i64 0]
 g0:=fun q=>rgH 100000 .own q.r
 res:=fun q=>.i .i64 (siR q)
 g1:=fun q=>rgM 100000 .own (siF q)
def siI (q:SIx) (id:Nat):Option Inv:=match id with
 |100028=>some (cutT 28 false)
 |100052=>some (cutB 52 (!decide (q.call∈q.r.ck/\q.inc∈q.r.ik)))
 |100068=>some (cutB 68 (!decide ((q.r.c q.call).inc=q.a)))
 |100084=>some (cutB 84 (decide (siNo q)))
 |300052=>some { X:=Unit,ok:=fun _=>q.call∈q.r.ck/\q.inc∈q.r.ik,fr:=fun _=>[],hp:=fun _=>[(11,.one .own (crL (q.r.c q.call) 91)),(91,.rows .fz k1 (q.r.c q.call).nodes.length (encL encI (q.r.c q.call).nodes))],me:=fun _=>0 }
 |_=>none
def cfgSi:Cfg:=⟨T,[],[(25,.one numC),(16,.one roC),(27,.one isC),(32,.one spC)],noInv,20,{}⟩
theorem conSi:ConOk Tryz.prog cfgSi:=ConL.ok (.cons (ConL.one rnum_good) (.cons (ConL.one ro_good) (.cons (ConL.one ris_good) (.cons (ConL.one sp_good) .nil))))
theorem siNo_len {q:SIx} (h:isO (siX q)=true):decide (((siX q).calls.length:Int)<2)=decide (siNo q):=by
 apply decide_eq_decide.2
 unfold siNo
 rw[h]
 constructor
 ·intro a;exact .inr (by omega)
 ·rintro(a|a)
  ·cases a
  ·omega
theorem siNo_o {q:SIx} (h:isO (siX q)=false):true=decide (siNo q):=(decide_eq_true (.inl h)).symm
set_option maxRecDepth 100000 in
theorem si_keeps:Keeps cfgSi Tryz.f12 siC siI:=Eq.mp (show((∀ x1:SIx,((SIok x1)->((∃ x3:Int,((((1:Int)<=x3)/\(x3<=(1099511627776:Int)))/\((x1.id=x3/\True)/\(True/\(((decide ((0:Int)<0)=false)->(∃ x5:Unit,(True/\((decide ((1099511627776:Int)<0)=false)/\True))))/\((decide ((0:Int)<0)=true)->(∃ x7:Unit,(True/\(true=false/\True)))))))))/\(∀ x8:Unit,(True->(((((!decide (x1.call∈x1.r.ck))=false)->(∃ x11:Unit,(True/\(((!decide (x1.inc∈x1.r.ik))= !decide (x1.call∈x1.r.ck/\x1.inc∈x1.r.ik))/\True))))/\(((!decide (x1.call∈x1.r.ck))=true)->(∃ x13:Unit,(True/\((true= !decide (x1.call∈x1.r.ck/\x1.inc∈x1.r.ik))/\True)))))/\(∀ x14:Unit,(True->(((((!decide (x1.call∈x1.r.ck/\x1.inc∈x1.r.ik))=true)->(((4:Int)=siR x1)/\((MapEq (.int .i64:: .int .i64:: .int .i64::Kd.str:: .sl [.int .i64]:: .int .i64:: .int .i64::Kd.bool::[]) x1.r.ck (siF x1).ck (encRC x1.r) (encRC (siF x1)))/\((MapEq (.int .i64:: .int .i64::Kd.str:: .sl [.int .i64]:: .int .i64:: .int .i64:: .sl [.int .i64]:: .sl [.int .i64]:: .int .i64::Kd.bool::[]) x1.r.ik (siF x1).ik (encRI x1.r) (encRI (siF x1)))/\((MapEq [.int .i64] x1.r.hk (siF x1).hk (encRH x1.r) (encRH (siF x1)))/\True)))))/\(((!decide (x1.call∈x1.r.ck/\x1.inc∈x1.r.ik))=false)->(∃ x18:Unit,(((x1.call∈x1.r.ck)/\(x1.inc∈x1.r.ik))/\(((decide (x1.inc∈x1.r.ik)=decide (x1.inc∈x1.r.ik))/\((0=0/\0=0)/\((decide (x1.call∈x1.r.ck)=decide (x1.call∈x1.r.ck))/\((0=0/\0=0)/\((0=0/\0=0)/\(x1.call=x1.call/\(x1.inc=x1.inc/\(x1.id=x1.id/\(((0:Int)=0)/\True)))))))))/\(((D.toI (if x1.call∈x1.r.ck then D.i (x1.r.c x1.call).call else D.i 0)=(x1.r.c x1.call).call)/\((D.toI (if x1.call∈x1.r.ck then D.i (x1.r.c x1.call).inc else D.i 0)=(x1.r.c x1.call).inc)/\((D.toI (if x1.call∈x1.r.ck then D.i (x1.r.c x1.call).urg else D.i 0)=(x1.r.c x1.call).urg)/\((D.toS (if x1.call∈x1.r.ck then D.s (x1.r.c x1.call).code else D.s ByteArray.empty)=(x1.r.c x1.call).code)/\((0=0/\(D.toN (if x1.call∈x1.r.ck then D.l (x1.r.c x1.call).nodes.length (encL encI (x1.r.c x1.call).nodes)else D.l 0 fun(x x_1:Nat)=>D.i 0)=(x1.r.c x1.call).nodes.length))/\((D.toI (if x1.call∈x1.r.ck then D.i 0 else D.i 0)=(0:Int))/\((D.toI (if x1.call∈x1.r.ck then D.i 0 else D.i 0)=(0:Int))/\((D.toB (if x1.call∈x1.r.ck then D.b (x1.r.c x1.call).closed else D.b false)=(x1.r.c x1.call).closed)/\True))))))))/\(((RLe (x1.r.c x1.call).nodes.length (D.toN (if x1.call∈x1.r.ck then D.l (x1.r.c x1.call).nodes.length (encL encI (x1.r.c x1.call).nodes)else D.l 0 fun(x x_1:Nat)=>D.i 0)))/\(RowsEq [.int .i64] (x1.r.c x1.call).nodes.length (D.toF (if x1.call∈x1.r.ck then D.l (x1.r.c x1.call).nodes.length (encL encI (x1.r.c x1.call).nodes)else D.l 0 fun(x x_1:Nat)=>D.i 0)) (encL encI (x1.r.c x1.call).nodes)))/\(((D.toI (if x1.inc∈x1.r.ik then D.i (x1.r.i x1.inc).id else D.i 0)=D.toI (if x1.inc∈x1.r.ik then D.i (x1.r.i x1.inc).id else D.i 0))/\((D.toI (if x1.inc∈x1.r.ik then D.i (x1.r.i x1.inc).urg else D.i 0)=D.toI (if x1.inc∈x1.r.ik then D.i (x1.r.i x1.inc).urg else D.i 0))/\((D.toS (if x1.inc∈x1.r.ik then D.s (x1.r.i x1.inc).code else D.s ByteArray.empty)=D.toS (if x1.inc∈x1.r.ik then D.s (x1.r.i x1.inc).code else D.s ByteArray.empty))/\((0=0/\(D.toN (if x1.inc∈x1.r.ik then D.l (x1.r.i x1.inc).nodes.length (encL encI (x1.r.i x1.inc).nodes)else D.l 0 fun(x x_1:Nat)=>D.i 0)=D.toN (if x1.inc∈x1.r.ik then D.l (x1.r.i x1.inc).nodes.length (encL encI (x1.r.i x1.inc).nodes)else D.l 0 fun(x x_1:Nat)=>D.i 0)))/\((D.toI (if x1.inc∈x1.r.ik then D.i 0 else D.i 0)=D.toI (if x1.inc∈x1.r.ik then D.i 0 else D.i 0))/\((D.toI (if x1.inc∈x1.r.ik then D.i 0 else D.i 0)=D.toI (if x1.inc∈x1.r.ik then D.i 0 else D.i 0))/\((0=0/\(D.toN (if x1.inc∈x1.r.ik then D.l (x1.r.i x1.inc).calls.length (encL encI (x1.r.i x1.inc).calls)else D.l 0 fun(x x_1:Nat)=>D.i 0)=D.toN (if x1.inc∈x1.r.ik then D.l (x1.r.i x1.inc).calls.length (encL encI (x1.r.i x1.inc).calls)else D.l 0 fun(x x_1:Nat)=>D.i 0)))/\((0=0/\(D.toN (if x1.inc∈x1.r.ik then D.l (x1.r.i x1.inc).units.length (encL encI (x1.r.i x1.inc).units)else D.l 0 fun(x x_1:Nat)=>D.i 0)=D.toN (if x1.inc∈x1.r.ik then D.l (x1.r.i x1.inc).units.length (encL encI (x1.r.i x1.inc).units)else D.l 0 fun(x x_1:Nat)=>D.i 0)))/\((D.toI (if x1.inc∈x1.r.ik then D.i (x1.r.i x1.inc).merged else D.i 0)=D.toI (if x1.inc∈x1.r.ik then D.i (x1.r.i x1.inc).merged else D.i 0))/\((D.toB (if x1.inc∈x1.r.ik then D.b (x1.r.i x1.inc).closed else D.b false)=D.toB (if x1.inc∈x1.r.ik then D.b (x1.r.i x1.inc).closed else D.b false))/\True))))))))))/\(((RLe (D.toN (if x1.inc∈x1.r.ik then D.l (x1.r.i x1.inc).nodes.length (encL encI (x1.r.i x1.inc).nodes)else D.l 0 fun(x x_1:Nat)=>D.i 0)) (D.toN (if x1.inc∈x1.r.ik then D.l (x1.r.i x1.inc).nodes.length (encL encI (x1.r.i x1.inc).nodes)else D.l 0 fun(x x_1:Nat)=>D.i 0)))/\(RowsEq [.int .i64] (D.toN (if x1.inc∈x1.r.ik then D.l (x1.r.i x1.inc).nodes.length (encL encI (x1.r.i x1.inc).nodes)else D.l 0 fun(x x_1:Nat)=>D.i 0)) (D.toF (if x1.inc∈x1.r.ik then D.l (x1.r.i x1.inc).nodes.length (encL encI (x1.r.i x1.inc).nodes)else D.l 0 fun(x x_1:Nat)=>D.i 0)) (D.toF (if x1.inc∈x1.r.ik then D.l (x1.r.i x1.inc).nodes.length (encL encI (x1.r.i x1.inc).nodes)else D.l 0 fun(x x_1:Nat)=>D.i 0))))/\(((RLe (D.toN (if x1.inc∈x1.r.ik then D.l (x1.r.i x1.inc).calls.length (encL encI (x1.r.i x1.inc).calls)else D.l 0 fun(x x_1:Nat)=>D.i 0)) (D.toN (if x1.inc∈x1.r.ik then D.l (x1.r.i x1.inc).calls.length (encL encI (x1.r.i x1.inc).calls)else D.l 0 fun(x x_1:Nat)=>D.i 0)))/\(RowsEq [.int .i64] (D.toN (if x1.inc∈x1.r.ik then D.l (x1.r.i x1.inc).calls.length (encL encI (x1.r.i x1.inc).calls)else D.l 0 fun(x x_1:Nat)=>D.i 0)) (D.toF (if x1.inc∈x1.r.ik then D.l (x1.r.i x1.inc).calls.length (encL encI (x1.r.i x1.inc).calls)else D.l 0 fun(x x_1:Nat)=>D.i 0)) (D.toF (if x1.inc∈x1.r.ik then D.l (x1.r.i x1.inc).calls.length (encL encI (x1.r.i x1.inc).calls)else D.l 0 fun(x x_1:Nat)=>D.i 0))))/\(((RLe (D.toN (if x1.inc∈x1.r.ik then D.l (x1.r.i x1.inc).units.length (encL encI (x1.r.i x1.inc).units)else D.l 0 fun(x x_1:Nat)=>D.i 0)) (D.toN (if x1.inc∈x1.r.ik then D.l (x1.r.i x1.inc).units.length (encL encI (x1.r.i x1.inc).units)else D.l 0 fun(x x_1:Nat)=>D.i 0)))/\(RowsEq [.int .i64] (D.toN (if x1.inc∈x1.r.ik then D.l (x1.r.i x1.inc).units.length (encL encI (x1.r.i x1.inc).units)else D.l 0 fun(x x_1:Nat)=>D.i 0)) (D.toF (if x1.inc∈x1.r.ik then D.l (x1.r.i x1.inc).units.length (encL encI (x1.r.i x1.inc).units)else D.l 0 fun(x x_1:Nat)=>D.i 0)) (D.toF (if x1.inc∈x1.r.ik then D.l (x1.r.i x1.inc).units.length (encL encI (x1.r.i x1.inc).units)else D.l 0 fun(x x_1:Nat)=>D.i 0))))/\(((RLe (D.toN (if x1.call∈x1.r.ck then D.l (x1.r.c x1.call).nodes.length (encL encI (x1.r.c x1.call).nodes)else D.l 0 fun(x x_1:Nat)=>D.i 0)) (D.toN (if x1.call∈x1.r.ck then D.l (x1.r.c x1.call).nodes.length (encL encI (x1.r.c x1.call).nodes)else D.l 0 fun(x x_1:Nat)=>D.i 0)))/\(RowsEq [.int .i64] (D.toN (if x1.call∈x1.r.ck then D.l (x1.r.c x1.call).nodes.length (encL encI (x1.r.c x1.call).nodes)else D.l 0 fun(x x_1:Nat)=>D.i 0)) (D.toF (if x1.call∈x1.r.ck then D.l (x1.r.c x1.call).nodes.length (encL encI (x1.r.c x1.call).nodes)else D.l 0 fun(x x_1:Nat)=>D.i 0)) (D.toF (if x1.call∈x1.r.ck then D.l (x1.r.c x1.call).nodes.length (encL encI (x1.r.c x1.call).nodes)else D.l 0 fun(x x_1:Nat)=>D.i 0))))/\((True/\(True/\(True/\True)))/\((MapEq (.int .i64:: .int .i64:: .int .i64::Kd.str:: .sl [.int .i64]:: .int .i64:: .int .i64::Kd.bool::[]) x1.r.ck x1.r.ck (encRC x1.r) (encRC x1.r))/\((MapEq (.int .i64:: .int .i64::Kd.str:: .sl [.int .i64]:: .int .i64:: .int .i64:: .sl [.int .i64]:: .sl [.int .i64]:: .int .i64::Kd.bool::[]) x1.r.ik x1.r.ik (encRI x1.r) (encRI x1.r))/\((MapEq [.int .i64] x1.r.hk x1.r.hk (encRH x1.r) (encRH x1.r))/\True))))))))))))))))/\(∀ y19:Unit,((x1.call∈x1.r.ck/\x1.inc∈x1.r.ik)->(((decide (x1.id∈x1.r.ik)=true)->(((5:Int)=siR x1)/\((MapEq (.int .i64:: .int .i64:: .int .i64::Kd.str:: .sl [.int .i64]:: .int .i64:: .int .i64::Kd.bool::[]) x1.r.ck (siF x1).ck (encRC x1.r) (encRC (siF x1)))/\((MapEq (.int .i64:: .int .i64::Kd.str:: .sl [.int .i64]:: .int .i64:: .int .i64:: .sl [.int .i64]:: .sl [.int .i64]:: .int .i64::Kd.bool::[]) x1.r.ik (siF x1).ik (encRI x1.r) (encRI (siF x1)))/\((MapEq [.int .i64] x1.r.hk (siF x1).hk (encRH x1.r) (encRH (siF x1)))/\True)))))/\((decide (x1.id∈x1.r.ik)=false)->((∃ x23:ROx,((RootN x23.r x23.n x23.id x23.a)/\(((0=0/\0=0)/\(x1.inc=x23.id/\True))/\(((True/\(True/\(True/\True)))/\((MapEq (.int .i64:: .int .i64:: .int .i64::Kd.str:: .sl [.int .i64]:: .int .i64:: .int .i64::Kd.bool::[]) x1.r.ck x23.r.ck (encRC x1.r) (encRC x23.r))/\((MapEq (.int .i64:: .int .i64::Kd.str:: .sl [.int .i64]:: .int .i64:: .int .i64:: .sl [.int .i64]:: .sl [.int .i64]:: .int .i64::Kd.bool::[]) x1.r.ik x23.r.ik (encRI x1.r) (encRI x23.r))/\((MapEq [.int .i64] x1.r.hk x23.r.hk (encRH x1.r) (encRH x23.r))/\True))))/\(∃ x24:Unit,(True/\((decide ((x1.r.c x1.call).inc≠x23.a)= !decide ((x1.r.c x1.call).inc=x1.a))/\True)))))))/\(∀ x25:Unit,(True->((((!decide ((x1.r.c x1.call).inc=x1.a))=true)->(((14:Int)=siR x1)/\((MapEq (.int .i64:: .int .i64:: .int .i64::Kd.str:: .sl [.int .i64]:: .int .i64:: .int .i64::Kd.bool::[]) x1.r.ck (siF x1).ck (encRC x1.r) (encRC (siF x1)))/\((MapEq (.int .i64:: .int .i64::Kd.str:: .sl [.int .i64]:: .int .i64:: .int .i64:: .sl [.int .i64]:: .sl [.int .i64]:: .int .i64::Kd.bool::[]) x1.r.ik (siF x1).ik (encRI x1.r) (encRI (siF x1)))/\((MapEq [.int .i64] x1.r.hk (siF x1).hk (encRH x1.r) (encRH (siF x1)))/\True)))))/\(((!decide ((x1.r.c x1.call).inc=x1.a))=false)->((∃ x29:Ic,(True/\((((D.toI (if(x1.r.c x1.call).inc∈x1.r.ik then D.i (x1.r.i (x1.r.c x1.call).inc).id else D.i 0)=x29.id)/\((D.toI (if(x1.r.c x1.call).inc∈x1.r.ik then D.i (x1.r.i (x1.r.c x1.call).inc).urg else D.i 0)=x29.urg)/\((D.toS (if(x1.r.c x1.call).inc∈x1.r.ik then D.s (x1.r.i (x1.r.c x1.call).inc).code else D.s ByteArray.empty)=x29.code)/\((0=0/\(D.toN (if(x1.r.c x1.call).inc∈x1.r.ik then D.l (x1.r.i (x1.r.c x1.call).inc).nodes.length (encL encI (x1.r.i (x1.r.c x1.call).inc).nodes)else D.l 0 fun(x x_1:Nat)=>D.i 0)=x29.nodes.length))/\((D.toI (if(x1.r.c x1.call).inc∈x1.r.ik then D.i 0 else D.i 0)=(0:Int))/\((D.toI (if(x1.r.c x1.call).inc∈x1.r.ik then D.i 0 else D.i 0)=(0:Int))/\((0=0/\(D.toN (if(x1.r.c x1.call).inc∈x1.r.ik then D.l (x1.r.i (x1.r.c x1.call).inc).calls.length (encL encI (x1.r.i (x1.r.c x1.call).inc).calls)else D.l 0 fun(x x_1:Nat)=>D.i 0)=x29.calls.length))/\((0=0/\(D.toN (if(x1.r.c x1.call).inc∈x1.r.ik then D.l (x1.r.i (x1.r.c x1.call).inc).units.length (encL encI (x1.r.i (x1.r.c x1.call).inc).units)else D.l 0 fun(x x_1:Nat)=>D.i 0)=x29.units.length))/\((D.toI (if(x1.r.c x1.call).inc∈x1.r.ik then D.i (x1.r.i (x1.r.c x1.call).inc).merged else D.i 0)=x29.merged)/\((D.toB (if(x1.r.c x1.call).inc∈x1.r.ik then D.b (x1.r.i (x1.r.c x1.call).inc).closed else D.b false)=x29.closed)/\True))))))))))/\True)/\((((RLe x29.nodes.length (D.toN (if(x1.r.c x1.call).inc∈x1.r.ik then D.l (x1.r.i (x1.r.c x1.call).inc).nodes.length (encL encI (x1.r.i (x1.r.c x1.call).inc).nodes)else D.l 0 fun(x x_1:Nat)=>D.i 0)))/\(RowsEq [.int .i64] x29.nodes.length (D.toF (if(x1.r.c x1.call).inc∈x1.r.ik then D.l (x1.r.i (x1.r.c x1.call).inc).nodes.length (encL encI (x1.r.i (x1.r.c x1.call).inc).nodes)else D.l 0 fun(x x_1:Nat)=>D.i 0)) (encL encI x29.nodes)))/\(((RLe x29.calls.length (D.toN (if(x1.r.c x1.call).inc∈x1.r.ik then D.l (x1.r.i (x1.r.c x1.call).inc).calls.length (encL encI (x1.r.i (x1.r.c x1.call).inc).calls)else D.l 0 fun(x x_1:Nat)=>D.i 0)))/\(RowsEq [.int .i64] x29.calls.length (D.toF (if(x1.r.c x1.call).inc∈x1.r.ik then D.l (x1.r.i (x1.r.c x1.call).inc).calls.length (encL encI (x1.r.i (x1.r.c x1.call).inc).calls)else D.l 0 fun(x x_1:Nat)=>D.i 0)) (encL encI x29.calls)))/\(((RLe x29.units.length (D.toN (if(x1.r.c x1.call).inc∈x1.r.ik then D.l (x1.r.i (x1.r.c x1.call).inc).units.length (encL encI (x1.r.i (x1.r.c x1.call).inc).units)else D.l 0 fun(x x_1:Nat)=>D.i 0)))/\(RowsEq [.int .i64] x29.units.length (D.toF (if(x1.r.c x1.call).inc∈x1.r.ik then D.l (x1.r.i (x1.r.c x1.call).inc).units.length (encL encI (x1.r.i (x1.r.c x1.call).inc).units)else D.l 0 fun(x x_1:Nat)=>D.i 0)) (encL encI x29.units)))/\True)))/\((((!(decide (x29.merged=(0:Int))&& !x29.closed))=false)->(∃ x31:Unit,(True/\((decide ((↑(D.toN (if(x1.r.c x1.call).inc∈x1.r.ik then D.l (x1.r.i (x1.r.c x1.call).inc).calls.length (encL encI (x1.r.i (x1.r.c x1.call).inc).calls)else D.l 0 fun(x x_1:Nat)=>D.i 0)):Int)<2)=decide (siNo x1))/\True))))/\(((!(decide (x29.merged=(0:Int))&& !x29.closed))=true)->(∃ x33:Unit,(True/\((true=decide (siNo x1))/\True)))))))))/\(∀ x34:Unit,(True->(((decide (siNo x1)=true)->(((8:Int)=siR x1)/\((MapEq (.int .i64:: .int .i64:: .int .i64::Kd.str:: .sl [.int .i64]:: .int .i64:: .int .i64::Kd.bool::[]) x1.r.ck (siF x1).ck (encRC x1.r) (encRC (siF x1)))/\((MapEq (.int .i64:: .int .i64::Kd.str:: .sl [.int .i64]:: .int .i64:: .int .i64:: .sl [.int .i64]:: .sl [.int .i64]:: .int .i64::Kd.bool::[]) x1.r.ik (siF x1).ik (encRI x1.r) (encRI (siF x1)))/\((MapEq [.int .i64] x1.r.hk (siF x1).hk (encRH x1.r) (encRH (siF x1)))/\True)))))/\((decide (siNo x1)=false)->(∃ x38:SPx,((SPok x38)/\(((0=0/\0=0)/\((((x1.r.c x1.call).call=x38.c.call)/\(((x1.r.c x1.call).inc=x38.c.inc)/\(((x1.r.c x1.call).urg=x38.c.urg)/\(((x1.r.c x1.call).code=x38.c.code)/\((0=0/\((x1.r.c x1.call).nodes.length=x38.c.nodes.length))/\(((0:Int)=0)/\(((0:Int)=0)/\(((x1.r.c x1.call).closed=x38.c.closed)/\True))))))))/\(((D.toI (if(x1.r.c x1.call).inc∈x1.r.ik then D.i (x1.r.i (x1.r.c x1.call).inc).id else D.i 0)=x38.x.id)/\((D.toI (if(x1.r.c x1.call).inc∈x1.r.ik then D.i (x1.r.i (x1.r.c x1.call).inc).urg else D.i 0)=x38.x.urg)/\((D.toS (if(x1.r.c x1.call).inc∈x1.r.ik then D.s (x1.r.i (x1.r.c x1.call).inc).code else D.s ByteArray.empty)=x38.x.code)/\((0=0/\(D.toN (if(x1.r.c x1.call).inc∈x1.r.ik then D.l (x1.r.i (x1.r.c x1.call).inc).nodes.length (encL encI (x1.r.i (x1.r.c x1.call).inc).nodes)else D.l 0 fun(x x_1:Nat)=>D.i 0)=x38.x.nodes.length))/\((D.toI (if(x1.r.c x1.call).inc∈x1.r.ik then D.i 0 else D.i 0)=(0:Int))/\((D.toI (if(x1.r.c x1.call).inc∈x1.r.ik then D.i 0 else D.i 0)=(0:Int))/\((0=0/\(D.toN (if(x1.r.c x1.call).inc∈x1.r.ik then D.l (x1.r.i (x1.r.c x1.call).inc).calls.length (encL encI (x1.r.i (x1.r.c x1.call).inc).calls)else D.l 0 fun(x x_1:Nat)=>D.i 0)=x38.x.calls.length))/\((0=0/\(D.toN (if(x1.r.c x1.call).inc∈x1.r.ik then D.l (x1.r.i (x1.r.c x1.call).inc).units.length (encL encI (x1.r.i (x1.r.c x1.call).inc).units)else D.l 0 fun(x x_1:Nat)=>D.i 0)=x38.x.units.length))/\((D.toI (if(x1.r.c x1.call).inc∈x1.r.ik then D.i (x1.r.i (x1.r.c x1.call).inc).merged else D.i 0)=x38.x.merged)/\((D.toB (if(x1.r.c x1.call).inc∈x1.r.ik then D.b (x1.r.i (x1.r.c x1.call).inc).closed else D.b false)=x38.x.closed)/\True))))))))))/\(x1.id=x38.id/\True))))/\(((True/\(True/\(True/\True)))/\((MapEq (.int .i64:: .int .i64:: .int .i64::Kd.str:: .sl [.int .i64]:: .int .i64:: .int .i64::Kd.bool::[]) x1.r.ck x38.r.ck (encRC x1.r) (encRC x38.r))/\((MapEq (.int .i64:: .int .i64::Kd.str:: .sl [.int .i64]:: .int .i64:: .int .i64:: .sl [.int .i64]:: .sl [.int .i64]:: .int .i64::Kd.bool::[]) x1.r.ik x38.r.ik (encRI x1.r) (encRI x38.r))/\((MapEq [.int .i64] x1.r.hk x38.r.hk (encRH x1.r) (encRH x38.r))/\(((RLe x38.c.nodes.length (x1.r.c x1.call).nodes.length)/\(RI x38.c.nodes.length (x1.r.c x1.call).nodes x38.c.nodes))/\(((RLe x38.x.nodes.length (D.toN (if(x1.r.c x1.call).inc∈x1.r.ik then D.l (x1.r.i (x1.r.c x1.call).inc).nodes.length (encL encI (x1.r.i (x1.r.c x1.call).inc).nodes)else D.l 0 fun(x x_1:Nat)=>D.i 0)))/\(RowsEq [.int .i64] x38.x.nodes.length (D.toF (if(x1.r.c x1.call).inc∈x1.r.ik then D.l (x1.r.i (x1.r.c x1.call).inc).nodes.length (encL encI (x1.r.i (x1.r.c x1.call).inc).nodes)else D.l 0 fun(x x_1:Nat)=>D.i 0)) (encL encI x38.x.nodes)))/\(((RLe x38.x.calls.length (D.toN (if(x1.r.c x1.call).inc∈x1.r.ik then D.l (x1.r.i (x1.r.c x1.call).inc).calls.length (encL encI (x1.r.i (x1.r.c x1.call).inc).calls)else D.l 0 fun(x x_1:Nat)=>D.i 0)))/\(RowsEq [.int .i64] x38.x.calls.length (D.toF (if(x1.r.c x1.call).inc∈x1.r.ik then D.l (x1.r.i (x1.r.c x1.call).inc).calls.length (encL encI (x1.r.i (x1.r.c x1.call).inc).calls)else D.l 0 fun(x x_1:Nat)=>D.i 0)) (encL encI x38.x.calls)))/\(((RLe x38.x.units.length (D.toN (if(x1.r.c x1.call).inc∈x1.r.ik then D.l (x1.r.i (x1.r.c x1.call).inc).units.length (encL encI (x1.r.i (x1.r.c x1.call).inc).units)else D.l 0 fun(x x_1:Nat)=>D.i 0)))/\(RowsEq [.int .i64] x38.x.units.length (D.toF (if(x1.r.c x1.call).inc∈x1.r.ik then D.l (x1.r.i (x1.r.c x1.call).inc).units.length (encL encI (x1.r.i (x1.r.c x1.call).inc).units)else D.l 0 fun(x x_1:Nat)=>D.i 0)) (encL encI x38.x.units)))/\True))))))))/\(((0:Int)=siR x1)/\((MapEq (.int .i64:: .int .i64:: .int .i64::Kd.str:: .sl [.int .i64]:: .int .i64:: .int .i64::Kd.bool::[]) (rrF (spX x38)).ck (siF x1).ck (encRC (rrF (spX x38))) (encRC (siF x1)))/\((MapEq (.int .i64:: .int .i64::Kd.str:: .sl [.int .i64]:: .int .i64:: .int .i64:: .sl [.int .i64]:: .sl [.int .i64]:: .int .i64::Kd.bool::[]) (rrF (spX x38)).ik (siF x1).ik (encRI (rrF (spX x38))) (encRI (siF x1)))/\((MapEq [.int .i64] (rrF (spX x38)).hk (siF x1).hk (encRH (rrF (spX x38))) (encRH (siF x1)))/\True))))))))))))))))))))))))))))))))=(Keeps cfgSi Tryz.f12 siC siI) by kernel_rfl) (fun x1=>fun h2=>⟨⟨(SIx.id x1),
⟨(by(try dsimp only at *);(have:=h2.id;omega)),
(by(try dsimp only at *);(have:=h2.id;omega))⟩,
⟨rfl,trivial⟩,trivial,
fun g4=>have h4:=dF g4;⟨(default),trivial,
(by(try dsimp only at *);assumption),trivial⟩,
fun g6=>have h6:=dT g6;⟨(default),trivial,
(by(try dsimp only at *);omega),trivial⟩⟩,
fun x8=>fun h9=>⟨⟨fun g10=>have h10:=nF g10;⟨(default),trivial,
(by(try dsimp only at *);grind),trivial⟩,
fun g12=>have h12:=nT g12;⟨(default),trivial,
(by(try dsimp only at *);grind),trivial⟩⟩,
fun x14=>fun h15=>⟨⟨fun g16=>have h16:=nT g16;⟨(by(try dsimp only at *);exact(si_4 ‹_›).1.symm),
(by(try dsimp only at *);(rw[(si_4 ‹_›).2];exact MapEq.rfl')),
(by(try dsimp only at *);(rw[(si_4 ‹_›).2];exact MapEq.rfl')),
(by(try dsimp only at *);(rw[(si_4 ‹_›).2];exact MapEq.rfl')),trivial⟩,
fun g17=>have h17:=nF g17;⟨(default),
⟨(by(try dsimp only at *);grind),
(by(try dsimp only at *);grind)⟩,
⟨rfl,
⟨rfl,rfl⟩,rfl,
⟨rfl,rfl⟩,
⟨rfl,rfl⟩,rfl,rfl,rfl,rfl,trivial⟩,
⟨(by(try dsimp only at *);exact ifI (‹x1.call∈x1.r.ck/\x1.inc∈x1.r.ik›).1),
(by(try dsimp only at *);exact ifI (‹x1.call∈x1.r.ck/\x1.inc∈x1.r.ik›).1),
(by(try dsimp only at *);exact ifI (‹x1.call∈x1.r.ck/\x1.inc∈x1.r.ik›).1),
(by(try dsimp only at *);exact ifS (‹x1.call∈x1.r.ck/\x1.inc∈x1.r.ik›).1),
⟨rfl,
(by(try dsimp only at *);exact ifN (‹x1.call∈x1.r.ck/\x1.inc∈x1.r.ik›).1)⟩,
(by(try dsimp only at *);exact ifI (‹x1.call∈x1.r.ck/\x1.inc∈x1.r.ik›).1),
(by(try dsimp only at *);exact ifI (‹x1.call∈x1.r.ck/\x1.inc∈x1.r.ik›).1),
(by(try dsimp only at *);exact ifB (‹x1.call∈x1.r.ck/\x1.inc∈x1.r.ik›).1),trivial⟩,
⟨⟨(by(try dsimp only at *);exact ifLe (‹x1.call∈x1.r.ck/\x1.inc∈x1.r.ik›).1)⟩,
(by(try dsimp only at *);exact ifR (‹x1.call∈x1.r.ck/\x1.inc∈x1.r.ik›).1)⟩,
⟨rfl,rfl,rfl,
⟨rfl,rfl⟩,rfl,rfl,
⟨rfl,rfl⟩,
⟨rfl,rfl⟩,rfl,rfl,trivial⟩,
⟨rl,rr⟩,
⟨rl,rr⟩,
⟨rl,rr⟩,
⟨rl,rr⟩,
⟨trivial,trivial,trivial,trivial⟩,MapEq.rfl',MapEq.rfl',MapEq.rfl',trivial⟩⟩,
fun y19=>fun h20=>⟨fun g21=>have h21:=dT g21;⟨(by(try dsimp only at *);exact(si_5 ‹_› ‹_›).1.symm),
(by(try dsimp only at *);(rw[(si_5 ‹_› ‹_›).2];exact MapEq.rfl')),
(by(try dsimp only at *);(rw[(si_5 ‹_› ‹_›).2];exact MapEq.rfl')),
(by(try dsimp only at *);(rw[(si_5 ‹_› ‹_›).2];exact MapEq.rfl')),trivial⟩,
fun g22=>have h22:=dF g22;⟨⟨({ r:=SIx.r x1,n:=SIx.n x1,id:=SIx.inc x1,a:=SIx.a x1:ROx }),
(by(try dsimp only at *);exact h2.root),
⟨⟨rfl,rfl⟩,rfl,trivial⟩,
⟨⟨trivial,trivial,trivial,trivial⟩,
(by(try dsimp only at *);exact MapEq.rfl'),
(by(try dsimp only at *);exact MapEq.rfl'),
(by(try dsimp only at *);exact MapEq.rfl'),trivial⟩,
(default),trivial,
(by(try dsimp only at *);grind),trivial⟩,
fun x25=>fun h26=>⟨fun g27=>have h27:=nT g27;⟨(by(try dsimp only at *);exact(si_14 ‹_› ‹_› ‹_›).1.symm),
(by(try dsimp only at *);(rw[(si_14 ‹_› ‹_› ‹_›).2];exact MapEq.rfl')),
(by(try dsimp only at *);(rw[(si_14 ‹_› ‹_› ‹_›).2];exact MapEq.rfl')),
(by(try dsimp only at *);(rw[(si_14 ‹_› ‹_› ‹_›).2];exact MapEq.rfl')),trivial⟩,
fun g28=>have h28:=nF g28;⟨⟨(siX x1),trivial,
⟨⟨(by(try dsimp only at *);exact ifI (h2.ci h20.1)),
(by(try dsimp only at *);exact ifI (h2.ci h20.1)),
(by(try dsimp only at *);exact ifS (h2.ci h20.1)),
⟨rfl,
(by(try dsimp only at *);exact ifN (h2.ci h20.1))⟩,
(by(try dsimp only at *);exact zz),
(by(try dsimp only at *);exact zz),
⟨rfl,
(by(try dsimp only at *);exact ifN (h2.ci h20.1))⟩,
⟨rfl,
(by(try dsimp only at *);exact ifN (h2.ci h20.1))⟩,
(by(try dsimp only at *);exact ifI (h2.ci h20.1)),
(by(try dsimp only at *);exact ifB (h2.ci h20.1)),trivial⟩,trivial⟩,
⟨⟨⟨(by(try dsimp only at *);exact ifLe (h2.ci h20.1))⟩,
(by(try dsimp only at *);exact ifR (h2.ci h20.1))⟩,
⟨⟨(by(try dsimp only at *);exact ifLe (h2.ci h20.1))⟩,
(by(try dsimp only at *);exact ifR (h2.ci h20.1))⟩,
⟨⟨(by(try dsimp only at *);exact ifLe (h2.ci h20.1))⟩,
(by(try dsimp only at *);exact ifR (h2.ci h20.1))⟩,trivial⟩,
fun h30=>⟨(default),trivial,
(by(try dsimp only at *);(rw[ifN (h2.ci h20.1)];exact siNo_len (notF h30))),trivial⟩,
fun h32=>⟨(default),trivial,
(by(try dsimp only at *);exact siNo_o (notT h32)),trivial⟩⟩,
fun x34=>fun h35=>⟨fun g36=>have h36:=dT g36;⟨(by(try dsimp only at *);exact(si_8 ‹_› ‹_› ‹_› ‹_›).1.symm),
(by(try dsimp only at *);(rw[(si_8 ‹_› ‹_› ‹_› ‹_›).2];exact MapEq.rfl')),
(by(try dsimp only at *);(rw[(si_8 ‹_› ‹_› ‹_› ‹_›).2];exact MapEq.rfl')),
(by(try dsimp only at *);(rw[(si_8 ‹_› ‹_› ‹_› ‹_›).2];exact MapEq.rfl')),trivial⟩,
fun g37=>have h37:=dF g37;⟨(siS x1),
(by(try dsimp only at *);exact h2.sp h20.1 h22 h37),
⟨⟨rfl,rfl⟩,
⟨(by(try dsimp only at *);rfl),
(by(try dsimp only at *);rfl),
(by(try dsimp only at *);rfl),
(by(try dsimp only at *);rfl),
⟨rfl,
(by(try dsimp only at *);rfl)⟩,rfl,rfl,
(by(try dsimp only at *);rfl),trivial⟩,
⟨(by(try dsimp only at *);exact ifI (h2.ci h20.1)),
(by(try dsimp only at *);exact ifI (h2.ci h20.1)),
(by(try dsimp only at *);exact ifS (h2.ci h20.1)),
⟨rfl,
(by(try dsimp only at *);exact ifN (h2.ci h20.1))⟩,
(by(try dsimp only at *);exact zz),
(by(try dsimp only at *);exact zz),
⟨rfl,
(by(try dsimp only at *);exact ifN (h2.ci h20.1))⟩,
⟨rfl,
(by(try dsimp only at *);exact ifN (h2.ci h20.1))⟩,
(by(try dsimp only at *);exact ifI (h2.ci h20.1)),
(by(try dsimp only at *);exact ifB (h2.ci h20.1)),trivial⟩,
(by(try dsimp only at *);rfl),trivial⟩,
⟨⟨trivial,trivial,trivial,trivial⟩,
(by(try dsimp only at *);exact MapEq.rfl'),
(by(try dsimp only at *);exact MapEq.rfl'),
(by(try dsimp only at *);exact MapEq.rfl'),
⟨⟨(by(try dsimp only at *);exact Nat.le_refl _)⟩,
(by(try dsimp only at *);exact rr)⟩,
⟨⟨(by(try dsimp only at *);exact ifLe (h2.ci h20.1))⟩,
(by(try dsimp only at *);exact ifR (h2.ci h20.1))⟩,
⟨⟨(by(try dsimp only at *);exact ifLe (h2.ci h20.1))⟩,
(by(try dsimp only at *);exact ifR (h2.ci h20.1))⟩,
⟨⟨(by(try dsimp only at *);exact ifLe (h2.ci h20.1))⟩,
(by(try dsimp only at *);exact ifR (h2.ci h20.1))⟩,trivial⟩,
(by(try dsimp only at *);exact(si_0 ‹_› ‹_› ‹_› ‹_›).1.symm),
(by(try dsimp only at *);(rw[(si_0 ‹_› ‹_› ‹_› ‹_›).2];exact MapEq.rfl')),
(by(try dsimp only at *);(rw[(si_0 ‹_› ‹_› ‹_› ‹_›).2];exact MapEq.rfl')),
(by(try dsimp only at *);(rw[(si_0 ‹_› ‹_› ‹_› ‹_›).2];exact MapEq.rfl')),trivial⟩⟩⟩⟩⟩⟩⟩⟩⟩)
theorem si_good:Good Tryz.prog 12 siC/\FnOk Tryz.prog 12:=good_of tok conSi (fn:=Tryz.f12) rfl (by decide+kernel) (fun _=>rfl) si_keeps
end Go.Sym