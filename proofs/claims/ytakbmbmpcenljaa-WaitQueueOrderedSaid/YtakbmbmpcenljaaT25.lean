import Derived.Test.YtakbmbmpcenljaaT17
import Derived.Test.YtakbmbmpcenljaaXD
namespace Go.Sym
set_option linter.unusedVariables false
set_option linter.unusedSimpArgs false
open Go.Proofs
set_option maxRecDepth 100000
set_option maxHeartbeats 4000000
def okR (x:Rux):Bool:=decide (okN x.n/\x.l.length<=30)
def loA (x:Rux):List SV:=[.i .i64 x.n.most,.i .i64 x.n.ages,.sl 100000 0 x.l.length]
def loH (x:Rux):List (Nat × Blk):=actsH 100000 x.l
def lawO (b:Bool):CT:=⟨Rux,fun x=>True/\okR x=b,loA,loH,fun _=>.b true,fun _=>[]⟩
def lawOC:CT:=⟨Rux,fun x=>True,loA,loH,fun _=>.b true,fun _=>[]⟩
theorem okR_y {x:Rux} (h:okR x=true):okN x.n/\x.l.length<=30:=of_decide_eq_true h
theorem okR_n {x:Rux} (h:okR x=false):¬ (okN x.n/\x.l.length<=30):=of_decide_eq_false h
def loI (x:Rux) (id:Nat):Option Inv:=match id with
 |0=>some { X:=Nat,ok:=fun k=>k<=x.l.length,fr:=fun k=>[(49,.i .i64 k),(7,.p 500 0 0),(9,.p 502 0 0)],hp:=fun k=>qH 500 .own (stF x k)++rmH 502 .own .own (stF x k),me:=fun k=>x.l.length-k }
 |_=>none
def COr (n:CT):List (Nat × Con):=[(10,.one awC),(11,.one n),(12,.one wnC),(13,.one doC),(14,.one qlC),(16,.one qoC),(17,.one roC),(15,.one sameC),(18,.one qvC),(19,.one rvC)]
def cfgOry:Cfg:=⟨T,[],COr qnC,noInv,94,{}⟩
def cfgOrn:Cfg:=⟨T,[],COr qnNoC,noInv,94,{}⟩
theorem conOr {n:CT} (h:Good Try.prog 11 n/\FnOk Try.prog 11):ConL Try.prog (COr n):=.cons (ConL.one aw_good) (.cons (ConL.one h) (.cons (ConL.one wn_good) (.cons (ConL.one do_good) (.cons (ConL.one ql_good) (.cons (ConL.one qo_good) (.cons (ConL.one ro_good) (.cons (ConL.one same_good) (.cons (ConL.one qv_good) (.cons (ConL.one wv_good) .nil)))))))))
theorem conOry:ConOk Try.prog cfgOry:=ConL.ok (conOr qn_good)
theorem conOrn:ConOk Try.prog cfgOrn:=ConL.ok (conOr qnNo_good)
def sqF (x:Rux) (k:Nat):Qs:=stepQ (stF x k) (x.l.getD (0+(k:Int).toNat) default)
theorem sq_eq {x:Rux} {k:Nat} (h:(k:Int)<x.l.length):sqF x k=stF x (k+1):=(st_step h).symm
theorem sq_ok {x:Rux} (h:okN x.n/\x.l.length<=30) {k:Nat} (hk:(k:Int)<x.l.length):QOk (sqF x k)/\(sqF x k).l.length<=30:=by
 rw[sq_eq hk]
 have e:=st_ok h.1 (k+1)
 exact⟨e.1,by have:=h.2;have:=e.2;omega⟩
theorem sq_n {x:Rux} (h:okN x.n/\x.l.length<=30) {k:Nat} (hk:(k:Int)<x.l.length) (now:Int):(orderF (sqF x k) now).length<=1000/\(overF (sqF x k) now).length<=1000/\(ovL ⟨sqF x k,now⟩).length<=1000:=by
 have e:=sq_ok h hk
 have:=over_len (sqF x k) now
 have:=ov_len ⟨sqF x k,now⟩
 have:(ovL ⟨sqF x k,now⟩).length<=(sqF x k).l.length:=ov_len ⟨sqF x k,now⟩
 rw[orderF_len]
 omega
theorem sq_ov {x:Rux} (h:okN x.n/\x.l.length<=30) {k:Nat} (hk:(k:Int)<x.l.length) (now:Int):overF (sqF x k) now=(ovL ⟨sqF x k,now⟩).drop (ovLo ⟨sqF x k,now⟩):=(ov_is ⟨sqF x k,now⟩ (sq_ok h hk).1.m).symm
set_option maxRecDepth 100000 in
theorem w3n:Keeps cfgOrn Try.f3 (lawO false) loI:=Eq.mp (show((∀ x1:Rux,((True/\okR x1=false)->(∃ x3:Unit,(True/\(True/\(True/\((false=false->(((decide (30<(x1.l.length:Int))=true)->(∃ x6:Unit,(True/\(True/\(True/\(true=true/\True))))))/\((decide (30<(x1.l.length:Int))=false)->(∃ x8:Nx,((¬okN x8)/\((x1.n.most=x8.most/\(x1.n.ages=x8.ages/\True))/\(True/\(∃ x9:Nx,(True/\((x1.n.most=x9.most/\(x1.n.ages=x9.ages/\True))/\(True/\((((!decide (okN x9))=true)->((decide ((1:Int)=1)=true)/\True))/\(((!decide (okN x9))=false)->(false=true/\True))))))))))))))/\(false=true->(∃ x13:Unit,(True/\(True/\(True/\(true=true/\True))))))))))))))=(Keeps cfgOrn Try.f3 (lawO false) loI) by kernel_rfl) (fun x1=>fun h2=>⟨(default),trivial,trivial,trivial,
fun h4=>⟨fun g5=>have h5:=dT g5;⟨(default),trivial,trivial,trivial,rfl,trivial⟩,
fun g7=>have h7:=dF g7;⟨(Rux.n x1),
(by(try dsimp only at *);(exact fun q=>okR_n h2.2 ⟨q,by omega⟩)),
⟨rfl,rfl,trivial⟩,trivial,
(Rux.n x1),trivial,
⟨rfl,rfl,trivial⟩,trivial,
fun g10=>have h10:=nT g10;⟨(by(try dsimp only at *);grind),trivial⟩,
fun g11=>have h11:=nF g11;⟨(by(try dsimp only at *);exact absurd ⟨h11,by omega⟩ (okR_n h2.2)),trivial⟩⟩⟩,
fun h12=>⟨(default),trivial,trivial,trivial,rfl,trivial⟩⟩)
set_option maxRecDepth 100000 in
theorem w3y:Keeps cfgOry Try.f3 (lawO true) loI:=Eq.mp (show((∀ x1:Rux,((True/\okR x1=true)->(∃ x3:Unit,(True/\(True/\(True/\((false=false->(((decide (30<(x1.l.length:Int))=true)->(∃ x6:Unit,(True/\(True/\(True/\(true=true/\True))))))/\((decide (30<(x1.l.length:Int))=false)->(∃ x8:Nx,((okN x8)/\((x1.n.most=x8.most/\(x1.n.ages=x8.ages/\True))/\(True/\(∃ x9:Nx,(True/\((x1.n.most=x9.most/\(x1.n.ages=x9.ages/\True))/\(True/\((((!decide (okN x9))=true)->(false=true/\True))/\(((!decide (okN x9))=false)->(((decide ((0:Int)≠(0:Int))=true)->(false=true/\True))/\((decide ((0:Int)≠(0:Int))=false)->(∃ x14:Nat,(((x14<=x1.l.length)/\(((0=(x14:Int))/\((0=0/\0=0)/\((0=0/\0=0)/\(((x1.l.length:Int)=(x1.l.length:Int))/\((0=0/\x1.l.length=x1.l.length)/\((decide ((0:Int)≠(0:Int))=decide ((0:Int)≠(0:Int)))/\((decide ((0:Int)≠(0:Int))=decide ((0:Int)≠(0:Int)))/\(((0:Int)=0)/\(false=false/\(false=false/\(((!decide (okN x9))= !decide (okN x9))/\((decide (okN x9)=decide (okN x9))/\((decide (okN x9)=decide (okN x9))/\((decide (okN x9)=decide (okN x9))/\(x1.n.ages=x1.n.ages/\(x1.n.most=x1.n.most/\(((0:Int)=0)/\(((0:Int)=0)/\(x1.n.ages=x1.n.ages/\(x1.n.most=x1.n.most/\((decide (30<(x1.l.length:Int))=decide (30<(x1.l.length:Int)))/\((decide (30<(x1.l.length:Int))=decide (30<(x1.l.length:Int)))/\(((x1.l.length:Int)=(x1.l.length:Int))/\((0=0/\x1.l.length=x1.l.length)/\(false=false/\(false=false/\(true=true/\(x1.n.most=x1.n.most/\(x1.n.ages=x1.n.ages/\((0=0/\x1.l.length=x1.l.length)/\True))))))))))))))))))))))))))))))/\(((x8.most=(stF x1 x14).most)/\((x8.ages=(stF x1 x14).ages)/\(True/\True)))/\((MapEq [.int .i64,.int .i64] (idsC (@List.nil Cl)) (idsC (stF x1 x14).l) (valC (@List.nil Cl)) (valC (stF x1 x14).l))/\(((x9.most=(stF x1 x14).most)/\((x9.ages=(stF x1 x14).ages)/\((0=0/\((@List.nil Cl).length=(stF x1 x14).l.length))/\True)))/\(((RLe (stF x1 x14).l.length (@List.nil Cl).length)/\(RowsEq [.int .i64,.int .i64,.int .i64] (stF x1 x14).l.length (encL encC (@List.nil Cl)) (encL encC (stF x1 x14).l)))/\(((RLe x1.l.length x1.l.length)/\(RowsEq [.int .i64,.int .i64,.int .i64,.int .i64,.int .i64] x1.l.length (encL encA x1.l) (encL encA x1.l)))/\True)))))))/\(∀ x15:Nat,((x15<=x1.l.length)->(((decide ((x15:Int)<(x1.l.length:Int))=true)->((((0:Int)<=(x15:Int))/\((x15:Int)<(x1.l.length:Int)))/\((0+Int.toNat (x15:Int)<x1.l.length)/\(∃ x18:Dox,(((QOk x18.q)/\(x18.q.l.length<=(900:Nat)))/\(((0=0/\0=0)/\((0=0/\0=0)/\((((x1.l.getD (0+Int.toNat (x15:Int)) default).kind=x18.a.kind)/\(((x1.l.getD (0+Int.toNat (x15:Int)) default).call=x18.a.call)/\(((x1.l.getD (0+Int.toNat (x15:Int)) default).urg=x18.a.urg)/\(((x1.l.getD (0+Int.toNat (x15:Int)) default).since=x18.a.since)/\(((x1.l.getD (0+Int.toNat (x15:Int)) default).now=x18.a.now)/\True)))))/\True)))/\(((((stF x1 x15).most=x18.q.most)/\(((stF x1 x15).ages=x18.q.ages)/\(True/\True)))/\((MapEq [.int .i64,.int .i64] (idsC (stF x1 x15).l) (idsC x18.q.l) (valC (stF x1 x15).l) (valC x18.q.l))/\((((stF x1 x15).most=x18.q.most)/\(((stF x1 x15).ages=x18.q.ages)/\((0=0/\((stF x1 x15).l.length=x18.q.l.length))/\True)))/\(((RLe x18.q.l.length (stF x1 x15).l.length)/\(RowsEq [.int .i64,.int .i64,.int .i64] x18.q.l.length (encL encC (stF x1 x15).l) (encL encC x18.q.l)))/\True))))/\((false=false->(∃ x20:Qs,(True/\(((0=0/\0=0)/\True)/\(((((stepQ x18.q x18.a).most=x20.most)/\(((stepQ x18.q x18.a).ages=x20.ages)/\(True/\True)))/\((MapEq [.int .i64,.int .i64] (idsC (stepQ x18.q x18.a).l) (idsC x20.l) (valC (stepQ x18.q x18.a).l) (valC x20.l))/\True))/\(((decide ((x20.l.length:Int)≠(↑(stepQ x18.q x18.a).l.length:Int))=false)->(∃ x22:NwX,(((QOk x22.q)/\(x22.q.l.length<=(30:Nat)))/\(((0=0/\0=0)/\(((x1.l.getD (0+Int.toNat (x15:Int)) default).now=x22.now)/\True))/\(((((stepQ x18.q x18.a).most=x22.q.most)/\(((stepQ x18.q x18.a).ages=x22.q.ages)/\(True/\True)))/\((MapEq [.int .i64,.int .i64] (idsC (stepQ x18.q x18.a).l) (idsC x22.q.l) (valC (stepQ x18.q x18.a).l) (valC x22.q.l))/\True))/\(∃ x23:NwX,(((QOk x23.q)/\(x23.q.l.length<=(30:Nat)))/\(((0=0/\0=0)/\(((x1.l.getD (0+Int.toNat (x15:Int)) default).now=x23.now)/\True))/\(((((stepQ x18.q x18.a).most=x23.q.most)/\(((stepQ x18.q x18.a).ages=x23.q.ages)/\((0=0/\((stepQ x18.q x18.a).l.length=x23.q.l.length))/\True)))/\(((RLe x23.q.l.length (stepQ x18.q x18.a).l.length)/\(RowsEq [.int .i64,.int .i64,.int .i64] x23.q.l.length (encL encC (stepQ x18.q x18.a).l) (encL encC x23.q.l)))/\True))/\(∃ x24:LDx,(((x24.a.length<=(1000:Nat))/\((x24.b.length<=(1000:Nat))/\(x24.lo<=x24.b.length)))/\(((0=0/\x22.q.l.length=x24.a.length)/\((((0:Nat)=x24.lo)/\(x23.q.l.length=x24.b.length-x24.lo))/\True))/\((((RLe x24.a.length x22.q.l.length)/\(RI x24.a.length (orderF x22.q x22.now) x24.a))/\(((RLe x24.b.length x23.q.l.length)/\(RI x24.b.length (orderF x23.q x23.now) x24.b))/\True))/\((((!decide (x24.a=List.drop x24.lo x24.b))=false)->(∃ x26:NwX,(((QOk x26.q)/\(x26.q.l.length<=(30:Nat)))/\(((0=0/\0=0)/\(((x1.l.getD (0+Int.toNat (x15:Int)) default).now=x26.now)/\True))/\(((((stepQ x18.q x18.a).most=x26.q.most)/\(((stepQ x18.q x18.a).ages=x26.q.ages)/\(True/\True)))/\((MapEq [.int .i64,.int .i64] (idsC (stepQ x18.q x18.a).l) (idsC x26.q.l) (valC (stepQ x18.q x18.a).l) (valC x26.q.l))/\True))/\(∃ x27:NwX,(((QOk x27.q)/\(x27.q.l.length<=(30:Nat)))/\(((0=0/\0=0)/\(((x1.l.getD (0+Int.toNat (x15:Int)) default).now=x27.now)/\True))/\(((((stepQ x18.q x18.a).most=x27.q.most)/\(((stepQ x18.q x18.a).ages=x27.q.ages)/\((0=0/\((stepQ x18.q x18.a).l.length=x27.q.l.length))/\True)))/\(((RLe x27.q.l.length (stepQ x18.q x18.a).l.length)/\(RowsEq [.int .i64,.int .i64,.int .i64] x27.q.l.length (encL encC (stepQ x18.q x18.a).l) (encL encC x27.q.l)))/\True))/\(∃ x28:LDx,(((x28.a.length<=(1000:Nat))/\((x28.b.length<=(1000:Nat))/\(x28.lo<=x28.b.length)))/\(((0=0/\((overF x26.q x26.now).length=x28.a.length))/\(((ovLo x27=x28.lo)/\((ovL x27).length-ovLo x27=x28.b.length-x28.lo))/\True))/\((((RLe x28.a.length (overF x26.q x26.now).length)/\(RI x28.a.length (overF x26.q x26.now) x28.a))/\(((RLe x28.b.length (ovL x27).length)/\(RI x28.b.length (ovL x27) x28.b))/\True))/\((((!decide (x28.a=List.drop x28.lo x28.b))=true)->(false=true/\True))/\(((!decide (x28.a=List.drop x28.lo x28.b))=false)->((((-9223372036854775808:Int)<=(x15:Int)+1)/\((x15:Int)+1<=(9223372036854775807:Int)))/\(∃ x31:Nat,((x1.l.length-x31<x1.l.length-x15)/\((x31<=x1.l.length)/\((((x15:Int)+1=(x31:Int))/\((0=0/\0=0)/\((0=0/\0=0)/\(((x1.l.length:Int)=(x1.l.length:Int))/\((0=0/\x1.l.length=x1.l.length)/\((decide ((0:Int)≠(0:Int))=decide ((0:Int)≠(0:Int)))/\((decide ((0:Int)≠(0:Int))=decide ((0:Int)≠(0:Int)))/\(((0:Int)=0)/\(false=false/\(false=false/\(((!decide (okN x9))= !decide (okN x9))/\((decide (okN x9)=decide (okN x9))/\((decide (okN x9)=decide (okN x9))/\((decide (okN x9)=decide (okN x9))/\(x1.n.ages=x1.n.ages/\(x1.n.most=x1.n.most/\(((0:Int)=0)/\(((0:Int)=0)/\(x1.n.ages=x1.n.ages/\(x1.n.most=x1.n.most/\((decide (30<(x1.l.length:Int))=decide (30<(x1.l.length:Int)))/\((decide (30<(x1.l.length:Int))=decide (30<(x1.l.length:Int)))/\(((x1.l.length:Int)=(x1.l.length:Int))/\((0=0/\x1.l.length=x1.l.length)/\(false=false/\(false=false/\(true=true/\(x1.n.most=x1.n.most/\(x1.n.ages=x1.n.ages/\((0=0/\x1.l.length=x1.l.length)/\True))))))))))))))))))))))))))))))/\((((stepQ x18.q x18.a).most=(stF x1 x31).most)/\(((stepQ x18.q x18.a).ages=(stF x1 x31).ages)/\(True/\True)))/\((MapEq [.int .i64,.int .i64] (idsC (stepQ x18.q x18.a).l) (idsC (stF x1 x31).l) (valC (stepQ x18.q x18.a).l) (valC (stF x1 x31).l))/\((((stepQ x18.q x18.a).most=(stF x1 x31).most)/\(((stepQ x18.q x18.a).ages=(stF x1 x31).ages)/\((0=0/\((stepQ x18.q x18.a).l.length=(stF x1 x31).l.length))/\True)))/\(((RLe (stF x1 x31).l.length (stepQ x18.q x18.a).l.length)/\(RowsEq [.int .i64,.int .i64,.int .i64] (stF x1 x31).l.length (encL encC (stepQ x18.q x18.a).l) (encL encC (stF x1 x31).l)))/\(((RLe x1.l.length x1.l.length)/\(RowsEq [.int .i64,.int .i64,.int .i64,.int .i64,.int .i64] x1.l.length (encL encA x1.l) (encL encA x1.l)))/\True)))))))))))))))))))))))))/\(((!decide (x24.a=List.drop x24.lo x24.b))=true)->(false=true/\True))))))))))))))))/\((decide ((x20.l.length:Int)≠(↑(stepQ x18.q x18.a).l.length:Int))=true)->(false=true/\True))))))))/\(false=true->(false=true/\True))))))))))/\((decide ((x15:Int)<(x1.l.length:Int))=false)->(true=true/\True))))))))))))))))))))))/\(false=true->(∃ x37:Unit,(True/\(True/\(True/\(true=true/\True))))))))))))))=(Keeps cfgOry Try.f3 (lawO true) loI) by kernel_rfl) (fun x1=>fun h2=>⟨(default),
 trivial,trivial,trivial,
fun h4=>⟨fun g5=>have h5:=dT g5;⟨(default),trivial,trivial,trivial,rfl,trivial⟩,
fun g7=>have h7:=dF g7;⟨(Rux.n x1),
(by(try dsimp only at *);exact(okR_y h2.2).1),
⟨rfl,rfl,trivial⟩,trivial,
(Rux.n x1),trivial,
⟨rfl,rfl,trivial⟩,trivial,
fun g10=>have h10:=nT g10;⟨(by(try dsimp only at *);exact absurd (okR_y h2.2).1 ‹¬ okN _›),trivial⟩,
fun g11=>have h11:=nF g11;⟨fun g12=>have h12:=dT g12;⟨(by(try dsimp only at *);omega),trivial⟩,
fun g13=>have h13:=dF g13;⟨((0:Nat)),
⟨(by(try dsimp only at *);omega),
⟨(by(try dsimp only at *);omega),
⟨rfl,rfl⟩,
⟨rfl,rfl⟩,rfl,
⟨rfl,rfl⟩,rfl,rfl,rfl,rfl,rfl,rfl,rfl,rfl,rfl,rfl,rfl,rfl,rfl,rfl,rfl,rfl,rfl,rfl,
⟨rfl,rfl⟩,rfl,rfl,rfl,rfl,rfl,
⟨rfl,rfl⟩,trivial⟩,
⟨(by(try dsimp only at *);rfl),
(by(try dsimp only at *);rfl),trivial,trivial⟩,
(by(try dsimp only at *);exact MapEq.rfl'),
⟨(by(try dsimp only at *);rfl),
(by(try dsimp only at *);rfl),
⟨rfl,
(by(try dsimp only at *);rfl)⟩,trivial⟩,
⟨⟨(by(try dsimp only at *);exact Nat.le_refl _)⟩,
(by(try dsimp only at *);exact rr)⟩,
⟨rl,rr⟩,trivial⟩,
fun x15=>fun h16=>⟨fun g17=>have h17:=dT g17;⟨⟨(by(try dsimp only at *);omega),
(by(try dsimp only at *);omega)⟩,
(by(try dsimp only at *);omega),
({ q:=stF x1 x15,a:=List.getD (Rux.l x1) ((0:Nat)+Int.toNat (↑x15:Int)) default:Dox }),
⟨(by(try dsimp only at *);exact(st_ok (okR_y h2.2).1 x15).1),
(by(try dsimp only at *);(have e:=(st_ok (okR_y h2.2).1 x15).2;have e2:=(okR_y h2.2).2;(show(stF x1 x15).l.length<=900);omega))⟩,
⟨⟨rfl,rfl⟩,
⟨rfl,rfl⟩,
⟨rfl,rfl,rfl,rfl,rfl,trivial⟩,trivial⟩,
⟨⟨rfl,rfl,trivial,trivial⟩,
(by(try dsimp only at *);exact MapEq.rfl'),
⟨rfl,rfl,
⟨rfl,rfl⟩,trivial⟩,
⟨rl,rr⟩,trivial⟩,
fun h19=>⟨(sqF x1 x15),trivial,
⟨⟨rfl,rfl⟩,trivial⟩,
⟨⟨(by(try dsimp only at *);rfl),
(by(try dsimp only at *);rfl),trivial,trivial⟩,
(by(try dsimp only at *);exact MapEq.rfl'),trivial⟩,
fun g21=>have h21:=dF g21;⟨({ q:=stepQ (stF x1 x15) (List.getD (Rux.l x1) ((0:Nat)+Int.toNat (↑x15:Int)) default),now:=Act.now (List.getD (Rux.l x1) ((0:Nat)+Int.toNat (↑x15:Int)) default):NwX }),
⟨(by(try dsimp only at *);exact(sq_ok (okR_y h2.2) h17).1),
(by(try dsimp only at *);exact(sq_ok (okR_y h2.2) h17).2)⟩,
⟨⟨rfl,rfl⟩,rfl,trivial⟩,
⟨⟨rfl,rfl,trivial,trivial⟩,
(by(try dsimp only at *);exact MapEq.rfl'),trivial⟩,
({ q:=stepQ (stF x1 x15) (List.getD (Rux.l x1) ((0:Nat)+Int.toNat (↑x15:Int)) default),now:=Act.now (List.getD (Rux.l x1) ((0:Nat)+Int.toNat (↑x15:Int)) default):NwX }),
⟨(by(try dsimp only at *);exact(sq_ok (okR_y h2.2) h17).1),
(by(try dsimp only at *);exact(sq_ok (okR_y h2.2) h17).2)⟩,
⟨⟨rfl,rfl⟩,rfl,trivial⟩,
⟨⟨rfl,rfl,
⟨rfl,rfl⟩,trivial⟩,
⟨rl,rr⟩,trivial⟩,
({ a:=orderF (stepQ (stF x1 x15) (List.getD (Rux.l x1) ((0:Nat)+Int.toNat (↑x15:Int)) default)) (Act.now (List.getD (Rux.l x1) ((0:Nat)+Int.toNat (↑x15:Int)) default)),b:=orderF (stepQ (stF x1 x15) (List.getD (Rux.l x1) ((0:Nat)+Int.toNat (↑x15:Int)) default)) (Act.now (List.getD (Rux.l x1) ((0:Nat)+Int.toNat (↑x15:Int)) default)),lo:=(0:Nat):LDx }),
⟨(by(try dsimp only at *);exact(sq_n (okR_y h2.2) h17 _).1),
(by(try dsimp only at *);exact(sq_n (okR_y h2.2) h17 _).1),
(by(try dsimp only at *);omega)⟩,
⟨⟨rfl,
(by(try dsimp only at *);exact(orderF_len _ _).symm)⟩,
⟨rfl,
(by(try dsimp only at *);exact(orderF_len _ _).symm)⟩,trivial⟩,
⟨⟨⟨(by(try dsimp only at *);exact Nat.le_of_eq (orderF_len _ _))⟩,rr⟩,
⟨⟨(by(try dsimp only at *);exact Nat.le_of_eq (orderF_len _ _))⟩,rr⟩,trivial⟩,
fun g25=>have h25:=nF g25;⟨({ q:=stepQ (stF x1 x15) (List.getD (Rux.l x1) ((0:Nat)+Int.toNat (↑x15:Int)) default),now:=Act.now (List.getD (Rux.l x1) ((0:Nat)+Int.toNat (↑x15:Int)) default):NwX }),
⟨(by(try dsimp only at *);exact(sq_ok (okR_y h2.2) h17).1),
(by(try dsimp only at *);exact(sq_ok (okR_y h2.2) h17).2)⟩,
⟨⟨rfl,rfl⟩,rfl,trivial⟩,
⟨⟨rfl,rfl,trivial,trivial⟩,
(by(try dsimp only at *);exact MapEq.rfl'),trivial⟩,
({ q:=stepQ (stF x1 x15) (List.getD (Rux.l x1) ((0:Nat)+Int.toNat (↑x15:Int)) default),now:=Act.now (List.getD (Rux.l x1) ((0:Nat)+Int.toNat (↑x15:Int)) default):NwX }),
⟨(by(try dsimp only at *);exact(sq_ok (okR_y h2.2) h17).1),
(by(try dsimp only at *);exact(sq_ok (okR_y h2.2) h17).2)⟩,
⟨⟨rfl,rfl⟩,rfl,trivial⟩,
⟨⟨rfl,rfl,
⟨rfl,rfl⟩,trivial⟩,
⟨rl,rr⟩,trivial⟩,
({ a:=overF (stepQ (stF x1 x15) (List.getD (Rux.l x1) ((0:Nat)+Int.toNat (↑x15:Int)) default)) (Act.now (List.getD (Rux.l x1) ((0:Nat)+Int.toNat (↑x15:Int)) default)),b:=ovL { q:=stepQ (stF x1 x15) (List.getD (Rux.l x1) ((0:Nat)+Int.toNat (↑x15:Int)) default),now:=Act.now (List.getD (Rux.l x1) ((0:Nat)+Int.toNat (↑x15:Int)) default):NwX },lo:=ovLo { q:=stepQ (stF x1 x15) (List.getD (Rux.l x1) ((0:Nat)+Int.toNat (↑x15:Int)) default),now:=Act.now (List.getD (Rux.l x1) ((0:Nat)+Int.toNat (↑x15:Int)) default):NwX }:LDx }),
⟨(by(try dsimp only at *);exact(sq_n (okR_y h2.2) h17 _).2.1),
(by(try dsimp only at *);exact(sq_n (okR_y h2.2) h17 _).2.2),
(by(try dsimp only at *);exact ov_lo _)⟩,
⟨⟨rfl,rfl⟩,
⟨rfl,rfl⟩,trivial⟩,
⟨⟨rl,rr⟩,
⟨rl,rr⟩,trivial⟩,
fun g29=>have h29:=nT g29;⟨(by(try dsimp only at *);exact(‹¬ _=List.drop _ _› (sq_ov (okR_y h2.2) h17 _)).elim),trivial⟩,
fun g30=>have h30:=nF g30;⟨⟨(by(try dsimp only at *);omega),
(by(try dsimp only at *);omega)⟩,
(x15+(1:Nat)),
(by(try dsimp only at *);omega),
(by(try dsimp only at *);omega),
⟨(by(try dsimp only at *);omega),
⟨rfl,rfl⟩,
⟨rfl,rfl⟩,rfl,
⟨rfl,rfl⟩,rfl,rfl,rfl,rfl,rfl,rfl,rfl,rfl,rfl,rfl,rfl,rfl,rfl,rfl,rfl,rfl,rfl,rfl,
⟨rfl,rfl⟩,rfl,rfl,rfl,rfl,rfl,
⟨rfl,rfl⟩,trivial⟩,
⟨(by(try dsimp only at *);(have e:=st_step h17;(first|(rw[e];done)|(rw[e];exact Nat.le_refl _)|(rw[e];exact MapEq.rfl')|(rw[e];exact rr)))),
(by(try dsimp only at *);(have e:=st_step h17;(first|(rw[e];done)|(rw[e];exact Nat.le_refl _)|(rw[e];exact MapEq.rfl')|(rw[e];exact rr)))),trivial,trivial⟩,
(by(try dsimp only at *);(have e:=st_step h17;(first|(rw[e];done)|(rw[e];exact Nat.le_refl _)|(rw[e];exact MapEq.rfl')|(rw[e];exact rr)))),
⟨(by(try dsimp only at *);(have e:=st_step h17;(first|(rw[e];done)|(rw[e];exact Nat.le_refl _)|(rw[e];exact MapEq.rfl')|(rw[e];exact rr)))),
(by(try dsimp only at *);(have e:=st_step h17;(first|(rw[e];done)|(rw[e];exact Nat.le_refl _)|(rw[e];exact MapEq.rfl')|(rw[e];exact rr)))),
⟨rfl,
(by(try dsimp only at *);(have e:=st_step h17;(first|(rw[e];done)|(rw[e];exact Nat.le_refl _)|(rw[e];exact MapEq.rfl')|(rw[e];exact rr))))⟩,trivial⟩,
⟨⟨(by(try dsimp only at *);(have e:=st_step h17;(first|(rw[e];done)|(rw[e];exact Nat.le_refl _)|(rw[e];exact MapEq.rfl')|(rw[e];exact rr))))⟩,
(by(try dsimp only at *);(have e:=st_step h17;(first|(rw[e];done)|(rw[e];exact Nat.le_refl _)|(rw[e];exact MapEq.rfl')|(rw[e];exact rr))))⟩,
⟨rl,rr⟩,trivial⟩⟩,
fun g32=>have h32:=nT g32;⟨(by(try dsimp only at *);grind),trivial⟩⟩,
fun g33=>have h33:=dT g33;⟨(by(try dsimp only at *);exact(h33 rfl).elim),trivial⟩⟩,
fun h34=>⟨(by(try dsimp only at *);omega),trivial⟩⟩,
fun g35=>have h35:=dF g35;⟨rfl,trivial⟩⟩⟩⟩⟩⟩,
fun h36=>⟨(default),trivial,trivial,trivial,rfl,trivial⟩⟩)
theorem w3_good:Good Try.prog 3 lawOC:=both_b (t:=okR)
 (good_of tok conOry (fn:=Try.f3) rfl (by decide+kernel) (fun _=>rfl) w3y).1 (good_of tok conOrn (fn:=Try.f3) rfl (by decide+kernel) (fun _=>rfl) w3n).1
end Go.Sym