import Derived.Test.YtakbmbmpcenljaaT17
import Derived.Test.YtakbmbmpcenljaaXD
namespace Go.Sym
set_option linter.unusedVariables false
set_option linter.unusedSimpArgs false
open Go.Proofs
set_option maxRecDepth 100000
set_option maxHeartbeats 4000000
def COv (r:CT):List (Nat × Con):=[(20,.one r),(10,.one awC),(16,.one qoC),(18,.one qvC),(14,.one qlC),(15,.one sameC)]
def cfgOvy:Cfg:=⟨T,[],COv runC,noInv,60,{}⟩
def cfgOvn:Cfg:=⟨T,[],COv (runNoC fun x=>¬ (okN x.n/\x.l.length<=30)),noInv,60,{}⟩
theorem conOv {r:CT} (h:Good Try.prog 20 r/\FnOk Try.prog 20):ConL Try.prog (COv r):=.cons (ConL.one h) (.cons (ConL.one aw_good) (.cons (ConL.one qo_good) (.cons (ConL.one qv_good) (.cons (ConL.one ql_good) (.cons (ConL.one same_good) .nil)))))
theorem conOvy:ConOk Try.prog cfgOvy:=ConL.ok (conOv run_good)
theorem conOvn:ConOk Try.prog cfgOvn:=ConL.ok (conOv runNo_good)
set_option maxRecDepth 100000 in
theorem w5n:Keeps cfgOvn Try.f5 (lawW false) noIv:=Eq.mp (show((∀ x1:Lwx,((x1.n.most<=(9223372036854775807:Int)/\okL x1=false)->(∃ x3:Rux,((¬(okN x3.n/\x3.l.length<=(30:Nat)))/\((x1.n.most=x3.n.most/\(x1.n.ages=x3.n.ages/\((0=0/\x1.l.length=x3.l.length)/\True)))/\((((RLe x3.l.length x1.l.length)/\(RowsEq [.int .i64,.int .i64,.int .i64,.int .i64,.int .i64] x3.l.length (encL encA x1.l) (encL encA x3.l)))/\True)/\(∃ x4:Unit,(True/\(True/\(True/\((false=false->(∃ x6:Unit,(True/\(True/\(True/\(true=true/\True))))))/\(false=true->(∃ x8:Unit,(True/\(True/\(True/\(true=true/\True))))))))))))))))))=(Keeps cfgOvn Try.f5 (lawW false) noIv) by kernel_rfl) (fun x1=>fun h2=>⟨(Lwx.r x1),
(by(try dsimp only at *);exact okL_n h2.2),
⟨(by(try dsimp only at *);rfl),
(by(try dsimp only at *);rfl),
⟨rfl,
(by(try dsimp only at *);rfl)⟩,trivial⟩,
⟨⟨⟨(by(try dsimp only at *);exact Nat.le_refl _)⟩,
(by(try dsimp only at *);exact rr)⟩,trivial⟩,
(()),trivial,trivial,trivial,
fun h5=>⟨(default),trivial,trivial,trivial,rfl,trivial⟩,
fun h7=>⟨(default),trivial,trivial,trivial,rfl,trivial⟩⟩)
set_option maxRecDepth 100000 in
theorem w5y:Keeps cfgOvy Try.f5 (lawW true) noIv:=Eq.mp (show((∀ x1:Lwx,((x1.n.most<=(9223372036854775807:Int)/\okL x1=true)->(∃ x3:Rux,(((okN x3.n)/\(x3.l.length<=(30:Nat)))/\((x1.n.most=x3.n.most/\(x1.n.ages=x3.n.ages/\((0=0/\x1.l.length=x3.l.length)/\True)))/\((((RLe x3.l.length x1.l.length)/\(RowsEq [.int .i64,.int .i64,.int .i64,.int .i64,.int .i64] x3.l.length (encL encA x1.l) (encL encA x3.l)))/\True)/\(∃ x4:Unit,(True/\(True/\(True/\((false=false->(∃ x6:NwX,(((QOk x6.q)/\(x6.q.l.length<=(30:Nat)))/\(((0=0/\0=0)/\(x1.now=x6.now/\True))/\(((((enF x3).most=x6.q.most)/\(((enF x3).ages=x6.q.ages)/\(True/\True)))/\((MapEq [.int .i64,.int .i64] (idsC (enF x3).l) (idsC x6.q.l) (valC (enF x3).l) (valC x6.q.l))/\True))/\(∃ x7:NwX,(((QOk x7.q)/\(x7.q.l.length<=(30:Nat)))/\(((0=0/\0=0)/\(x1.now=x7.now/\True))/\(((((enF x3).most=x7.q.most)/\(((enF x3).ages=x7.q.ages)/\(True/\True)))/\((MapEq [.int .i64,.int .i64] (idsC (enF x3).l) (idsC x7.q.l) (valC (enF x3).l) (valC x7.q.l))/\True))/\(∃ x8:Qs,(True/\(((0=0/\0=0)/\True)/\(((((enF x3).most=x8.most)/\(((enF x3).ages=x8.ages)/\(True/\True)))/\((MapEq [.int .i64,.int .i64] (idsC (enF x3).l) (idsC x8.l) (valC (enF x3).l) (valC x8.l))/\True))/\(((decide ((x6.q.l.length:Int)≠(x8.l.length:Int))=false)->((((-9223372036854775808:Int)<=(x6.q.l.length:Int)-x1.n.most)/\((x6.q.l.length:Int)-x1.n.most<=(9223372036854775807:Int)))/\(((decide ((↑(overF x7.q x7.now).length:Int)≠max ((x6.q.l.length:Int)-x1.n.most) (0:Int))=true)->(false=true/\True))/\((decide ((↑(overF x7.q x7.now).length:Int)≠max ((x6.q.l.length:Int)-x1.n.most) (0:Int))=false)->((((-9223372036854775808:Int)<=(x6.q.l.length:Int)-(↑(overF x7.q x7.now).length:Int))/\((x6.q.l.length:Int)-(↑(overF x7.q x7.now).length:Int)<=(9223372036854775807:Int)))/\((((0:Int)<=(x6.q.l.length:Int)-(↑(overF x7.q x7.now).length:Int))/\(((x6.q.l.length:Int)-(↑(overF x7.q x7.now).length:Int)<=(x6.q.l.length:Int))/\((x6.q.l.length:Int)<=(x6.q.l.length:Int))))/\(∃ x12:LDx,(((x12.a.length<=(1000:Nat))/\((x12.b.length<=(1000:Nat))/\(x12.lo<=x12.b.length)))/\(((0=0/\((overF x7.q x7.now).length=x12.a.length))/\(((0+Int.toNat ((x6.q.l.length:Int)-(↑(overF x7.q x7.now).length:Int))=x12.lo)/\(Int.toNat (x6.q.l.length:Int)-Int.toNat ((x6.q.l.length:Int)-(↑(overF x7.q x7.now).length:Int))=x12.b.length-x12.lo))/\True))/\((((RLe x12.a.length (overF x7.q x7.now).length)/\(RI x12.a.length (overF x7.q x7.now) x12.a))/\(((RLe x12.b.length x6.q.l.length)/\(RI x12.b.length (orderF x6.q x6.now) x12.b))/\True))/\((decide (x12.a=List.drop x12.lo x12.b)=true)/\True)))))))))))/\((decide ((x6.q.l.length:Int)≠(x8.l.length:Int))=true)->(false=true/\True))))))))))))))))/\(false=true->(∃ x15:Unit,(True/\(True/\(True/\(true=true/\True))))))))))))))))))=(Keeps cfgOvy Try.f5 (lawW true) noIv) by kernel_rfl) (fun x1=>fun h2=>⟨(Lwx.r x1),
⟨(by(try dsimp only at *);exact(okL_y h2.2).1),
(by(try dsimp only at *);exact(okL_y h2.2).2)⟩,
⟨(by(try dsimp only at *);rfl),
(by(try dsimp only at *);rfl),
⟨rfl,
(by(try dsimp only at *);rfl)⟩,trivial⟩,
⟨⟨⟨(by(try dsimp only at *);exact Nat.le_refl _)⟩,
(by(try dsimp only at *);exact rr)⟩,trivial⟩,
(()),trivial,trivial,trivial,
fun h5=>⟨({ q:=Lwx.q x1,now:=Lwx.now x1:NwX }),
⟨(by(try dsimp only at *);exact(okL_q h2.2).1),
(by(try dsimp only at *);exact(okL_q h2.2).2)⟩,
⟨⟨rfl,rfl⟩,rfl,trivial⟩,
⟨⟨(by(try dsimp only at *);rfl),
(by(try dsimp only at *);rfl),trivial,trivial⟩,
(by(try dsimp only at *);exact MapEq.rfl'),trivial⟩,
({ q:=Lwx.q x1,now:=Lwx.now x1:NwX }),
⟨(by(try dsimp only at *);exact(okL_q h2.2).1),
(by(try dsimp only at *);exact(okL_q h2.2).2)⟩,
⟨⟨rfl,rfl⟩,rfl,trivial⟩,
⟨⟨(by(try dsimp only at *);rfl),
(by(try dsimp only at *);rfl),trivial,trivial⟩,
(by(try dsimp only at *);exact MapEq.rfl'),trivial⟩,
(Lwx.q x1),trivial,
⟨⟨rfl,rfl⟩,trivial⟩,
⟨⟨(by(try dsimp only at *);rfl),
(by(try dsimp only at *);rfl),trivial,trivial⟩,
(by(try dsimp only at *);exact MapEq.rfl'),trivial⟩,
fun g9=>have h9:=dF g9;⟨⟨(by(try dsimp only at *);omega),
(by(try dsimp only at *);(have f:=okL_f h2.2;omega))⟩,
fun g10=>have h10:=dT g10;⟨(by(try dsimp only at *);(have f:=okL_f h2.2;omega)),trivial⟩,
fun g11=>have h11:=dF g11;⟨⟨(by(try dsimp only at *);(have f:=okL_f h2.2;omega)),
(by(try dsimp only at *);omega)⟩,
⟨(by(try dsimp only at *);(have f:=okL_f h2.2;omega)),
(by(try dsimp only at *);omega),
(by(try dsimp only at *);omega)⟩,
({ a:=overF (Lwx.q x1) (Lwx.now x1),b:=orderF (Lwx.q x1) (Lwx.now x1),lo:=List.length (Qs.l (Lwx.q x1))-List.length (overF (Lwx.q x1) (Lwx.now x1)):LDx }),
⟨(by(try dsimp only at *);(have f:=okL_f h2.2;omega)),
(by(try dsimp only at *);(have f:=okL_f h2.2;omega)),
(by(try dsimp only at *);(have f:=okL_f h2.2;omega))⟩,
⟨⟨rfl,rfl⟩,
⟨(by(try dsimp only at *);omega),
(by(try dsimp only at *);(have f:=okL_f h2.2;omega))⟩,trivial⟩,
⟨⟨rl,rr⟩,
⟨⟨(by(try dsimp only at *);(have f:=okL_f h2.2;omega))⟩,rr⟩,trivial⟩,
(by(try dsimp only at *);exact decide_eq_true (okL_d h2.2).symm),trivial⟩⟩,
fun g13=>have h13:=dT g13;⟨(by(try dsimp only at *);omega),trivial⟩⟩,
fun h14=>⟨(default),trivial,trivial,trivial,rfl,trivial⟩⟩)
theorem w5_good:Good Try.prog 5 lawWC:=both_b (t:=okL)
 (good_of tok conOvy (fn:=Try.f5) rfl (by decide+kernel) (fun _=>rfl) w5y).1 (good_of tok conOvn (fn:=Try.f5) rfl (by decide+kernel) (fun _=>rfl) w5n).1
end Go.Sym