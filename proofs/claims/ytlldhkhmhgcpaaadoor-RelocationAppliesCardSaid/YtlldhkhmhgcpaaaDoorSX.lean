import Derived.Test.YtlldhkhmhgcpaaaDoorSR
import Derived.Test.YtlldhkhmhgcpaaaDoorC1
import Derived.Test.YtlldhkhmhgcpaaaDoorXD
namespace Go.Sym
set_option linter.unusedVariables false
set_option linter.unusedSimpArgs false
open Go.Proofs Go.RowKit
set_option maxRecDepth 100000
set_option maxHeartbeats 8000000
set_option maxRecDepth 100000 in
theorem cloneM_keeps:Keeps cfgN0 Tryd.f79 (cloneC1 kM) noIv:=Eq.mp (show((∀ x1:RX,(((1:Nat)<=x1.n/\x1.n<=(1073741824:Nat))->(((1:Nat)<=x1.n)/\(True/\((0=0/\(((0:Nat)<=(0:Nat))/\(((0:Nat)+x1.n<=x1.n)/\((0:Nat)+x1.n<=(1073741824:Nat)))))/\((0=0/\((0:Nat)+x1.n=x1.n))/\(((RLe x1.n ((0:Nat)+x1.n))/\(RowsEq [.int .i64,.int .i64] x1.n (appRows 0 (litRows (@List.nil (List D))) 0 x1.f) x1.f))/\True))))))))=(Keeps cfgN0 Tryd.f79 (cloneC1 kM) noIv) by kernel_rfl) (fun x1=>fun h2=>⟨(by omega),trivial,
⟨rfl,
(by omega),
(by omega),
(by omega)⟩,
⟨rfl,
(by omega)⟩,
⟨⟨(by omega)⟩,
(by exact app0)⟩,trivial⟩)
theorem cloneM_nil (w:World):Calls Tryd.prog 79 #[.slice none 0 0] w fun e w'=>e= .returned (.slice none 0 0)/\w'=w:=by
 have hq:=run_eql_sl (P:=Tryd.prog) w 25 61 none 0 0 Tryd.underlying25
 go_enter Tryd.func79,Tryd.ntmps79
 go_wp2
 go_ret
 exact⟨rfl,rfl⟩
theorem cloneM_empty (w:World) (a:Addr) (cap:Nat):Calls Tryd.prog 79 #[.slice (some a) 0 cap] w fun e w'=>e= .returned (.slice (some ⟨w.heap.size,0,none⟩) 0 0)/\w'=w.alloc (.cells #[] 61):=by
 have hq:=run_eql_sl (P:=Tryd.prog) w 25 61 (some a) 0 cap Tryd.underlying25
 go_enter Tryd.func79,Tryd.ntmps79
 go_wp2
 go_ret
 exact⟨rfl,rfl⟩
theorem cloneM_good:Good Tryd.prog 79 (cloneC kM)/\FnOk Tryd.prog 79:=
 ⟨clone_both (clone_zero cloneM_nil cloneM_empty) (good_of tok conN0 (fn:=Tryd.f79) rfl (by decide+kernel) (fun _=>rfl) cloneM_keeps).1,Tryd.f79,rfl,by decide+kernel,rfl⟩
def cfgCm:Cfg:=⟨T,[],[(98,.one mfC)],noInv,30,{ kn:=true }⟩
theorem conCm:ConOk Tryd.prog cfgCm:=ConL.ok (.cons (ConL.one mf_good) .nil)
def cmC:CT where
 X:=MLx
 pre:=fun x=>x.a.length<=100
 args:=fun x=>[.sl 100000 0 x.a.length,.sl 100001 0 x.b.length]
 g0:=fun x=>[(100000,.rows .bor kM x.a.length (encL encM x.a)),(100001,.rows .bor kM x.b.length (encL encM x.b))]
 res:=fun x=>.i .i64 (cmpMs x.a x.b)
 g1:=fun _=>[]
set_option maxRecDepth 100000 in
theorem cm_keeps:Keeps cfgCm Tryd.f78 cmC noIv:=Eq.mp (show((∀ x1:MLx,((x1.a.length<=(100:Nat))->(∃ x3:MLx,((x3.a.length<=(100:Nat))/\(((0=0/\x1.a.length=x3.a.length)/\((0=0/\x1.b.length=x3.b.length)/\(True/\True)))/\((((RLe x3.a.length x1.a.length)/\(RowsEq [.int .i64,.int .i64] x3.a.length (encL encM x1.a) (encL encM x3.a)))/\(((RLe x3.b.length x1.b.length)/\(RowsEq [.int .i64,.int .i64] x3.b.length (encL encM x1.b) (encL encM x3.b)))/\True))/\((cmpMs x3.a x3.b=cmpMs x1.a x1.b)/\True))))))))=(Keeps cfgCm Tryd.f78 cmC noIv) by kernel_rfl) (fun x1=>fun h2=>⟨(x1),
(by(try dsimp only at *);omega),
⟨⟨rfl,rfl⟩,
⟨rfl,rfl⟩,trivial,trivial⟩,
⟨⟨rl,rr⟩,
⟨rl,rr⟩,trivial⟩,rfl,trivial⟩)
theorem cm_good:Good Tryd.prog 78 cmC/\FnOk Tryd.prog 78:=good_of tok conCm (fn:=Tryd.f78) rfl (by decide+kernel) (fun _=>rfl) cm_keeps
def Hs.upd (h:Hs) (b:Bst):Hs:=⟨h.x,h.ks,h.p,b⟩
def cnC:CT where
 X:=Hs
 pre:=HsOk
 args:=fun _=>[.p 100000 0 0]
 g0:=fun h=>hsH .own h 100005 100006++hsS h
 res:=fun _=>.tup []
 g1:=fun h=>hsH .own (h.upd (cnF h.x h.p h.b)) 100005 1++[(100006,.dead)]
def cfgCn:Cfg:=⟨T,[],[(75,.one wtC),(47,.one cmpC),(77,.one cmpC),(78,.one cmC),(76,.one orC),(79,.one (cloneC kM))],noInv,80,{ kn:=true }⟩
theorem conCn:ConOk Tryd.prog cfgCn:=ConL.ok (.cons (ConL.one wt_good) (.cons (ConL.one cmpi_good) (.cons (ConL.one cmp_good) (.cons (ConL.one cm_good) (.cons (ConL.one or_good) (.cons (ConL.one cloneM_good) .nil))))))
theorem cn_y {h:Hs} (q:h.b.found=false∨betF (waitF h.x h.p.nd) h.p h.b<0):cnF h.x h.p h.b=⟨true,h.p.mv,waitF h.x h.p.nd,h.p.dur⟩:=if_pos q
theorem cn_n {h:Hs} (q:(!h.b.found)=false) (q2:¬ betF (waitF h.x h.p.nd) h.p h.b<0):cnF h.x h.p h.b=h.b:=if_neg (fun e=>e.elim (fun e=>by rw[e]at q;cases q) q2)
def orL (h:Hs):List Int:=[cmpI (waitF h.x h.p.nd) h.b.worst,cmpI h.p.mv.length h.b.best.length,cmpI h.p.dur h.b.total,cmpMs h.p.mv h.b.best]
theorem fnd_f {h:Hs} (q:(!h.b.found)=true):h.b.found=false:=by simpa using q
set_option maxRecDepth 100000 in
theorem cn_keeps:Keeps cfgCn Tryd.f54 cnC noIv:=Eq.mp (show((∀ x1:Hs,((HsOk x1)->(∃ x3:Hs,((HsOk x3)/\(((0=0/\0=0)/\True)/\((((0=0/\x1.x.us.length=x3.x.us.length)/\((0=0/\x1.x.tg.length=x3.x.tg.length)/\(True/\((0=0/\x1.p.nd.length=x3.p.nd.length)/\((0=0/\x1.p.mv.length=x3.p.mv.length)/\(x1.p.dur=x3.p.dur/\(x1.b.found=x3.b.found/\((0=0/\x1.b.best.length=x3.b.best.length)/\(x1.b.worst=x3.b.worst/\(x1.b.total=x3.b.total/\True))))))))))/\(((RLe x3.p.nd.length x1.p.nd.length)/\(RI x3.p.nd.length x1.p.nd x3.p.nd))/\(((RLe x3.p.mv.length x1.p.mv.length)/\(RowsEq [.int .i64,.int .i64] x3.p.mv.length (encL encM x1.p.mv) (encL encM x3.p.mv)))/\(((RLe x3.b.best.length x1.b.best.length)/\(RowsEq [.int .i64,.int .i64] x3.b.best.length (encL encM x1.b.best) (encL encM x3.b.best)))/\(((RLe x3.x.us.length x1.x.us.length)/\(RowsEq [.int .i64,.int .i64,.int .i64,.int .i64,.int .i64,.int .i64,.int .i64,.int .i64,.int .i64,.int .i64] x3.x.us.length (encL encU x1.x.us) (encL encU x3.x.us)))/\(((RLe x3.x.tg.length x1.x.tg.length)/\(RI x3.x.tg.length x1.x.tg x3.x.tg))/\((MapEq [.sl [.int .i64]] x1.ks x3.ks (dsR x1.x) (dsR x3.x))/\True)))))))/\(∃ x4:I2x,(True/\(((waitF x3.x x3.p.nd=x4.a)/\(x1.b.worst=x4.b/\True))/\(True/\(∃ x5:I2x,(True/\((((x1.p.mv.length:Int)=x5.a)/\(((x1.b.best.length:Int)=x5.b)/\True))/\(True/\(∃ x6:I2x,(True/\((x1.p.dur=x6.a/\(x1.b.total=x6.b/\True))/\(True/\(∃ x7:MLx,((x7.a.length<=(100:Nat))/\(((0=0/\x1.p.mv.length=x7.a.length)/\((0=0/\x1.b.best.length=x7.b.length)/\True))/\((((RLe x7.a.length x1.p.mv.length)/\(RowsEq [.int .i64,.int .i64] x7.a.length (encL encM x1.p.mv) (encL encM x7.a)))/\(((RLe x7.b.length x1.b.best.length)/\(RowsEq [.int .i64,.int .i64] x7.b.length (encL encM x1.b.best) (encL encM x7.b)))/\True))/\(((True/\True)/\((True/\True)/\((True/\True)/\((True/\True)/\True))))/\(∃ x8:List Int,((x8.length<=(100:Nat))/\(((0=0/\((4:Nat)=x8.length))/\True)/\((((RLe x8.length 4)/\(RowsEq [.int .i64] x8.length (litRows ((D.i (cmpI x4.a x4.b)::@List.nil D)::(D.i (cmpI x5.a x5.b)::@List.nil D)::(D.i (cmpI x6.a x6.b)::@List.nil D)::(D.i (cmpMs x7.a x7.b)::@List.nil D)::@List.nil (List D))) (encL encI x8)))/\True)/\((((!x1.b.found)=false)->(((decide (orF x8<0)=true)->(∃ x11:RX,((x11.n<=(1073741824:Nat))/\(((0=0/\x1.p.mv.length=x11.n)/\True)/\((((RLe x11.n x1.p.mv.length)/\(RowsEq [.int .i64,.int .i64] x11.n (encL encM x1.p.mv) x11.f))/\True)/\(True/\(((0=0/\(x1.x.us.length=(Hs.upd x1 (cnF x1.x x1.p x1.b)).x.us.length))/\((0=0/\(x1.x.tg.length=(Hs.upd x1 (cnF x1.x x1.p x1.b)).x.tg.length))/\(True/\((0=0/\(x1.p.nd.length=(Hs.upd x1 (cnF x1.x x1.p x1.b)).p.nd.length))/\((0=0/\(x1.p.mv.length=(Hs.upd x1 (cnF x1.x x1.p x1.b)).p.mv.length))/\((x1.p.dur=(Hs.upd x1 (cnF x1.x x1.p x1.b)).p.dur)/\((true=(Hs.upd x1 (cnF x1.x x1.p x1.b)).b.found)/\((0=0/\(x11.n=(Hs.upd x1 (cnF x1.x x1.p x1.b)).b.best.length))/\((waitF x3.x x3.p.nd=(Hs.upd x1 (cnF x1.x x1.p x1.b)).b.worst)/\((x1.p.dur=(Hs.upd x1 (cnF x1.x x1.p x1.b)).b.total)/\True))))))))))/\(((RLe (Hs.upd x1 (cnF x1.x x1.p x1.b)).p.nd.length x1.p.nd.length)/\(RowsEq [.int .i64] (Hs.upd x1 (cnF x1.x x1.p x1.b)).p.nd.length (encL encI x1.p.nd) (encL encI (Hs.upd x1 (cnF x1.x x1.p x1.b)).p.nd)))/\(((RLe (Hs.upd x1 (cnF x1.x x1.p x1.b)).p.mv.length x1.p.mv.length)/\(RowsEq [.int .i64,.int .i64] (Hs.upd x1 (cnF x1.x x1.p x1.b)).p.mv.length (encL encM x1.p.mv) (encL encM (Hs.upd x1 (cnF x1.x x1.p x1.b)).p.mv)))/\(((RLe (Hs.upd x1 (cnF x1.x x1.p x1.b)).b.best.length x11.n)/\(RowsEq [.int .i64,.int .i64] (Hs.upd x1 (cnF x1.x x1.p x1.b)).b.best.length x11.f (encL encM (Hs.upd x1 (cnF x1.x x1.p x1.b)).b.best)))/\(True/\True)))))))))))/\((decide (orF x8<0)=false)->(True/\(((0=0/\(x1.x.us.length=(Hs.upd x1 (cnF x1.x x1.p x1.b)).x.us.length))/\((0=0/\(x1.x.tg.length=(Hs.upd x1 (cnF x1.x x1.p x1.b)).x.tg.length))/\(True/\((0=0/\(x1.p.nd.length=(Hs.upd x1 (cnF x1.x x1.p x1.b)).p.nd.length))/\((0=0/\(x1.p.mv.length=(Hs.upd x1 (cnF x1.x x1.p x1.b)).p.mv.length))/\((x1.p.dur=(Hs.upd x1 (cnF x1.x x1.p x1.b)).p.dur)/\((x1.b.found=(Hs.upd x1 (cnF x1.x x1.p x1.b)).b.found)/\((0=0/\(x1.b.best.length=(Hs.upd x1 (cnF x1.x x1.p x1.b)).b.best.length))/\((x1.b.worst=(Hs.upd x1 (cnF x1.x x1.p x1.b)).b.worst)/\((x1.b.total=(Hs.upd x1 (cnF x1.x x1.p x1.b)).b.total)/\True))))))))))/\(((RLe (Hs.upd x1 (cnF x1.x x1.p x1.b)).p.nd.length x1.p.nd.length)/\(RowsEq [.int .i64] (Hs.upd x1 (cnF x1.x x1.p x1.b)).p.nd.length (encL encI x1.p.nd) (encL encI (Hs.upd x1 (cnF x1.x x1.p x1.b)).p.nd)))/\(((RLe (Hs.upd x1 (cnF x1.x x1.p x1.b)).p.mv.length x1.p.mv.length)/\(RowsEq [.int .i64,.int .i64] (Hs.upd x1 (cnF x1.x x1.p x1.b)).p.mv.length (encL encM x1.p.mv) (encL encM (Hs.upd x1 (cnF x1.x x1.p x1.b)).p.mv)))/\(((RLe (Hs.upd x1 (cnF x1.x x1.p x1.b)).b.best.length x1.b.best.length)/\(RowsEq [.int .i64,.int .i64] (Hs.upd x1 (cnF x1.x x1.p x1.b)).b.best.length (encL encM x1.b.best) (encL encM (Hs.upd x1 (cnF x1.x x1.p x1.b)).b.best)))/\(True/\True)))))))))/\(((!x1.b.found)=true)->(∃ x14:RX,((x14.n<=(1073741824:Nat))/\(((0=0/\x1.p.mv.length=x14.n)/\True)/\((((RLe x14.n x1.p.mv.length)/\(RowsEq [.int .i64,.int .i64] x14.n (encL encM x1.p.mv) x14.f))/\True)/\(True/\(((0=0/\(x1.x.us.length=(Hs.upd x1 (cnF x1.x x1.p x1.b)).x.us.length))/\((0=0/\(x1.x.tg.length=(Hs.upd x1 (cnF x1.x x1.p x1.b)).x.tg.length))/\(True/\((0=0/\(x1.p.nd.length=(Hs.upd x1 (cnF x1.x x1.p x1.b)).p.nd.length))/\((0=0/\(x1.p.mv.length=(Hs.upd x1 (cnF x1.x x1.p x1.b)).p.mv.length))/\((x1.p.dur=(Hs.upd x1 (cnF x1.x x1.p x1.b)).p.dur)/\((true=(Hs.upd x1 (cnF x1.x x1.p x1.b)).b.found)/\((0=0/\(x14.n=(Hs.upd x1 (cnF x1.x x1.p x1.b)).b.best.length))/\((waitF x3.x x3.p.nd=(Hs.upd x1 (cnF x1.x x1.p x1.b)).b.worst)/\((x1.p.dur=(Hs.upd x1 (cnF x1.x x1.p x1.b)).b.total)/\True))))))))))/\(((RLe (Hs.upd x1 (cnF x1.x x1.p x1.b)).p.nd.length x1.p.nd.length)/\(RowsEq [.int .i64] (Hs.upd x1 (cnF x1.x x1.p x1.b)).p.nd.length (encL encI x1.p.nd) (encL encI (Hs.upd x1 (cnF x1.x x1.p x1.b)).p.nd)))/\(((RLe (Hs.upd x1 (cnF x1.x x1.p x1.b)).p.mv.length x1.p.mv.length)/\(RowsEq [.int .i64,.int .i64] (Hs.upd x1 (cnF x1.x x1.p x1.b)).p.mv.length (encL encM x1.p.mv) (encL encM (Hs.upd x1 (cnF x1.x x1.p x1.b)).p.mv)))/\(((RLe (Hs.upd x1 (cnF x1.x x1.p x1.b)).b.best.length x14.n)/\(RowsEq [.int .i64,.int .i64] (Hs.upd x1 (cnF x1.x x1.p x1.b)).b.best.length x14.f (encL encM (Hs.upd x1 (cnF x1.x x1.p x1.b)).b.best)))/\(True/\True))))))))))))))))))))))))))))))))))))))))=(Keeps cfgCn Tryd.f54 cnC noIv) by kernel_rfl) (fun x1=>fun h2=>⟨(x1),
(by(try dsimp only at *);omega),
⟨⟨rfl,rfl⟩,trivial⟩,
⟨⟨⟨rfl,rfl⟩,
⟨rfl,rfl⟩,trivial,
⟨rfl,rfl⟩,
⟨rfl,rfl⟩,rfl,rfl,
⟨rfl,rfl⟩,rfl,rfl,trivial⟩,
⟨rl,rr⟩,
⟨rl,rr⟩,
⟨rl,rr⟩,
⟨rl,rr⟩,
⟨rl,rr⟩,MapEq.rfl',trivial⟩,
({ a:=waitF (Hs.x x1) (Pos.nd (Hs.p x1)),b:=Bst.worst (Hs.b x1):I2x }),trivial,
⟨rfl,rfl,trivial⟩,trivial,
({ a:=(↑(List.length (Pos.mv (Hs.p x1))):Int),b:=(↑(List.length (Bst.best (Hs.b x1))):Int):I2x }),trivial,
⟨rfl,rfl,trivial⟩,trivial,
({ a:=Pos.dur (Hs.p x1),b:=Bst.total (Hs.b x1):I2x }),trivial,
⟨rfl,rfl,trivial⟩,trivial,
({ a:=Pos.mv (Hs.p x1),b:=Bst.best (Hs.b x1):MLx }),
(by(try dsimp only at *);(have:=h2.mv;show x1.p.mv.length<=_;omega)),
⟨⟨rfl,rfl⟩,
⟨rfl,rfl⟩,trivial⟩,
⟨⟨rl,rr⟩,
⟨rl,rr⟩,trivial⟩,
⟨⟨trivial,trivial⟩,
⟨trivial,trivial⟩,
⟨trivial,trivial⟩,
⟨trivial,trivial⟩,trivial⟩,
(orL x1),
(by(try dsimp only at *);exact Nat.le_of_ble_eq_true rfl),
⟨⟨rfl,
(by(try dsimp only at *);rfl)⟩,trivial⟩,
⟨⟨⟨(by(try dsimp only at *);exact Nat.le_refl _)⟩,
(by(try dsimp only at *);exact litI rfl)⟩,trivial⟩,
fun h9=>⟨fun g10=>have h10:=dT g10;⟨({ n:=List.length (Pos.mv (Hs.p x1)),f:=encL encM (Pos.mv (Hs.p x1)):RX }),
(by(try dsimp only at *);(have:=h2.mv;show x1.p.mv.length<=_;omega)),
⟨⟨rfl,rfl⟩,trivial⟩,
⟨⟨rl,rr⟩,trivial⟩,trivial,
⟨⟨rfl,
(by(try dsimp only at *);rfl)⟩,
⟨rfl,
(by(try dsimp only at *);rfl)⟩,trivial,
⟨rfl,
(by(try dsimp only at *);rfl)⟩,
⟨rfl,
(by(try dsimp only at *);rfl)⟩,
(by(try dsimp only at *);rfl),
(by(try dsimp only at *);(rw[show x1.upd (cnF x1.x x1.p x1.b)=x1.upd _ from congrArg x1.upd (cn_y (.inr h10))];rfl)),
⟨rfl,
(by(try dsimp only at *);(rw[show x1.upd (cnF x1.x x1.p x1.b)=x1.upd _ from congrArg x1.upd (cn_y (.inr h10))];rfl))⟩,
(by(try dsimp only at *);(rw[show x1.upd (cnF x1.x x1.p x1.b)=x1.upd _ from congrArg x1.upd (cn_y (.inr h10))];rfl)),
(by(try dsimp only at *);(rw[show x1.upd (cnF x1.x x1.p x1.b)=x1.upd _ from congrArg x1.upd (cn_y (.inr h10))];rfl)),trivial⟩,
⟨⟨(by(try dsimp only at *);exact Nat.le_refl _)⟩,
(by(try dsimp only at *);exact rr)⟩,
⟨⟨(by(try dsimp only at *);exact Nat.le_refl _)⟩,
(by(try dsimp only at *);exact rr)⟩,
⟨⟨(by(try dsimp only at *);(rw[show x1.upd (cnF x1.x x1.p x1.b)=x1.upd _ from congrArg x1.upd (cn_y (.inr h10))];exact Nat.le_refl _))⟩,
(by(try dsimp only at *);(rw[show x1.upd (cnF x1.x x1.p x1.b)=x1.upd _ from congrArg x1.upd (cn_y (.inr h10))];exact rr))⟩,trivial,trivial⟩,
fun g12=>have h12:=dF g12;⟨trivial,
⟨⟨rfl,
(by(try dsimp only at *);rfl)⟩,
⟨rfl,
(by(try dsimp only at *);rfl)⟩,trivial,
⟨rfl,
(by(try dsimp only at *);rfl)⟩,
⟨rfl,
(by(try dsimp only at *);rfl)⟩,
(by(try dsimp only at *);rfl),
(by(try dsimp only at *);(rw[show x1.upd (cnF x1.x x1.p x1.b)=x1.upd _ from congrArg x1.upd (cn_n h9 h12)];rfl)),
⟨rfl,
(by(try dsimp only at *);(rw[show x1.upd (cnF x1.x x1.p x1.b)=x1.upd _ from congrArg x1.upd (cn_n h9 h12)];rfl))⟩,
(by(try dsimp only at *);(rw[show x1.upd (cnF x1.x x1.p x1.b)=x1.upd _ from congrArg x1.upd (cn_n h9 h12)];rfl)),
(by(try dsimp only at *);(rw[show x1.upd (cnF x1.x x1.p x1.b)=x1.upd _ from congrArg x1.upd (cn_n h9 h12)];rfl)),trivial⟩,
⟨⟨(by(try dsimp only at *);exact Nat.le_refl _)⟩,
(by(try dsimp only at *);exact rr)⟩,
⟨⟨(by(try dsimp only at *);exact Nat.le_refl _)⟩,
(by(try dsimp only at *);exact rr)⟩,
⟨⟨(by(try dsimp only at *);(rw[show x1.upd (cnF x1.x x1.p x1.b)=x1.upd _ from congrArg x1.upd (cn_n h9 h12)];exact Nat.le_refl _))⟩,
(by(try dsimp only at *);(rw[show x1.upd (cnF x1.x x1.p x1.b)=x1.upd _ from congrArg x1.upd (cn_n h9 h12)];exact rr))⟩,trivial,trivial⟩⟩,
fun h13=>⟨({ n:=List.length (Pos.mv (Hs.p x1)),f:=encL encM (Pos.mv (Hs.p x1)):RX }),
(by(try dsimp only at *);(have:=h2.mv;show x1.p.mv.length<=_;omega)),
⟨⟨rfl,rfl⟩,trivial⟩,
⟨⟨rl,rr⟩,trivial⟩,trivial,
⟨⟨rfl,
(by(try dsimp only at *);rfl)⟩,
⟨rfl,
(by(try dsimp only at *);rfl)⟩,trivial,
⟨rfl,
(by(try dsimp only at *);rfl)⟩,
⟨rfl,
(by(try dsimp only at *);rfl)⟩,
(by(try dsimp only at *);rfl),
(by(try dsimp only at *);(rw[show x1.upd (cnF x1.x x1.p x1.b)=x1.upd _ from congrArg x1.upd (cn_y (.inl (fnd_f h13)))];rfl)),
⟨rfl,
(by(try dsimp only at *);(rw[show x1.upd (cnF x1.x x1.p x1.b)=x1.upd _ from congrArg x1.upd (cn_y (.inl (fnd_f h13)))];rfl))⟩,
(by(try dsimp only at *);(rw[show x1.upd (cnF x1.x x1.p x1.b)=x1.upd _ from congrArg x1.upd (cn_y (.inl (fnd_f h13)))];rfl)),
(by(try dsimp only at *);(rw[show x1.upd (cnF x1.x x1.p x1.b)=x1.upd _ from congrArg x1.upd (cn_y (.inl (fnd_f h13)))];rfl)),trivial⟩,
⟨⟨(by(try dsimp only at *);exact Nat.le_refl _)⟩,
(by(try dsimp only at *);exact rr)⟩,
⟨⟨(by(try dsimp only at *);exact Nat.le_refl _)⟩,
(by(try dsimp only at *);exact rr)⟩,
⟨⟨(by(try dsimp only at *);(rw[show x1.upd (cnF x1.x x1.p x1.b)=x1.upd _ from congrArg x1.upd (cn_y (.inl (fnd_f h13)))];exact Nat.le_refl _))⟩,
(by(try dsimp only at *);(rw[show x1.upd (cnF x1.x x1.p x1.b)=x1.upd _ from congrArg x1.upd (cn_y (.inl (fnd_f h13)))];exact rr))⟩,trivial,trivial⟩⟩)
theorem cn_good:Good Tryd.prog 54 cnC/\FnOk Tryd.prog 54:=good_of tok conCn (fn:=Tryd.f54) rfl (by decide+kernel) (fun _=>rfl) cn_keeps
end Go.Sym