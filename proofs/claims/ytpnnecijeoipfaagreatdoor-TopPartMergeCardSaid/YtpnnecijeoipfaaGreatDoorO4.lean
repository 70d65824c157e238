import Derived.Test.YtpnnecijeoipfaaGreatDoorO3
import Derived.Test.YtpnnecijeoipfaaGreatDoorXD
namespace Go.Sym
set_option linter.unusedVariables false
set_option linter.unusedSimpArgs false
open Go.Proofs
set_option maxRecDepth 100000
set_option maxHeartbeats 4000000
structure ICx where
 x:Ic
 c:CR
def fiC:CT where
 X:=ICx
 pre:=fun q=>q.c.nodes.length<=4096
 args:=fun q=>[.p 100000 0 0,crV q.c 100010]
 g0:=fun q=>[(100000,.one .own [.i .i64 q.x.id,.i .i64 q.x.urg,.s q.x.code,.u,.i .i64 0,.i .i64 0,.u,.sl 100003 0 q.x.units.length,.i .i64 q.x.merged,.b q.x.closed]),(100003,.rows .bor k1 q.x.units.length (encL encI q.x.units))]++crH q.c .bor 100010
 res:=fun _=>.tup []
 g1:=fun q=>[(100000,.one .own [.i .i64 q.x.id,.i .i64 q.c.urg,.s q.c.code,.sl 1 0 q.c.nodes.length,.i .i64 0,.i .i64 0,.sl 2 0 1,.sl 100003 0 q.x.units.length,.i .i64 q.x.merged,.b q.x.closed]),
  (1,.rows .own k1 q.c.nodes.length (encL encI q.c.nodes)),(2,.rows .own k1 1 (encL encI [q.c.call]))]
def cfgFi:Cfg:=⟨T,[],[(30,.one (cloneC k1))],noInv,20,{}⟩
theorem conFi:ConOk Tryz.prog cfgFi:=ConL.ok (.cons (ConL.one cloneI_good) .nil)
theorem lit1 (a:Int):RowsEq k1 1 (litRows [[.i a]]) (encL encI [a]):=
 ⟨fun r hr => by obtain rfl : r = 0 := by omega
                 exact⟨rfl,trivial⟩⟩
set_option maxRecDepth 100000 in
theorem fi_keeps:Keeps cfgFi Tryz.f48 fiC noIv:=Eq.mp (show((∀ x1:ICx,((x1.c.nodes.length<=(4096:Nat))->(∃ x3:RX,((x3.n<=(1073741824:Nat))/\(((0=0/\x1.c.nodes.length=x3.n)/\True)/\((((RLe x3.n x1.c.nodes.length)/\(RowsEq [.int .i64] x3.n (encL encI x1.c.nodes) x3.f))/\True)/\(((True/\True)/\True)/\(True/\((x1.x.id=x1.x.id/\(x1.c.urg=x1.c.urg/\(x1.c.code=x1.c.code/\((0=0/\x3.n=x1.c.nodes.length)/\(((0:Int)=0)/\(((0:Int)=0)/\((0=0/\((1:Nat)=(1:Nat)))/\((0=0/\x1.x.units.length=x1.x.units.length)/\(x1.x.merged=x1.x.merged/\(x1.x.closed=x1.x.closed/\True))))))))))/\(((RLe x1.c.nodes.length x3.n)/\(RowsEq [.int .i64] x1.c.nodes.length x3.f (encL encI x1.c.nodes)))/\((RLe 1 1/\(RowsEq [.int .i64] 1 (litRows ((D.i x1.c.call::@List.nil D)::@List.nil (List D))) (encL encI (x1.c.call::@List.nil Int))))/\True))))))))))))=(Keeps cfgFi Tryz.f48 fiC noIv) by kernel_rfl) (fun x1=>fun h2=>⟨({ n:=List.length (CR.nodes (ICx.c x1)),f:=encL encI (CR.nodes (ICx.c x1)):RX }),
(by(try dsimp only at *);omega),
⟨⟨rfl,rfl⟩,trivial⟩,
⟨⟨rl,rr⟩,trivial⟩,
⟨⟨trivial,trivial⟩,trivial⟩,trivial,
⟨rfl,rfl,rfl,
⟨rfl,rfl⟩,rfl,rfl,
⟨rfl,rfl⟩,
⟨rfl,rfl⟩,rfl,rfl,trivial⟩,
⟨rl,rr⟩,
⟨rl,
(by(try dsimp only at *);exact lit1 _)⟩,trivial⟩)
theorem fi_good:Good Tryz.prog 48 fiC/\FnOk Tryz.prog 48:=good_of tok conFi (fn:=Tryz.f48) rfl (by decide+kernel) (fun _=>rfl) fi_keeps
def fiNC:CT where
 X:=ICx
 pre:=fun q=>q.c.nodes.length<=4096
 args:=fun q=>[.p 100000 0 0,crV q.c 100010]
 g0:=fun q=>[(100000,.one .own [.i .i64 q.x.id,.i .i64 q.x.urg,.s q.x.code,.u,.i .i64 0,.i .i64 0,.u,.ns,.i .i64 q.x.merged,.b q.x.closed])]++crH q.c .bor 100010
 res:=fun _=>.tup []
 g1:=fun q=>[(100000,.one .own [.i .i64 q.x.id,.i .i64 q.c.urg,.s q.c.code,.sl 1 0 q.c.nodes.length,.i .i64 0,.i .i64 0,.sl 2 0 1,.ns,.i .i64 q.x.merged,.b q.x.closed]),
  (1,.rows .own k1 q.c.nodes.length (encL encI q.c.nodes)),(2,.rows .own k1 1 (encL encI [q.c.call]))]
set_option maxRecDepth 100000 in
theorem fiN_keeps:Keeps cfgFi Tryz.f48 fiNC noIv:=Eq.mp (show((∀ x1:ICx,((x1.c.nodes.length<=(4096:Nat))->(∃ x3:RX,((x3.n<=(1073741824:Nat))/\(((0=0/\x1.c.nodes.length=x3.n)/\True)/\((((RLe x3.n x1.c.nodes.length)/\(RowsEq [.int .i64] x3.n (encL encI x1.c.nodes) x3.f))/\True)/\(((True/\True)/\True)/\(True/\((x1.x.id=x1.x.id/\(x1.c.urg=x1.c.urg/\(x1.c.code=x1.c.code/\((0=0/\x3.n=x1.c.nodes.length)/\(((0:Int)=0)/\(((0:Int)=0)/\((0=0/\((1:Nat)=(1:Nat)))/\(True/\(x1.x.merged=x1.x.merged/\(x1.x.closed=x1.x.closed/\True))))))))))/\(((RLe x1.c.nodes.length x3.n)/\(RowsEq [.int .i64] x1.c.nodes.length x3.f (encL encI x1.c.nodes)))/\((RLe 1 1/\(RowsEq [.int .i64] 1 (litRows ((D.i x1.c.call::@List.nil D)::@List.nil (List D))) (encL encI (x1.c.call::@List.nil Int))))/\True))))))))))))=(Keeps cfgFi Tryz.f48 fiNC noIv) by kernel_rfl) (fun x1=>fun h2=>⟨({ n:=List.length (CR.nodes (ICx.c x1)),f:=encL encI (CR.nodes (ICx.c x1)):RX }),
(by(try dsimp only at *);omega),
⟨⟨rfl,rfl⟩,trivial⟩,
⟨⟨rl,rr⟩,trivial⟩,
⟨⟨trivial,trivial⟩,trivial⟩,trivial,
⟨rfl,rfl,rfl,
⟨rfl,rfl⟩,rfl,rfl,
⟨rfl,rfl⟩,trivial,rfl,rfl,trivial⟩,
⟨rl,rr⟩,
⟨rl,
(by(try dsimp only at *);exact lit1 _)⟩,trivial⟩)
theorem fiN_good:Good Tryz.prog 48 fiNC/\FnOk Tryz.prog 48:=good_of tok conFi (fn:=Tryz.f48) rfl (by decide+kernel) (fun _=>rfl) fiN_keeps
def fuC:CT where
 X:=ICx
 pre:=fun q=>q.c.nodes.length<=4096/\q.x.nodes.length<=4096/\q.x.calls.length<=1000
 args:=fun q=>[.p 100000 0 0,crV q.c 100010]
 g0:=fun q=>[(100000,.one .own (icL q.x 100001)),(100001,.rows .own k1 q.x.nodes.length (encL encI q.x.nodes)),(100002,.rows .own k1 q.x.calls.length (encL encI q.x.calls)),(100003,.rows .bor k1 q.x.units.length (encL encI q.x.units))]++crH q.c .bor 100010
 res:=fun _=>.tup []
 g1:=fun q=>[(100000,.one .own [.i .i64 q.x.id,.i .i64 (furI q.x q.c).urg,.s (furI q.x q.c).code,.sl 1 0 (furI q.x q.c).nodes.length,.i .i64 0,.i .i64 0,.sl 2 0 (furI q.x q.c).calls.length,.sl 100003 0 q.x.units.length,.i .i64 q.x.merged,.b q.x.closed]),
  (100001,.dead),(100002,.dead),(1,.rows .own k1 (furI q.x q.c).nodes.length (encL encI (furI q.x q.c).nodes)),(2,.rows .own k1 (furI q.x q.c).calls.length (encL encI (furI q.x q.c).calls))]
def cfgFu:Cfg:=⟨T,[],[(91,.one ofC),(92,.one bothC),(93,.one listC)],noInv,20,{}⟩
theorem conFu:ConOk Tryz.prog cfgFu:=ConL.ok (.cons (ConL.one of_good) (.cons (ConL.one both_good) (.cons (ConL.one list_good) .nil)))
theorem fur_urg {x:Ic} {c:CR} (h:c.urg<x.urg):(furI x c).urg=c.urg/\(furI x c).code=c.code:=⟨if_pos h,if_pos h⟩
theorem fur_urgN {x:Ic} {c:CR} (h:¬ c.urg<x.urg):(furI x c).urg=x.urg/\(furI x c).code=x.code:=⟨if_neg h,if_neg h⟩
theorem com_len (a b:List Int):(elemsW (bothW (ofW a a.length) (ofW b b.length))).length=(comN a b).length:=(elemsZ_len _).symm
theorem fur_nd {x:Ic} {c:CR} (h:(0:Int)<(elemsW (bothW (ofW x.nodes x.nodes.length) (ofW c.nodes c.nodes.length))).length):(furI x c).nodes=comN x.nodes c.nodes:=if_pos (by rw[com_len]at h;omega)
theorem fur_ndN {x:Ic} {c:CR} (h:¬ (0:Int)<(elemsW (bothW (ofW x.nodes x.nodes.length) (ofW c.nodes c.nodes.length))).length):(furI x c).nodes=x.nodes:=if_neg (by rw[com_len]at h;omega)
theorem fur_calls (x:Ic) (c:CR):(furI x c).calls=x.calls++[c.call]:=rfl
theorem push1 {l:List Int} {a:Int} {k:Nat} (hk:k<=l.length+1):RowsEq k1 k (appRows l.length (encL encI l) 0 (litRows [[.i a]])) (encL encI (l++[a])):=rowsEq_push rfl hk ⟨rfl,trivial⟩
def fuI (q:ICx) (id:Nat):Option Inv:=match id with
 |300011=>some { X:=Unit,ok:=fun _=>True,fr:=fun _=>[],hp:=fun _=>[(100000,.one .own [.i .i64 q.x.id,.i .i64 (furI q.x q.c).urg,.s (furI q.x q.c).code,.sl 100001 0 q.x.nodes.length,.i .i64 0,.i .i64 0,.sl 100002 0 q.x.calls.length,.sl 100003 0 q.x.units.length,.i .i64 q.x.merged,.b q.x.closed])],me:=fun _=>0 }
 |_=>none
set_option maxRecDepth 100000 in
theorem fu_keeps:Keeps cfgFu Tryz.f68 fuC fuI:=Eq.mp (show((∀ x1:ICx,((x1.c.nodes.length<=(4096:Nat)/\x1.x.nodes.length<=(4096:Nat)/\x1.x.calls.length<=(1000:Nat))->((((decide (x1.c.urg<x1.x.urg)=true)->(∃ x4:Unit,(True/\(((decide (x1.c.urg<x1.x.urg)=decide (x1.c.urg<x1.x.urg))/\(x1.x.urg=x1.x.urg/\((0=0/\((1:Nat)=(1:Nat)))/\((0=0/\0=0)/\((0=0/\0=0)/\(x1.c.urg=x1.c.urg/\((0=0/\((2:Nat)=(2:Nat)))/\((0=0/\0=0)/\((0=0/\0=0)/\((x1.c.call=x1.c.call/\(x1.c.inc=x1.c.inc/\(x1.c.urg=x1.c.urg/\(x1.c.code=x1.c.code/\((0=0/\x1.c.nodes.length=x1.c.nodes.length)/\(((0:Int)=0)/\(((0:Int)=0)/\(x1.c.closed=x1.c.closed/\True))))))))/\True))))))))))/\((x1.x.id=x1.x.id/\((x1.c.urg=(furI x1.x x1.c).urg)/\((x1.c.code=(furI x1.x x1.c).code)/\((0=0/\x1.x.nodes.length=x1.x.nodes.length)/\(((0:Int)=0)/\(((0:Int)=0)/\((0=0/\x1.x.calls.length=x1.x.calls.length)/\((0=0/\x1.x.units.length=x1.x.units.length)/\(x1.x.merged=x1.x.merged/\(x1.x.closed=x1.x.closed/\True))))))))))/\((x1.c.call=x1.c.call/\(x1.c.inc=x1.c.inc/\(x1.c.urg=x1.c.urg/\(x1.c.code=x1.c.code/\((0=0/\x1.c.nodes.length=x1.c.nodes.length)/\(((0:Int)=0)/\(((0:Int)=0)/\(x1.c.closed=x1.c.closed/\True))))))))/\(((RLe x1.x.nodes.length x1.x.nodes.length)/\(RI x1.x.nodes.length x1.x.nodes x1.x.nodes))/\(((RLe x1.x.calls.length x1.x.calls.length)/\(RI x1.x.calls.length x1.x.calls x1.x.calls))/\(((RLe x1.x.units.length x1.x.units.length)/\(RI x1.x.units.length x1.x.units x1.x.units))/\(((RLe x1.c.nodes.length x1.c.nodes.length)/\(RI x1.c.nodes.length x1.c.nodes x1.c.nodes))/\True))))))))))/\((decide (x1.c.urg<x1.x.urg)=false)->(∃ x6:Unit,(True/\(((decide (x1.c.urg<x1.x.urg)=decide (x1.c.urg<x1.x.urg))/\(x1.x.urg=x1.x.urg/\((0=0/\((1:Nat)=(1:Nat)))/\((0=0/\0=0)/\((0=0/\0=0)/\(x1.c.urg=x1.c.urg/\((0=0/\((2:Nat)=(2:Nat)))/\((0=0/\0=0)/\((0=0/\0=0)/\((x1.c.call=x1.c.call/\(x1.c.inc=x1.c.inc/\(x1.c.urg=x1.c.urg/\(x1.c.code=x1.c.code/\((0=0/\x1.c.nodes.length=x1.c.nodes.length)/\(((0:Int)=0)/\(((0:Int)=0)/\(x1.c.closed=x1.c.closed/\True))))))))/\True))))))))))/\((x1.x.id=x1.x.id/\((x1.x.urg=(furI x1.x x1.c).urg)/\((x1.x.code=(furI x1.x x1.c).code)/\((0=0/\x1.x.nodes.length=x1.x.nodes.length)/\(((0:Int)=0)/\(((0:Int)=0)/\((0=0/\x1.x.calls.length=x1.x.calls.length)/\((0=0/\x1.x.units.length=x1.x.units.length)/\(x1.x.merged=x1.x.merged/\(x1.x.closed=x1.x.closed/\True))))))))))/\((x1.c.call=x1.c.call/\(x1.c.inc=x1.c.inc/\(x1.c.urg=x1.c.urg/\(x1.c.code=x1.c.code/\((0=0/\x1.c.nodes.length=x1.c.nodes.length)/\(((0:Int)=0)/\(((0:Int)=0)/\(x1.c.closed=x1.c.closed/\True))))))))/\(((RLe x1.x.nodes.length x1.x.nodes.length)/\(RI x1.x.nodes.length x1.x.nodes x1.x.nodes))/\(((RLe x1.x.calls.length x1.x.calls.length)/\(RI x1.x.calls.length x1.x.calls x1.x.calls))/\(((RLe x1.x.units.length x1.x.units.length)/\(RI x1.x.units.length x1.x.units x1.x.units))/\(((RLe x1.c.nodes.length x1.c.nodes.length)/\(RI x1.c.nodes.length x1.c.nodes x1.c.nodes))/\True)))))))))))/\(∀ y7:Unit,(True->(∃ x9:List Int,((x9.length<=(1048576:Nat))/\(((0=0/\x1.x.nodes.length=x9.length)/\True)/\((((RLe x9.length x1.x.nodes.length)/\(RI x9.length x1.x.nodes x9))/\True)/\(∃ x10:List Int,((x10.length<=(1048576:Nat))/\(((0=0/\x1.c.nodes.length=x10.length)/\True)/\((((RLe x10.length x1.c.nodes.length)/\(RI x10.length x1.c.nodes x10))/\True)/\(∃ x11:TwoX,(((WOk x11.a)/\(WOk x11.b))/\((((szW (ofW x9 x9.length)=szW x11.a)/\True)/\(((szW (ofW x10 x10.length)=szW x11.b)/\True)/\True))/\((((RLe (szW x11.a) (szW (ofW x9 x9.length)))/\(RowsEq [.int .u64] (szW x11.a) (encL encW (ofW x9 x9.length)) (encL encW x11.a)))/\(((RLe (szW x11.b) (szW (ofW x10 x10.length)))/\(RowsEq [.int .u64] (szW x11.b) (encL encW (ofW x10 x10.length)) (encL encW x11.b)))/\True))/\(∃ x12:List Nat,((WOk x12)/\((((szW (bothW x11.a x11.b)=szW x12)/\True)/\True)/\((((RLe (szW x12) (szW (bothW x11.a x11.b)))/\(RowsEq [.int .u64] (szW x12) (encL encW (bothW x11.a x11.b)) (encL encW x12)))/\True)/\(((decide (0<(↑(elemsW x12).length:Int))=true)->(((True/\True)/\True)/\((0=0/\((x1.x.calls.length<=x1.x.calls.length)/\(((1:Nat)<=(1:Nat))/\(x1.x.calls.length+(1:Nat)<=(1073741824:Nat)))))/\(True/\((x1.x.id=x1.x.id/\(((furI x1.x x1.c).urg=(furI x1.x x1.c).urg)/\(((furI x1.x x1.c).code=(furI x1.x x1.c).code)/\((0=0/\((elemsW x12).length=(furI x1.x x1.c).nodes.length))/\(((0:Int)=0)/\((min (0:Int) (0:Int)=0)/\((0=0/\(x1.x.calls.length+(1:Nat)=(furI x1.x x1.c).calls.length))/\((0=0/\x1.x.units.length=x1.x.units.length)/\(x1.x.merged=x1.x.merged/\(x1.x.closed=x1.x.closed/\True))))))))))/\(True/\(True/\(((RLe (furI x1.x x1.c).nodes.length (elemsW x12).length)/\(RowsEq [.int .i64] (furI x1.x x1.c).nodes.length (encL encI (elemsZ x12)) (encL encI (furI x1.x x1.c).nodes)))/\(((RLe (furI x1.x x1.c).calls.length (x1.x.calls.length+(1:Nat)))/\(RowsEq [.int .i64] (furI x1.x x1.c).calls.length (appRows x1.x.calls.length (encL encI x1.x.calls) 0 (litRows ((D.i x1.c.call::@List.nil D)::@List.nil (List D)))) (encL encI (furI x1.x x1.c).calls)))/\True)))))))))/\((decide (0<(↑(elemsW x12).length:Int))=false)->(((True/\True)/\True)/\((0=0/\((x1.x.calls.length<=x1.x.calls.length)/\(((1:Nat)<=(1:Nat))/\(x1.x.calls.length+(1:Nat)<=(1073741824:Nat)))))/\(True/\((x1.x.id=x1.x.id/\(((furI x1.x x1.c).urg=(furI x1.x x1.c).urg)/\(((furI x1.x x1.c).code=(furI x1.x x1.c).code)/\((0=0/\(x1.x.nodes.length=(furI x1.x x1.c).nodes.length))/\(((0:Int)=0)/\((min (0:Int) (0:Int)=0)/\((0=0/\(x1.x.calls.length+(1:Nat)=(furI x1.x x1.c).calls.length))/\((0=0/\x1.x.units.length=x1.x.units.length)/\(x1.x.merged=x1.x.merged/\(x1.x.closed=x1.x.closed/\True))))))))))/\(True/\(True/\(((RLe (furI x1.x x1.c).nodes.length x1.x.nodes.length)/\(RowsEq [.int .i64] (furI x1.x x1.c).nodes.length (encL encI x1.x.nodes) (encL encI (furI x1.x x1.c).nodes)))/\(((RLe (furI x1.x x1.c).calls.length (x1.x.calls.length+(1:Nat)))/\(RowsEq [.int .i64] (furI x1.x x1.c).calls.length (appRows x1.x.calls.length (encL encI x1.x.calls) 0 (litRows ((D.i x1.c.call::@List.nil D)::@List.nil (List D)))) (encL encI (furI x1.x x1.c).calls)))/\True))))))))))))))))))))))))))))))))=(Keeps cfgFu Tryz.f68 fuC fuI) by kernel_rfl) (fun x1=>fun h2=>⟨⟨fun g3=>have h3:=dT g3;⟨(default),
 trivial,
⟨rfl,rfl,
⟨rfl,rfl⟩,
⟨rfl,rfl⟩,
⟨rfl,rfl⟩,rfl,
⟨rfl,rfl⟩,
⟨rfl,rfl⟩,
⟨rfl,rfl⟩,
⟨rfl,rfl,rfl,rfl,
⟨rfl,rfl⟩,rfl,rfl,rfl,trivial⟩,trivial⟩,
⟨rfl,
(by(try dsimp only at *);exact(fur_urg ‹_›).1.symm),
(by(try dsimp only at *);exact(fur_urg ‹_›).2.symm),
⟨rfl,rfl⟩,rfl,rfl,
⟨rfl,rfl⟩,
⟨rfl,rfl⟩,rfl,rfl,trivial⟩,
⟨rfl,rfl,rfl,rfl,
⟨rfl,rfl⟩,rfl,rfl,rfl,trivial⟩,
⟨rl,rr⟩,
⟨rl,rr⟩,
⟨rl,rr⟩,
⟨rl,rr⟩,trivial⟩,
fun g5=>have h5:=dF g5;⟨(default),trivial,
⟨rfl,rfl,
⟨rfl,rfl⟩,
⟨rfl,rfl⟩,
⟨rfl,rfl⟩,rfl,
⟨rfl,rfl⟩,
⟨rfl,rfl⟩,
⟨rfl,rfl⟩,
⟨rfl,rfl,rfl,rfl,
⟨rfl,rfl⟩,rfl,rfl,rfl,trivial⟩,trivial⟩,
⟨rfl,
(by(try dsimp only at *);exact(fur_urgN ‹_›).1.symm),
(by(try dsimp only at *);exact(fur_urgN ‹_›).2.symm),
⟨rfl,rfl⟩,rfl,rfl,
⟨rfl,rfl⟩,
⟨rfl,rfl⟩,rfl,rfl,trivial⟩,
⟨rfl,rfl,rfl,rfl,
⟨rfl,rfl⟩,rfl,rfl,rfl,trivial⟩,
⟨rl,rr⟩,
⟨rl,rr⟩,
⟨rl,rr⟩,
⟨rl,rr⟩,trivial⟩⟩,
fun y7=>fun h8=>⟨(Ic.nodes (ICx.x x1)),
(by(try dsimp only at *);omega),
⟨⟨rfl,rfl⟩,trivial⟩,
⟨⟨rl,rr⟩,trivial⟩,
(CR.nodes (ICx.c x1)),
(by(try dsimp only at *);omega),
⟨⟨rfl,rfl⟩,trivial⟩,
⟨⟨rl,rr⟩,trivial⟩,
({ a:=ofW (Ic.nodes (ICx.x x1)) (List.length (Ic.nodes (ICx.x x1))),b:=ofW (CR.nodes (ICx.c x1)) (List.length (CR.nodes (ICx.c x1))):TwoX }),
⟨(by(try dsimp only at *);exact ofW_ok _ _),
(by(try dsimp only at *);exact ofW_ok _ _)⟩,
⟨⟨rfl,trivial⟩,
⟨rfl,trivial⟩,trivial⟩,
⟨⟨rl,rr⟩,
⟨rl,rr⟩,trivial⟩,
(bothW (ofW (Ic.nodes (ICx.x x1)) (List.length (Ic.nodes (ICx.x x1)))) (ofW (CR.nodes (ICx.c x1)) (List.length (CR.nodes (ICx.c x1))))),
(by(try dsimp only at *);exact bothAt_ok (ofW_ok _ _) (ofW_ok _ _) _),
⟨⟨rfl,trivial⟩,trivial⟩,
⟨⟨rl,rr⟩,trivial⟩,
fun g13=>have h13:=dT g13;⟨⟨⟨trivial,trivial⟩,trivial⟩,
⟨rfl,
(by(try dsimp only at *);omega),
(by(try dsimp only at *);omega),
(by(try dsimp only at *);omega)⟩,trivial,
⟨rfl,rfl,rfl,
⟨rfl,
(by(try dsimp only at *);(rw[fur_nd ‹_›,com_len]))⟩,rfl,
(by(try dsimp only at *);omega),
⟨rfl,
(by(try dsimp only at *);(rw[fur_calls];simp))⟩,
⟨rfl,rfl⟩,rfl,rfl,trivial⟩,trivial,trivial,
⟨⟨(by(try dsimp only at *);(rw[fur_nd ‹_›];exact Nat.le_of_eq (com_len _ _).symm))⟩,
(by(try dsimp only at *);(rw[fur_nd ‹_›];exact rr))⟩,
⟨⟨(by(try dsimp only at *);(rw[fur_calls];simp))⟩,
(by(try dsimp only at *);(rw[fur_calls];exact push1 (by simp)))⟩,trivial⟩,
fun g14=>have h14:=dF g14;⟨⟨⟨trivial,trivial⟩,trivial⟩,
⟨rfl,
(by(try dsimp only at *);omega),
(by(try dsimp only at *);omega),
(by(try dsimp only at *);omega)⟩,trivial,
⟨rfl,rfl,rfl,
⟨rfl,
(by(try dsimp only at *);(rw[fur_ndN ‹_›]))⟩,rfl,
(by(try dsimp only at *);omega),
⟨rfl,
(by(try dsimp only at *);(rw[fur_calls];simp))⟩,
⟨rfl,rfl⟩,rfl,rfl,trivial⟩,trivial,trivial,
⟨⟨(by(try dsimp only at *);(rw[fur_ndN ‹_›];exact Nat.le_refl _))⟩,
(by(try dsimp only at *);(rw[fur_ndN ‹_›];exact rr))⟩,
⟨⟨(by(try dsimp only at *);(rw[fur_calls];simp))⟩,
(by(try dsimp only at *);(rw[fur_calls];exact push1 (by simp)))⟩,trivial⟩⟩⟩)
theorem fu_good:Good Tryz.prog 68 fuC/\FnOk Tryz.prog 68:=good_of tok conFu (fn:=Tryz.f68) rfl (by decide+kernel) (fun _=>rfl) fu_keeps
def cpC:CT where
 X:=Ic
 pre:=fun x=>x.nodes.length<=4096/\x.calls.length<=1000/\x.units.length<=1000
 args:=fun x=>[.agg (icL x 100000)]
 g0:=fun x=>icH x .bor 100000
 res:=fun x=>.agg (icL x 1)
 g1:=fun x=>icH x .own 1
def cfgCp:Cfg:=⟨T,[],[(30,.one (cloneC k1)),(29,.one (cloneC k1))],noInv,20,{}⟩
theorem conCp:ConOk Tryz.prog cfgCp:=ConL.ok (.cons (ConL.one cloneI_good) (.cons (ConL.one cloneL_good) .nil))
set_option maxRecDepth 100000 in
theorem cp_keeps:Keeps cfgCp Tryz.f67 cpC noIv:=Eq.mp (show((∀ x1:Ic,((x1.nodes.length<=(4096:Nat)/\x1.calls.length<=(1000:Nat)/\x1.units.length<=(1000:Nat))->(∃ x3:RX,((x3.n<=(1073741824:Nat))/\(((0=0/\x1.nodes.length=x3.n)/\True)/\((((RLe x3.n x1.nodes.length)/\(RowsEq [.int .i64] x3.n (encL encI x1.nodes) x3.f))/\True)/\(∃ x4:RX,((x4.n<=(1073741824:Nat))/\(((0=0/\x1.calls.length=x4.n)/\True)/\((((RLe x4.n x1.calls.length)/\(RowsEq [.int .i64] x4.n (encL encI x1.calls) x4.f))/\True)/\(∃ x5:RX,((x5.n<=(1073741824:Nat))/\(((0=0/\x1.units.length=x5.n)/\True)/\((((RLe x5.n x1.units.length)/\(RowsEq [.int .i64] x5.n (encL encI x1.units) x5.f))/\True)/\((x1.id=x1.id/\(x1.urg=x1.urg/\(x1.code=x1.code/\((0=0/\x3.n=x1.nodes.length)/\(((0:Int)=0)/\(((0:Int)=0)/\((0=0/\x4.n=x1.calls.length)/\((0=0/\x5.n=x1.units.length)/\(x1.merged=x1.merged/\(x1.closed=x1.closed/\True))))))))))/\(((RLe x1.nodes.length x3.n)/\(RowsEq [.int .i64] x1.nodes.length x3.f (encL encI x1.nodes)))/\(((RLe x1.calls.length x4.n)/\(RowsEq [.int .i64] x1.calls.length x4.f (encL encI x1.calls)))/\(((RLe x1.units.length x5.n)/\(RowsEq [.int .i64] x1.units.length x5.f (encL encI x1.units)))/\True)))))))))))))))))))=(Keeps cfgCp Tryz.f67 cpC noIv) by kernel_rfl) (fun x1=>fun h2=>⟨({ n:=List.length (Ic.nodes x1),f:=encL encI (Ic.nodes x1):RX }),
(by(try dsimp only at *);omega),
⟨⟨rfl,rfl⟩,trivial⟩,
⟨⟨rl,rr⟩,trivial⟩,
({ n:=List.length (Ic.calls x1),f:=encL encI (Ic.calls x1):RX }),
(by(try dsimp only at *);omega),
⟨⟨rfl,rfl⟩,trivial⟩,
⟨⟨rl,rr⟩,trivial⟩,
({ n:=List.length (Ic.units x1),f:=encL encI (Ic.units x1):RX }),
(by(try dsimp only at *);omega),
⟨⟨rfl,rfl⟩,trivial⟩,
⟨⟨rl,rr⟩,trivial⟩,
⟨rfl,rfl,rfl,
⟨rfl,rfl⟩,rfl,rfl,
⟨rfl,rfl⟩,
⟨rfl,rfl⟩,rfl,rfl,trivial⟩,
⟨rl,rr⟩,
⟨rl,rr⟩,
⟨rl,rr⟩,trivial⟩)
theorem cp_good:Good Tryz.prog 67 cpC/\FnOk Tryz.prog 67:=good_of tok conCp (fn:=Tryz.f67) rfl (by decide+kernel) (fun _=>rfl) cp_keeps
set_option maxRecDepth 100000 in
theorem rcp_keeps:Keeps cfgCp Tryz.f31 cpC noIv:=Eq.mp (show((∀ x1:Ic,((x1.nodes.length<=(4096:Nat)/\x1.calls.length<=(1000:Nat)/\x1.units.length<=(1000:Nat))->(∃ x3:RX,((x3.n<=(1073741824:Nat))/\(((0=0/\x1.nodes.length=x3.n)/\True)/\((((RLe x3.n x1.nodes.length)/\(RowsEq [.int .i64] x3.n (encL encI x1.nodes) x3.f))/\True)/\(∃ x4:RX,((x4.n<=(1073741824:Nat))/\(((0=0/\x1.calls.length=x4.n)/\True)/\((((RLe x4.n x1.calls.length)/\(RowsEq [.int .i64] x4.n (encL encI x1.calls) x4.f))/\True)/\(∃ x5:RX,((x5.n<=(1073741824:Nat))/\(((0=0/\x1.units.length=x5.n)/\True)/\((((RLe x5.n x1.units.length)/\(RowsEq [.int .i64] x5.n (encL encI x1.units) x5.f))/\True)/\((x1.id=x1.id/\(x1.urg=x1.urg/\(x1.code=x1.code/\((0=0/\x3.n=x1.nodes.length)/\(((0:Int)=0)/\(((0:Int)=0)/\((0=0/\x4.n=x1.calls.length)/\((0=0/\x5.n=x1.units.length)/\(x1.merged=x1.merged/\(x1.closed=x1.closed/\True))))))))))/\(((RLe x1.nodes.length x3.n)/\(RowsEq [.int .i64] x1.nodes.length x3.f (encL encI x1.nodes)))/\(((RLe x1.calls.length x4.n)/\(RowsEq [.int .i64] x1.calls.length x4.f (encL encI x1.calls)))/\(((RLe x1.units.length x5.n)/\(RowsEq [.int .i64] x1.units.length x5.f (encL encI x1.units)))/\True)))))))))))))))))))=(Keeps cfgCp Tryz.f31 cpC noIv) by kernel_rfl) (fun x1=>fun h2=>⟨({ n:=List.length (Ic.nodes x1),f:=encL encI (Ic.nodes x1):RX }),
(by(try dsimp only at *);omega),
⟨⟨rfl,rfl⟩,trivial⟩,
⟨⟨rl,rr⟩,trivial⟩,
({ n:=List.length (Ic.calls x1),f:=encL encI (Ic.calls x1):RX }),
(by(try dsimp only at *);omega),
⟨⟨rfl,rfl⟩,trivial⟩,
⟨⟨rl,rr⟩,trivial⟩,
({ n:=List.length (Ic.units x1),f:=encL encI (Ic.units x1):RX }),
(by(try dsimp only at *);omega),
⟨⟨rfl,rfl⟩,trivial⟩,
⟨⟨rl,rr⟩,trivial⟩,
⟨rfl,rfl,rfl,
⟨rfl,rfl⟩,rfl,rfl,
⟨rfl,rfl⟩,
⟨rfl,rfl⟩,rfl,rfl,trivial⟩,
⟨rl,rr⟩,
⟨rl,rr⟩,
⟨rl,rr⟩,trivial⟩)
theorem rcp_good:Good Tryz.prog 31 cpC/\FnOk Tryz.prog 31:=good_of tok conCp (fn:=Tryz.f31) rfl (by decide+kernel) (fun _=>rfl) rcp_keeps
structure FCx where
 id:Int
 c:CR
def frL (q:FCx) (a:Nat):List SV:=[.i .i64 q.id,.i .i64 q.c.urg,.s q.c.code,.sl a 0 q.c.nodes.length,.i .i64 0,.i .i64 0,.sl (a+1) 0 1,.ns,.i .i64 0,.b false]
def frH (q:FCx) (m:Md) (a:Nat):List (Nat × Blk):=[(a,.rows m k1 q.c.nodes.length (encL encI q.c.nodes)),(a+1,.rows m k1 1 (encL encI [q.c.call]))]
def frC:CT where
 X:=FCx
 pre:=fun q=>COk q.c/\1<=q.id/\q.id<=1099511627776
 args:=fun q=>[.i .i64 q.id,crV q.c 100000]
 g0:=fun q=>crH q.c .bor 100000
 res:=fun q=>.tup [.agg (frL q 1),.i .i64 0]
 g1:=fun q=>frH q .own 1
def frIv (_:FCx) (id:Nat):Option Inv:=match id with
 |100014=>some (cutT 14 false)
 |_=>none
def cfgFr:Cfg:=⟨T,[],[(46,.one numC),(47,.one vcC),(48,.one fiNC)],noInv,20,{}⟩
theorem conFr:ConOk Tryz.prog cfgFr:=ConL.ok (.cons (ConL.one num_good) (.cons (ConL.one vc_good) (.cons (ConL.one fiN_good) .nil)))
set_option maxRecDepth 100000 in
theorem fr_keeps:Keeps cfgFr Tryz.f26 frC frIv:=Eq.mp (show((∀ x1:FCx,((COk x1.c/\(1:Int)<=x1.id/\x1.id<=(1099511627776:Int))->((∃ x3:Int,((((1:Int)<=x3)/\(x3<=(1099511627776:Int)))/\((x1.id=x3/\True)/\(True/\(∃ x4:CR,((COk x4)/\(((x1.c.call=x4.call/\(x1.c.inc=x4.inc/\(x1.c.urg=x4.urg/\(x1.c.code=x4.code/\((0=0/\x1.c.nodes.length=x4.nodes.length)/\(((0:Int)=0)/\(((0:Int)=0)/\(x1.c.closed=x4.closed/\True))))))))/\True)/\((((RLe x4.nodes.length x1.c.nodes.length)/\(RI x4.nodes.length x1.c.nodes x4.nodes))/\True)/\(∃ x5:Unit,(True/\(false=false/\True)))))))))))/\(∀ x6:Unit,(True->(∃ x8:ICx,((x8.c.nodes.length<=(4096:Nat))/\(((0=0/\0=0)/\((x1.c.call=x8.c.call/\(x1.c.inc=x8.c.inc/\(x1.c.urg=x8.c.urg/\(x1.c.code=x8.c.code/\((0=0/\x1.c.nodes.length=x8.c.nodes.length)/\(((0:Int)=0)/\(((0:Int)=0)/\(x1.c.closed=x8.c.closed/\True))))))))/\True))/\(((x1.id=x8.x.id/\(0=x8.x.urg/\(ByteArray.empty=x8.x.code/\(True/\(((0:Int)=0)/\(((0:Int)=0)/\(True/\(True/\(0=x8.x.merged/\(false=x8.x.closed/\True))))))))))/\(((RLe x8.c.nodes.length x1.c.nodes.length)/\(RI x8.c.nodes.length x1.c.nodes x8.c.nodes))/\True))/\(((x8.x.id=x1.id/\(x8.c.urg=x1.c.urg/\(x8.c.code=x1.c.code/\((0=0/\x8.c.nodes.length=x1.c.nodes.length)/\(((0:Int)=0)/\(((0:Int)=0)/\((0=0/\((1:Nat)=(1:Nat)))/\(True/\((x8.x.merged=(0:Int))/\(x8.x.closed=false/\True))))))))))/\(((0:Int)=0)/\True))/\(((RLe x1.c.nodes.length x8.c.nodes.length)/\(RI x1.c.nodes.length x8.c.nodes x1.c.nodes))/\((RLe 1 1/\(RI 1 (x8.c.call::@List.nil Int) (x1.c.call::@List.nil Int)))/\True)))))))))))))=(Keeps cfgFr Tryz.f26 frC frIv) by kernel_rfl) (fun x1=>fun h2=>⟨⟨(FCx.id x1),
⟨(by(try dsimp only at *);omega),
(by(try dsimp only at *);omega)⟩,
⟨rfl,trivial⟩,trivial,
(FCx.c x1),
(by(try dsimp only at *);grind),
⟨⟨rfl,rfl,rfl,rfl,
⟨rfl,rfl⟩,rfl,rfl,rfl,trivial⟩,trivial⟩,
⟨⟨rl,rr⟩,trivial⟩,
(default),trivial,rfl,trivial⟩,
fun x6=>fun h7=>⟨({ x:={ id:=FCx.id x1,urg:=(0:Int),code:=ByteArray.empty,nodes:=default,calls:=default,units:=default,merged:=(0:Int),closed:=false:Ic },c:=FCx.c x1:ICx }),
(by(try dsimp only at *);exact h2.1.len),
⟨⟨rfl,rfl⟩,
⟨rfl,rfl,rfl,rfl,
⟨rfl,rfl⟩,rfl,rfl,rfl,trivial⟩,trivial⟩,
⟨⟨rfl,rfl,rfl,trivial,rfl,rfl,trivial,trivial,rfl,rfl,trivial⟩,
⟨rl,rr⟩,trivial⟩,
⟨⟨rfl,rfl,rfl,
⟨rfl,rfl⟩,rfl,rfl,
⟨rfl,rfl⟩,trivial,rfl,rfl,trivial⟩,rfl,trivial⟩,
⟨rl,rr⟩,
⟨rl,rr⟩,trivial⟩⟩)
theorem fr_good:Good Tryz.prog 26 frC/\FnOk Tryz.prog 26:=good_of tok conFr (fn:=Tryz.f26) rfl (by decide+kernel) (fun _=>rfl) fr_keeps
end Go.Sym