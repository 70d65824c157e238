import Derived.Test.YtpnnecijeoipfaaGreatDoorO6
import Derived.Test.YtpnnecijeoipfaaGreatDoorXD
namespace Go.Sym
set_option linter.unusedVariables false
set_option linter.unusedSimpArgs false
open Go.Proofs
set_option maxRecDepth 100000
set_option maxHeartbeats 4000000
structure Rg where
 ck:List Int
 c:Int->CR
 ik:List Int
 i:Int->Ic
 hk:List Int
 h:Int->Int
def encRC (r:Rg) (k:Int):Nat->D:=encCR (r.c k)
def encRI (r:Rg) (k:Int):Nat->D:=encIc (r.i k)
def encRH (r:Rg) (k:Int):Nat->D:=encI (r.h k)
def rgM (a:Nat) (m:Md) (r:Rg):List (Nat × Blk):=[(a+1,.map m .i64 kC true r.ck (encRC r)),(a+2,.map m .i64 kI true r.ik (encRI r)),(a+3,.map m .i64 k1 false r.hk (encRH r))]
def rgH (a:Nat) (m:Md) (r:Rg):List (Nat × Blk):=(a,.one .bor [.mp (a+1),.mp (a+2),.mp (a+3)])::rgM a m r
def putC (r:Rg) (c:CR):Rg:={ r with ck:=madd1 r.ck c.call,c:=fun k=>if k=c.call then c else r.c k }
def putI (r:Rg) (x:Ic):Rg:={ r with ik:=madd1 r.ik x.id,i:=fun k=>if k=x.id then x else r.i k }
def noRg:Rg:=⟨[],fun _=>default,[],fun _=>default,[],fun _=>0⟩
def rowL (l:List Int):D:=.l l.length fun r _=>.i (l.getD (0+r) default)
theorem rowL_eq (l:List Int):(Kd.sl [.int .i64]).eqv (rowL l) (.l l.length (encL encI l)):=
 ⟨rfl,fun r _=>by show rowEq [.int .i64] (fun _=>.i (l.getD (0+r) default)) (encI (l.getD r default)) 0;rw[Nat.zero_add];exact rowEq_rfl _ _ _⟩
theorem rowI_eq (x:Ic):rowEq kI (fun j=>([.i x.id,.i x.urg,.s x.code,rowL x.nodes,.i 0,.i 0,rowL x.calls,rowL x.units,.i x.merged,.b x.closed]:List D).getD j (.i 0)) (encIc x) 0:=
 ⟨rfl,rfl,rfl,rowL_eq _,rfl,rfl,rowL_eq _,rowL_eq _,rfl,rfl,trivial⟩
theorem rowC_eq (c:CR):rowEq kC (fun j=>([.i c.call,.i c.inc,.i c.urg,.s c.code,rowL c.nodes,.i 0,.i 0,.b c.closed]:List D).getD j (.i 0)) (encCR c) 0:=
 ⟨rfl,rfl,rfl,rfl,rowL_eq _,rfl,rfl,rfl,trivial⟩
theorem put_mapI (r:Rg) (x:Ic) {k:Int} {g:Nat->D} (hk:k=x.id) (hd:rowEq kI g (encIc x) 0):MapEq kI (madd1 r.ik k) (putI r x).ik (mset (encRI r) k g) (encRI (putI r x)):=by
 subst hk
 refine⟨List.Perm.refl _,fun j _=>?_⟩
 unfold mset encRI putI
 by_cases e:j=x.id
 ·simp only[if_pos e];exact hd
 ·simp only[if_neg e];exact rowEq_rfl _ _ _
theorem put_mapC (r:Rg) (c:CR) {k:Int} {g:Nat->D} (hk:k=c.call) (hd:rowEq kC g (encCR c) 0):MapEq kC (madd1 r.ck k) (putC r c).ck (mset (encRC r) k g) (encRC (putC r c)):=by
 subst hk
 refine⟨List.Perm.refl _,fun j _=>?_⟩
 unfold mset encRC putC
 by_cases e:j=c.call
 ·simp only[if_pos e];exact hd
 ·simp only[if_neg e];exact rowEq_rfl _ _ _
section
variable {p:Prop} [Decidable p]
theorem ifI {x y:Int} (h:p):(if p then D.i x else D.i y).toI=x:=by rw[if_pos h];rfl
theorem ifS {x y:ByteArray} (h:p):(if p then D.s x else D.s y).toS=x:=by rw[if_pos h];rfl
theorem ifB {x y:Bool} (h:p):(if p then D.b x else D.b y).toB=x:=by rw[if_pos h];rfl
theorem ifN {n m:Nat} {f g:Nat->Nat->D} (h:p):(if p then D.l n f else D.l m g).toN=n:=by rw[if_pos h];rfl
theorem ifLe {n m:Nat} {f g:Nat->Nat->D} (h:p):n<=(if p then D.l n f else D.l m g).toN:=by rw[ifN h];exact Nat.le_refl _
theorem ifR {ks:List Kd} {k n m:Nat} {f g:Nat->Nat->D} (h:p):RowsEq ks k (if p then D.l n f else D.l m g).toF f:=by rw[if_pos h];exact RowsEq.rfl'
end
theorem notT {b:Bool} (h:(!b)=true):b=false:=by cases b <;>first|rfl|cases h
theorem notF {b:Bool} (h:(!b)=false):b=true:=by cases b <;>first|rfl|cases h
def nwC:CT where
 X:=Unit
 pre:=fun _=>True
 args:=fun _=>[]
 g0:=fun _=>[]
 res:=fun _=>.p 1 0 0
 g1:=fun _=>(1,.one .own [.mp 2,.mp 3,.mp 4])::rgM 1 .own noRg
theorem map0 {ks:List Kd} {f g:Int->Nat->D}:MapEq ks [] [] f g:=⟨List.Perm.refl _,fun k hk=>by cases hk⟩
set_option maxRecDepth 100000 in
theorem nw_keeps:Keeps cfgN0 Tryz.f6 nwC noIv:=Eq.mp (show((∀ x1:Unit,(True->((0=0/\0=0)/\((True/\(True/\(True/\True)))/\((MapEq (.int .i64:: .int .i64:: .int .i64::Kd.str:: .sl [.int .i64]:: .int .i64:: .int .i64::Kd.bool::[]) (@List.nil Int) (Rg.ck noRg) (fun(x:Int) (j:Nat)=>zRow (.int .i64:: .int .i64:: .int .i64::Kd.str:: .sl [.int .i64]:: .int .i64:: .int .i64::Kd.bool::[]) j) (encRC noRg))/\((MapEq (.int .i64:: .int .i64::Kd.str:: .sl [.int .i64]:: .int .i64:: .int .i64:: .sl [.int .i64]:: .sl [.int .i64]:: .int .i64::Kd.bool::[]) (@List.nil Int) (Rg.ik noRg) (fun(x:Int) (j:Nat)=>zRow (.int .i64:: .int .i64::Kd.str:: .sl [.int .i64]:: .int .i64:: .int .i64:: .sl [.int .i64]:: .sl [.int .i64]:: .int .i64::Kd.bool::[]) j) (encRI noRg))/\((MapEq [.int .i64] (@List.nil Int) (Rg.hk noRg) (fun(x:Int) (j:Nat)=>zRow [.int .i64] j) (encRH noRg))/\True))))))))=(Keeps cfgN0 Tryz.f6 nwC noIv) by kernel_rfl) (fun x1=>fun h2=>⟨⟨rfl,rfl⟩,
⟨trivial,trivial,trivial,trivial⟩,
(by exact map0),
(by exact map0),
(by exact map0),trivial⟩)
theorem nw_good:Good Tryz.prog 6 nwC/\FnOk Tryz.prog 6:=good_of tok conN0 (fn:=Tryz.f6) rfl (by decide+kernel) (fun _=>rfl) nw_keeps
def isC:CT where
 X:=Ic
 pre:=fun _=>True
 args:=fun x=>[.agg (icL x 100000)]
 g0:=fun x=>icH x .bor 100000
 res:=fun x=>.b (decide (x.merged=0)&& !x.closed)
 g1:=fun _=>[]
set_option maxRecDepth 100000 in
theorem is_keeps:Keeps cfgN0 Tryz.f13 isC noIv:=Eq.mp (show((∀ x1:Ic,(True->(((decide (x1.merged=(0:Int))=true)->(((!x1.closed)=(decide (x1.merged=(0:Int))&& !x1.closed))/\True))/\((decide (x1.merged=(0:Int))=false)->((false=(decide (x1.merged=(0:Int))&& !x1.closed))/\True))))))=(Keeps cfgN0 Tryz.f13 isC noIv) by kernel_rfl) (fun x1=>fun h2=>⟨fun g3=>have h3:=dT g3;⟨(by grind),trivial⟩,
fun g4=>have h4:=dF g4;⟨(by grind),trivial⟩⟩)
theorem is_good:Good Tryz.prog 13 isC/\FnOk Tryz.prog 13:=good_of tok conN0 (fn:=Tryz.f13) rfl (by decide+kernel) (fun _=>rfl) is_keeps
def cfgIs:Cfg:=⟨T,[],[(13,.one isC)],noInv,20,{}⟩
theorem conIs:ConOk Tryz.prog cfgIs:=ConL.ok (.cons (ConL.one is_good) .nil)
set_option maxRecDepth 100000 in
theorem ris_keeps:Keeps cfgIs Tryz.f27 isC noIv:=Eq.mp (show((∀ x1:Ic,(True->(∃ x3:Ic,(True/\(((x1.id=x3.id/\(x1.urg=x3.urg/\(x1.code=x3.code/\((0=0/\x1.nodes.length=x3.nodes.length)/\(((0:Int)=0)/\(((0:Int)=0)/\((0=0/\x1.calls.length=x3.calls.length)/\((0=0/\x1.units.length=x3.units.length)/\(x1.merged=x3.merged/\(x1.closed=x3.closed/\True))))))))))/\True)/\((((RLe x3.nodes.length x1.nodes.length)/\(RI x3.nodes.length x1.nodes x3.nodes))/\(((RLe x3.calls.length x1.calls.length)/\(RI x3.calls.length x1.calls x3.calls))/\(((RLe x3.units.length x1.units.length)/\(RI x3.units.length x1.units x3.units))/\True)))/\(((decide (x3.merged=(0:Int))&& !x3.closed)=(decide (x1.merged=(0:Int))&& !x1.closed))/\True))))))))=(Keeps cfgIs Tryz.f27 isC noIv) by kernel_rfl) (fun x1=>fun h2=>⟨(x1),trivial,
⟨⟨rfl,rfl,rfl,
⟨rfl,rfl⟩,rfl,rfl,
⟨rfl,rfl⟩,
⟨rfl,rfl⟩,rfl,rfl,trivial⟩,trivial⟩,
⟨⟨rl,rr⟩,
⟨rl,rr⟩,
⟨rl,rr⟩,trivial⟩,rfl,trivial⟩)
theorem ris_good:Good Tryz.prog 27 isC/\FnOk Tryz.prog 27:=good_of tok conIs (fn:=Tryz.f27) rfl (by decide+kernel) (fun _=>rfl) ris_keeps
def clrC (c:CR):CR:=⟨c.call,0,c.urg,c.code,c.nodes,false⟩
def accC:CT where
 X:=CR
 pre:=COk
 args:=fun c=>[crV c 100000]
 g0:=fun c=>crH c .bor 100000
 res:=fun c=>.tup [crV (clrC c) 1,.bt true]
 g1:=fun c=>crH c .own 1
def accI (_:CR) (id:Nat):Option Inv:=match id with
 |100014=>some (cutT 14 false)
 |_=>none
def cfgAcc:Cfg:=⟨T,[],[(26,.one frC),(30,.one (cloneC k1))],noInv,20,{}⟩
theorem conAcc:ConOk Tryz.prog cfgAcc:=ConL.ok (.cons (ConL.one fr_good) (.cons (ConL.one cloneI_good) .nil))
theorem cok0 {c:CR} (h:COk c):COk (clrC c):=⟨h.call,⟨Int.le_refl _,by show(0:Int)<=1099511627776;omega⟩,h.urg,h.code,h.nodes,h.len⟩
set_option maxRecDepth 100000 in
theorem acc_keeps:Keeps cfgAcc Tryz.f24 accC accI:=Eq.mp (show((∀ x1:CR,((COk x1)->(∃ x3:FCx,(((COk x3.c)/\(((1:Int)<=x3.id)/\(x3.id<=(1099511627776:Int))))/\((1=x3.id/\((x1.call=x3.c.call/\(0=x3.c.inc/\(x1.urg=x3.c.urg/\(x1.code=x3.c.code/\((0=0/\x1.nodes.length=x3.c.nodes.length)/\(((0:Int)=0)/\(((0:Int)=0)/\(false=x3.c.closed/\True))))))))/\True))/\((((RLe x3.c.nodes.length x1.nodes.length)/\(RI x3.c.nodes.length x1.nodes x3.c.nodes))/\True)/\((∃ x4:Unit,(True/\((decide ((0:Int)≠(0:Int))=false)/\True)))/\(∀ x5:Unit,(True->(∃ x7:RX,((x7.n<=(1073741824:Nat))/\(((0=0/\x1.nodes.length=x7.n)/\True)/\((((RLe x7.n x1.nodes.length)/\(RowsEq [.int .i64] x7.n (encL encI x1.nodes) x7.f))/\True)/\((((x1.call=(clrC x1).call)/\((0=(clrC x1).inc)/\((x1.urg=(clrC x1).urg)/\((x1.code=(clrC x1).code)/\((0=0/\(x7.n=(clrC x1).nodes.length))/\(((0:Int)=0)/\(((0:Int)=0)/\((false=(clrC x1).closed)/\True))))))))/\(true=true/\True))/\(((RLe x1.nodes.length x7.n)/\(RowsEq [.int .i64] x1.nodes.length x7.f (encL encI x1.nodes)))/\True))))))))))))))))=(Keeps cfgAcc Tryz.f24 accC accI) by kernel_rfl) (fun x1=>fun h2=>⟨({ id:=(1:Int),c:=clrC x1:FCx }),
⟨(by(try dsimp only at *);exact cok0 h2),
(by(try dsimp only at *);omega),
(by(try dsimp only at *);omega)⟩,
⟨rfl,
⟨(by(try dsimp only at *);rfl),
(by(try dsimp only at *);rfl),
(by(try dsimp only at *);rfl),
(by(try dsimp only at *);rfl),
⟨rfl,
(by(try dsimp only at *);rfl)⟩,rfl,rfl,
(by(try dsimp only at *);rfl),trivial⟩,trivial⟩,
⟨⟨⟨(by(try dsimp only at *);exact Nat.le_refl _)⟩,
(by(try dsimp only at *);exact rr)⟩,trivial⟩,
⟨(default),trivial,
(by(try dsimp only at *);grind),trivial⟩,
fun x5=>fun h6=>⟨({ n:=List.length (CR.nodes x1),f:=encL encI (CR.nodes x1):RX }),
(by(try dsimp only at *);(have:=h2.len;omega)),
⟨⟨rfl,rfl⟩,trivial⟩,
⟨⟨rl,rr⟩,trivial⟩,
⟨⟨(by(try dsimp only at *);rfl),
(by(try dsimp only at *);rfl),
(by(try dsimp only at *);rfl),
(by(try dsimp only at *);rfl),
⟨rfl,
(by(try dsimp only at *);rfl)⟩,rfl,rfl,
(by(try dsimp only at *);rfl),trivial⟩,rfl,trivial⟩,
⟨rl,rr⟩,trivial⟩⟩)
theorem acc_good:Good Tryz.prog 24 accC/\FnOk Tryz.prog 24:=good_of tok conAcc (fn:=Tryz.f24) rfl (by decide+kernel) (fun _=>rfl) acc_keeps
structure RRx where
 r:Rg
 x:Ic
 l:List Int
structure RRok (q:RRx):Prop where
 x:IOk q.x
 m:q.x.merged=0
 l:LOk (q.l.map q.r.c)
 k:∀ k∈q.l,k∈q.r.ck
def rrF (q:RRx):Rg:=putI q.r (rebI q.x (q.l.map q.r.c))
def rrC:CT where
 X:=RRx
 pre:=RRok
 args:=fun q=>[.p 100000 0 0,.agg (icL q.x 100010),.sl 100020 0 q.l.length]
 g0:=fun q=>rgH 100000 .own q.r++icH q.x .bor 100010++[(100020,.rows .bor k1 q.l.length (encL encI q.l))]
 res:=fun _=>.tup []
 g1:=fun q=>rgM 100000 .own (rrF q)
def rrI (q:RRx) (id:Nat):Option Inv:=match id with
 |0=>some { X:=Nat,ok:=fun k=>k<=q.l.length,fr:=fun k=>[(16,.i .i64 k),(6,.sl 51 0 k)],hp:=fun k=>[(51,.rows .own kC k (encL encCR ((q.l.take k).map q.r.c)))],me:=fun k=>q.l.length-k }
 |_=>none
def cfgRr:Cfg:=⟨T,[],[(43,.one rbC)],noInv,12,{}⟩
theorem conRr:ConOk Tryz.prog cfgRr:=ConL.ok (.cons (ConL.one rb_good) .nil)
theorem rr_push {q:RRx} {k:Nat} (hk:(k:Int)<q.l.length) (h:RRok q) {a b e f g i j m:D} {n:Nat->Nat->D}
  (hd:q.l.getD k default∈q.r.ck->rowEq kC (fun j'=>([a,b,e,f,g,i,j,m]:List D).getD j' (.i 0)) (encCR (q.r.c (q.l.getD k default))) 0):
  RowsEq kC (k+1) (appRows k (encL encCR ((q.l.take k).map q.r.c)) 0 (litRows [[a,b,e,f,g,i,j,m]])) (encL encCR ((q.l.take (k+1)).map q.r.c)):=by
 have hk':k<q.l.length:=by omega
 have e1:(q.l.take (k+1)).map q.r.c=(q.l.take k).map q.r.c++[q.r.c (q.l.getD k default)]:=by
  rw[List.take_succ_eq_append_getElem hk',List.map_append]
  simp[List.getD_eq_getElem?_getD,hk']
 rw[e1]
 exact rowsEq_push (by simp;omega) (by simp;omega) (hd (h.k _ (by rw[List.getD_eq_getElem?_getD,List.getElem?_eq_getElem hk'];exact List.getElem_mem _)))
set_option maxRecDepth 100000 in
theorem rr_keeps:Keeps cfgRr Tryz.f28 rrC rrI:=Eq.mp (show((∀ x1:RRx,((RRok x1)->((((0:Int)<=(0:Int))/\(((0:Int)<=(x1.l.length:Int))/\((x1.l.length:Int)<=(↑(1073741824:Nat):Int))))/\(∃ x3:Nat,(((x3<=x1.l.length)/\(((0=(x3:Int))/\((0=0/\(Int.toNat 0=x3))/\(((x1.l.length:Int)=(x1.l.length:Int))/\((0=0/\x1.l.length=x1.l.length)/\((0=0/\x1.l.length=x1.l.length)/\((0=0/\0=0)/\((0=0/\0=0)/\((x1.x.id=x1.x.id/\(x1.x.urg=x1.x.urg/\(x1.x.code=x1.x.code/\((0=0/\x1.x.nodes.length=x1.x.nodes.length)/\(((0:Int)=0)/\(((0:Int)=0)/\((0=0/\x1.x.calls.length=x1.x.calls.length)/\((0=0/\x1.x.units.length=x1.x.units.length)/\(x1.x.merged=x1.x.merged/\(x1.x.closed=x1.x.closed/\True))))))))))/\((0=0/\x1.l.length=x1.l.length)/\True)))))))))/\(((RLe x3 (Int.toNat (0:Int)))/\(RowsEq (.int .i64:: .int .i64:: .int .i64::Kd.str:: .sl [.int .i64]:: .int .i64:: .int .i64::Kd.bool::[]) x3 (fun(x j:Nat)=>zRow (.int .i64:: .int .i64:: .int .i64::Kd.str:: .sl [.int .i64]:: .int .i64:: .int .i64::Kd.bool::[]) j) (encL encCR (List.map x1.r.c (List.take x3 x1.l)))))/\((x1.x.id=x1.x.id/\(x1.x.urg=x1.x.urg/\(x1.x.code=x1.x.code/\((0=0/\x1.x.nodes.length=x1.x.nodes.length)/\(((0:Int)=0)/\(((0:Int)=0)/\((0=0/\x1.x.calls.length=x1.x.calls.length)/\((0=0/\x1.x.units.length=x1.x.units.length)/\(x1.x.merged=x1.x.merged/\(x1.x.closed=x1.x.closed/\True))))))))))/\((True/\(True/\(True/\True)))/\((MapEq (.int .i64:: .int .i64:: .int .i64::Kd.str:: .sl [.int .i64]:: .int .i64:: .int .i64::Kd.bool::[]) x1.r.ck x1.r.ck (encRC x1.r) (encRC x1.r))/\((MapEq (.int .i64:: .int .i64::Kd.str:: .sl [.int .i64]:: .int .i64:: .int .i64:: .sl [.int .i64]:: .sl [.int .i64]:: .int .i64::Kd.bool::[]) x1.r.ik x1.r.ik (encRI x1.r) (encRI x1.r))/\((MapEq [.int .i64] x1.r.hk x1.r.hk (encRH x1.r) (encRH x1.r))/\(((RLe x1.x.nodes.length x1.x.nodes.length)/\(RI x1.x.nodes.length x1.x.nodes x1.x.nodes))/\(((RLe x1.x.calls.length x1.x.calls.length)/\(RI x1.x.calls.length x1.x.calls x1.x.calls))/\(((RLe x1.x.units.length x1.x.units.length)/\(RI x1.x.units.length x1.x.units x1.x.units))/\(((RLe x1.l.length x1.l.length)/\(RI x1.l.length x1.l x1.l))/\True))))))))))))/\(∀ x4:Nat,((x4<=x1.l.length)->(((decide ((x4:Int)<(x1.l.length:Int))=true)->((((0:Int)<=(x4:Int))/\((x4:Int)<(x1.l.length:Int)))/\((0+Int.toNat (x4:Int)<x1.l.length)/\(((True/\(True/\(True/\(True/\(((0:Nat)+D.toN (if x1.l.getD (0+Int.toNat (x4:Int)) default∈x1.r.ck then D.l (x1.r.c (x1.l.getD (0+Int.toNat (x4:Int)) default)).nodes.length (encL encI (x1.r.c (x1.l.getD (0+Int.toNat (x4:Int)) default)).nodes)else D.l 0 fun(x x_1:Nat)=>D.i 0)<=D.toN (if x1.l.getD (0+Int.toNat (x4:Int)) default∈x1.r.ck then D.l (x1.r.c (x1.l.getD (0+Int.toNat (x4:Int)) default)).nodes.length (encL encI (x1.r.c (x1.l.getD (0+Int.toNat (x4:Int)) default)).nodes)else D.l 0 fun(x x_1:Nat)=>D.i 0))/\(True/\(True/\(True/\True))))))))/\True)/\((0=0/\((x4<=x4)/\(((1:Nat)<=(1:Nat))/\(x4+(1:Nat)<=(1073741824:Nat)))))/\((((-9223372036854775808:Int)<=(x4:Int)+1)/\((x4:Int)+1<=(9223372036854775807:Int)))/\(∃ x7:Nat,((x1.l.length-x7<x1.l.length-x4)/\((x7<=x1.l.length)/\((((x4:Int)+1=(x7:Int))/\((0=0/\(x4+(1:Nat)=x7))/\(((x1.l.length:Int)=(x1.l.length:Int))/\((0=0/\x1.l.length=x1.l.length)/\((0=0/\x1.l.length=x1.l.length)/\((0=0/\0=0)/\((0=0/\0=0)/\((x1.x.id=x1.x.id/\(x1.x.urg=x1.x.urg/\(x1.x.code=x1.x.code/\((0=0/\x1.x.nodes.length=x1.x.nodes.length)/\(((0:Int)=0)/\(((0:Int)=0)/\((0=0/\x1.x.calls.length=x1.x.calls.length)/\((0=0/\x1.x.units.length=x1.x.units.length)/\(x1.x.merged=x1.x.merged/\(x1.x.closed=x1.x.closed/\True))))))))))/\((0=0/\x1.l.length=x1.l.length)/\True)))))))))/\(((RLe x7 (x4+(1:Nat)))/\(RowsEq (.int .i64:: .int .i64:: .int .i64::Kd.str:: .sl [.int .i64]:: .int .i64:: .int .i64::Kd.bool::[]) x7 (appRows x4 (encL encCR (List.map x1.r.c (List.take x4 x1.l))) 0 (litRows ((D.i (D.toI (if x1.l.getD (0+Int.toNat (x4:Int)) default∈x1.r.ck then D.i (x1.r.c (x1.l.getD (0+Int.toNat (x4:Int)) default)).call else D.i 0))::D.i (D.toI (if x1.l.getD (0+Int.toNat (x4:Int)) default∈x1.r.ck then D.i (x1.r.c (x1.l.getD (0+Int.toNat (x4:Int)) default)).inc else D.i 0))::D.i (D.toI (if x1.l.getD (0+Int.toNat (x4:Int)) default∈x1.r.ck then D.i (x1.r.c (x1.l.getD (0+Int.toNat (x4:Int)) default)).urg else D.i 0))::D.s (D.toS (if x1.l.getD (0+Int.toNat (x4:Int)) default∈x1.r.ck then D.s (x1.r.c (x1.l.getD (0+Int.toNat (x4:Int)) default)).code else D.s ByteArray.empty))::(D.l (D.toN (if x1.l.getD (0+Int.toNat (x4:Int)) default∈x1.r.ck then D.l (x1.r.c (x1.l.getD (0+Int.toNat (x4:Int)) default)).nodes.length (encL encI (x1.r.c (x1.l.getD (0+Int.toNat (x4:Int)) default)).nodes)else D.l 0 fun(x x_1:Nat)=>D.i 0)) fun(r c:Nat)=>D.toF (if x1.l.getD (0+Int.toNat (x4:Int)) default∈x1.r.ck then D.l (x1.r.c (x1.l.getD (0+Int.toNat (x4:Int)) default)).nodes.length (encL encI (x1.r.c (x1.l.getD (0+Int.toNat (x4:Int)) default)).nodes)else D.l 0 fun(x x_1:Nat)=>D.i 0) ((0:Nat)+r) c)::D.i (D.toI (if x1.l.getD (0+Int.toNat (x4:Int)) default∈x1.r.ck then D.i 0 else D.i 0))::D.i (D.toI (if x1.l.getD (0+Int.toNat (x4:Int)) default∈x1.r.ck then D.i 0 else D.i 0))::D.b (D.toB (if x1.l.getD (0+Int.toNat (x4:Int)) default∈x1.r.ck then D.b (x1.r.c (x1.l.getD (0+Int.toNat (x4:Int)) default)).closed else D.b false))::@List.nil D)::@List.nil (List D)))) (encL encCR (List.map x1.r.c (List.take x7 x1.l)))))/\((x1.x.id=x1.x.id/\(x1.x.urg=x1.x.urg/\(x1.x.code=x1.x.code/\((0=0/\x1.x.nodes.length=x1.x.nodes.length)/\(((0:Int)=0)/\(((0:Int)=0)/\((0=0/\x1.x.calls.length=x1.x.calls.length)/\((0=0/\x1.x.units.length=x1.x.units.length)/\(x1.x.merged=x1.x.merged/\(x1.x.closed=x1.x.closed/\True))))))))))/\((True/\(True/\(True/\True)))/\((MapEq (.int .i64:: .int .i64:: .int .i64::Kd.str:: .sl [.int .i64]:: .int .i64:: .int .i64::Kd.bool::[]) x1.r.ck x1.r.ck (encRC x1.r) (encRC x1.r))/\((MapEq (.int .i64:: .int .i64::Kd.str:: .sl [.int .i64]:: .int .i64:: .int .i64:: .sl [.int .i64]:: .sl [.int .i64]:: .int .i64::Kd.bool::[]) x1.r.ik x1.r.ik (encRI x1.r) (encRI x1.r))/\((MapEq [.int .i64] x1.r.hk x1.r.hk (encRH x1.r) (encRH x1.r))/\(((RLe x1.x.nodes.length x1.x.nodes.length)/\(RI x1.x.nodes.length x1.x.nodes x1.x.nodes))/\(((RLe x1.x.calls.length x1.x.calls.length)/\(RI x1.x.calls.length x1.x.calls x1.x.calls))/\(((RLe x1.x.units.length x1.x.units.length)/\(RI x1.x.units.length x1.x.units x1.x.units))/\(((RLe x1.l.length x1.l.length)/\(RI x1.l.length x1.l x1.l))/\True))))))))))))))))))))/\((decide ((x4:Int)<(x1.l.length:Int))=false)->(∃ x9:RBx,((RBok x9)/\(((x1.x.id=x9.x.id/\(x1.x.urg=x9.x.urg/\(x1.x.code=x9.x.code/\((0=0/\x1.x.nodes.length=x9.x.nodes.length)/\(((0:Int)=0)/\(((0:Int)=0)/\((0=0/\x1.x.calls.length=x9.x.calls.length)/\((0=0/\x1.x.units.length=x9.x.units.length)/\(x1.x.merged=x9.x.merged/\(x1.x.closed=x9.x.closed/\True))))))))))/\((0=0/\x4=x9.l.length)/\True))/\((((RLe x9.x.nodes.length x1.x.nodes.length)/\(RI x9.x.nodes.length x1.x.nodes x9.x.nodes))/\(((RLe x9.x.calls.length x1.x.calls.length)/\(RI x9.x.calls.length x1.x.calls x9.x.calls))/\(((RLe x9.x.units.length x1.x.units.length)/\(RI x9.x.units.length x1.x.units x9.x.units))/\(((RLe x9.l.length x4)/\(RowsEq (.int .i64:: .int .i64:: .int .i64::Kd.str:: .sl [.int .i64]:: .int .i64:: .int .i64::Kd.bool::[]) x9.l.length (encL encCR (List.map x1.r.c (List.take x4 x1.l))) (encL encCR x9.l)))/\True))))/\(((decide ((0:Int)=0)=true)->((True/\(True/\(True/\(((0:Nat)+(rebI x9.x x9.l).nodes.length<=(rebI x9.x x9.l).nodes.length)/\(True/\(True/\(((0:Nat)+(rebI x9.x x9.l).calls.length<=(rebI x9.x x9.l).calls.length)/\(((0:Nat)+(rebI x9.x x9.l).units.length<=(rebI x9.x x9.l).units.length)/\(True/\(True/\True))))))))))/\(True/\((MapEq (.int .i64:: .int .i64:: .int .i64::Kd.str:: .sl [.int .i64]:: .int .i64:: .int .i64::Kd.bool::[]) x1.r.ck (rrF x1).ck (encRC x1.r) (encRC (rrF x1)))/\((MapEq (.int .i64:: .int .i64::Kd.str:: .sl [.int .i64]:: .int .i64:: .int .i64:: .sl [.int .i64]:: .sl [.int .i64]:: .int .i64::Kd.bool::[]) (madd1 x1.r.ik x1.x.id) (rrF x1).ik (mset (encRI x1.r) x1.x.id fun(j:Nat)=>(D.i (rebI x9.x x9.l).id::D.i (rebI x9.x x9.l).urg::D.s (rebI x9.x x9.l).code::(D.l (rebI x9.x x9.l).nodes.length fun(r c:Nat)=>D.i ((rebI x9.x x9.l).nodes.getD ((0:Nat)+r) default))::D.i 0::D.i 0::(D.l (rebI x9.x x9.l).calls.length fun(r c:Nat)=>D.i ((rebI x9.x x9.l).calls.getD ((0:Nat)+r) default))::(D.l (rebI x9.x x9.l).units.length fun(r c:Nat)=>D.i ((rebI x9.x x9.l).units.getD ((0:Nat)+r) default))::D.i (rebI x9.x x9.l).merged::D.b (rebI x9.x x9.l).closed::@List.nil D).getD j (D.i 0)) (encRI (rrF x1)))/\((MapEq [.int .i64] x1.r.hk (rrF x1).hk (encRH x1.r) (encRH (rrF x1)))/\True))))))/\((decide ((0:Int)=0)=false)->(True/\((MapEq (.int .i64:: .int .i64:: .int .i64::Kd.str:: .sl [.int .i64]:: .int .i64:: .int .i64::Kd.bool::[]) x1.r.ck (rrF x1).ck (encRC x1.r) (encRC (rrF x1)))/\((MapEq (.int .i64:: .int .i64::Kd.str:: .sl [.int .i64]:: .int .i64:: .int .i64:: .sl [.int .i64]:: .sl [.int .i64]:: .int .i64::Kd.bool::[]) x1.r.ik (rrF x1).ik (encRI x1.r) (encRI (rrF x1)))/\((MapEq [.int .i64] x1.r.hk (rrF x1).hk (encRH x1.r) (encRH (rrF x1)))/\True))))))))))))))))))))=(Keeps cfgRr Tryz.f28 rrC rrI) by kernel_rfl) (fun x1=>fun h2=>⟨⟨(by omega),
(by omega),
(by(have:=h2.l.len;rw[List.length_map]at this;omega))⟩,
((0:Nat)),
⟨(by(try dsimp only at *);omega),
⟨(by(try dsimp only at *);omega),
⟨rfl,
(by(try dsimp only at *);omega)⟩,rfl,
⟨rfl,rfl⟩,
⟨rfl,rfl⟩,
⟨rfl,rfl⟩,
⟨rfl,rfl⟩,
⟨rfl,rfl,rfl,
⟨rfl,rfl⟩,rfl,rfl,
⟨rfl,rfl⟩,
⟨rfl,rfl⟩,rfl,rfl,trivial⟩,
⟨rfl,rfl⟩,trivial⟩,
⟨⟨(by(try dsimp only at *);omega)⟩,
(by(try dsimp only at *);exact rowsEq0)⟩,
⟨rfl,rfl,rfl,
⟨rfl,rfl⟩,rfl,rfl,
⟨rfl,rfl⟩,
⟨rfl,rfl⟩,rfl,rfl,trivial⟩,
⟨trivial,trivial,trivial,trivial⟩,MapEq.rfl',MapEq.rfl',MapEq.rfl',
⟨rl,rr⟩,
⟨rl,rr⟩,
⟨rl,rr⟩,
⟨rl,rr⟩,trivial⟩,
fun x4=>fun h5=>⟨fun g6=>have h6:=dT g6;⟨⟨(by(try dsimp only at *);omega),
(by(try dsimp only at *);omega)⟩,
(by(try dsimp only at *);omega),
⟨⟨trivial,trivial,trivial,trivial,
(by(try dsimp only at *);omega),trivial,trivial,trivial,trivial⟩,trivial⟩,
⟨rfl,
(by(try dsimp only at *);omega),
(by(try dsimp only at *);omega),
(by(try dsimp only at *);(have:=h2.l.len;rw[List.length_map]at this;omega))⟩,
⟨(by(try dsimp only at *);omega),
(by(try dsimp only at *);(have:=h2.l.len;rw[List.length_map]at this;omega))⟩,
(x4+(1:Nat)),
(by(try dsimp only at *);omega),
(by(try dsimp only at *);omega),
⟨(by(try dsimp only at *);omega),
⟨rfl,rfl⟩,rfl,
⟨rfl,rfl⟩,
⟨rfl,rfl⟩,
⟨rfl,rfl⟩,
⟨rfl,rfl⟩,
⟨rfl,rfl,rfl,
⟨rfl,rfl⟩,rfl,rfl,
⟨rfl,rfl⟩,
⟨rfl,rfl⟩,rfl,rfl,trivial⟩,
⟨rfl,rfl⟩,trivial⟩,
⟨rl,
(by(try dsimp only at *);(rw[nat0];exact rr_push (n:=fun _ _=>.i 0) h6 h2 fun hm=>by simp only[if_pos hm];exact rowC_eq _))⟩,
⟨rfl,rfl,rfl,
⟨rfl,rfl⟩,rfl,rfl,
⟨rfl,rfl⟩,
⟨rfl,rfl⟩,rfl,rfl,trivial⟩,
⟨trivial,trivial,trivial,trivial⟩,MapEq.rfl',MapEq.rfl',MapEq.rfl',
⟨rl,rr⟩,
⟨rl,rr⟩,
⟨rl,rr⟩,
⟨rl,rr⟩,trivial⟩,
fun g8=>have h8:=dF g8;⟨({ x:=RRx.x x1,l:=List.map (Rg.c (RRx.r x1)) (RRx.l x1):RBx }),
(by(try dsimp only at *);exact⟨h2.x,h2.m,h2.l⟩),
⟨⟨rfl,rfl,rfl,
⟨rfl,rfl⟩,rfl,rfl,
⟨rfl,rfl⟩,
⟨rfl,rfl⟩,rfl,rfl,trivial⟩,
⟨rfl,
(by(try dsimp only at *);grind)⟩,trivial⟩,
⟨⟨rl,rr⟩,
⟨rl,rr⟩,
⟨rl,rr⟩,
⟨⟨(by(try dsimp only at *);grind)⟩,
(by(try dsimp only at *);(rw[show x4=x1.l.length by omega,List.take_length];exact rr))⟩,trivial⟩,
fun g10=>have h10:=dT g10;⟨⟨trivial,trivial,trivial,
(by(try dsimp only at *);omega),trivial,trivial,
(by(try dsimp only at *);omega),
(by(try dsimp only at *);omega),trivial,trivial,trivial⟩,trivial,
(by(try dsimp only at *);exact MapEq.rfl'),
(by(try dsimp only at *);exact put_mapI _ _ (rebI_core _ _).1.symm (rowI_eq _)),
(by(try dsimp only at *);exact MapEq.rfl'),trivial⟩,
fun g11=>have h11:=dF g11;⟨trivial,
(by(try dsimp only at *);omega),
(by(try dsimp only at *);omega),
(by(try dsimp only at *);omega),trivial⟩⟩⟩⟩)
theorem rr_good:Good Tryz.prog 28 rrC/\FnOk Tryz.prog 28:=good_of tok conRr (fn:=Tryz.f28) rfl (by decide+kernel) (fun _=>rfl) rr_keeps
end Go.Sym