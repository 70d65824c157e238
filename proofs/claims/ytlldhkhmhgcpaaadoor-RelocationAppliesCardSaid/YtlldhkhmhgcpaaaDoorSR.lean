import Derived.Test.YtlldhkhmhgcpaaaDoorCM
import Derived.Test.YtlldhkhmhgcpaaaDoorC1
import Derived.Test.YtlldhkhmhgcpaaaDoorXD
namespace Go.Sym
set_option linter.unusedVariables false
set_option linter.unusedSimpArgs false
open Go.Proofs
set_option maxRecDepth 100000
set_option maxHeartbeats 8000000
structure Hs where
 x:Sr
 ks:List Int
 p:Pos
 b:Bst
structure HsOk (h:Hs):Prop where
 g:GOk h.x.g
 us:h.x.us.length<=12
 tg:h.x.tg.length<=12
 nl:h.p.nd.length=h.x.us.length
 ks:∀ a∈h.p.nd,a∈h.ks
 kt:∀ a∈h.x.tg,a∈h.ks
 mv:h.p.mv.length<=12
 dur:0<=h.p.dur/\h.p.dur<=70368744177664*h.p.mv.length
def dsR (x:Sr) (a:Int) (_:Nat):D:=.l x.g.n (encL encI (distG x.g x.ts [a] true))
def kD:List Kd:=[.sl k1]
def hsV (h:Hs) (lm lb:Nat):List SV:=[.sl 100001 0 h.x.us.length,.sl 100002 0 h.x.tg.length,.mp 100003,.sl 100004 0 h.p.nd.length,.sl lm 0 h.p.mv.length,.i .i64 h.p.dur,.b h.b.found,.sl lb 0 h.b.best.length,.i .i64 h.b.worst,.i .i64 h.b.total]
def hsH (m:Md) (h:Hs) (lm lb:Nat):List (Nat × Blk):=[(100000,.one m (hsV h lm lb)),(100004,.rows m k1 h.p.nd.length (encL encI h.p.nd)),(lm,.rows m kM h.p.mv.length (encL encM h.p.mv)),(lb,.rows m kM h.b.best.length (encL encM h.b.best))]
def hsS (h:Hs):List (Nat × Blk):=[(100001,.rows .bor kU h.x.us.length (encL encU h.x.us)),(100002,.rows .bor k1 h.x.tg.length (encL encI h.x.tg)),(100003,.map .bor .i64 kD false h.ks (dsR h.x))]
structure DsX where
 h:Hs
 a:Int
 b:Int
def dsC:CT where
 X:=DsX
 pre:=fun x=>HsOk x.h/\x.a∈x.h.ks
 args:=fun x=>[.p 100000 0 0,.i .i64 x.a,.i .i64 x.b]
 g0:=fun x=>hsH .bor x.h 100005 100006++hsS x.h
 res:=fun x=>.i .i64 (dsF x.h.x x.a x.b)
 g1:=fun _=>[]
def cfgDs:Cfg:=⟨T,[],[],noInv,60,{ kn:=true }⟩
theorem ds_at {x:DsX} (h:HsOk x.h/\x.a∈x.h.ks):(if x.a∈x.h.ks then dsR x.h.x x.a 0 else D.l 0 fun _ _=>D.i 0)= .l x.h.x.g.n (encL encI (distG x.h.x.g x.h.x.ts [x.a] true)):=by rw[if_pos h.2];rfl
theorem ds_1 {x:DsX} (h:HsOk x.h/\x.a∈x.h.ks) (h1:(((if x.a∈x.h.ks then dsR x.h.x x.a 0 else D.l 0 fun _ _=>D.i 0).toN:Nat):Int)<=x.b):4611686018427387904=dsF x.h.x x.a x.b:=by
 rw[ds_at h]at h1
 have h1:(x.h.x.g.n:Int)<=x.b:=h1
 unfold dsF
 rw[if_neg (by omega)]
 rfl
theorem ds_2 {x:DsX} (h:HsOk x.h/\x.a∈x.h.ks) (h0:¬ x.b<0) (h1:¬ (((if x.a∈x.h.ks then dsR x.h.x x.a 0 else D.l 0 fun _ _=>D.i 0).toN:Nat):Int)<=x.b):((if x.a∈x.h.ks then dsR x.h.x x.a 0 else D.l 0 fun _ _=>D.i 0).toF (0+x.b.toNat) 0).toI=dsF x.h.x x.a x.b:=by
 rw[ds_at h]at h1 ⊢
 have h1:¬ (x.h.x.g.n:Int)<=x.b:=h1
 unfold dsF
 rw[if_pos (by omega),Nat.zero_add]
 rfl
theorem ds_3 {x:DsX} (h:x.b<0):4611686018427387904=dsF x.h.x x.a x.b:=by
 unfold dsF
 rw[if_neg (by omega)]
 rfl
set_option maxRecDepth 100000 in
theorem ds_keeps:Keeps cfgDs Tryd.f55 dsC noIv:=Eq.mp (show((∀ x1:DsX,((HsOk x1.h/\x1.a∈x1.h.ks)->(((decide (x1.b<(0:Int))=false)->(((decide ((↑(D.toN (if x1.a∈x1.h.ks then dsR x1.h.x x1.a 0 else D.l 0 fun(x x_1:Nat)=>D.i 0)):Int)<=x1.b)=true)->(((4611686018427387904:Int)=dsF x1.h.x x1.a x1.b)/\True))/\((decide ((↑(D.toN (if x1.a∈x1.h.ks then dsR x1.h.x x1.a 0 else D.l 0 fun(x x_1:Nat)=>D.i 0)):Int)<=x1.b)=false)->((((0:Int)<=x1.b)/\(x1.b<(↑(D.toN (if x1.a∈x1.h.ks then dsR x1.h.x x1.a 0 else D.l 0 fun(x x_1:Nat)=>D.i 0)):Int)))/\((0+Int.toNat x1.b<D.toN (if x1.a∈x1.h.ks then dsR x1.h.x x1.a 0 else D.l 0 fun(x x_1:Nat)=>D.i 0))/\((D.toI (D.toF (if x1.a∈x1.h.ks then dsR x1.h.x x1.a 0 else D.l 0 fun(x x_1:Nat)=>D.i 0) (0+Int.toNat x1.b) 0)=dsF x1.h.x x1.a x1.b)/\True))))))/\((decide (x1.b<(0:Int))=true)->(((4611686018427387904:Int)=dsF x1.h.x x1.a x1.b)/\True))))))=(Keeps cfgDs Tryd.f55 dsC noIv) by kernel_rfl) (fun x1=>fun h2=>⟨fun g3=>have h3:=dF g3;⟨fun g4=>have h4:=dT g4;⟨(by exact ds_1 h2 ‹_›),trivial⟩,
fun g5=>have h5:=dF g5;⟨⟨(by omega),
(by omega)⟩,
(by omega),
(by exact ds_2 h2 ‹_› ‹_›),trivial⟩⟩,
fun g6=>have h6:=dT g6;⟨(by exact ds_3 ‹_›),trivial⟩⟩)
theorem conDs:ConOk Tryd.prog cfgDs:=ConL.ok .nil
theorem ds_good:Good Tryd.prog 55 dsC/\FnOk Tryd.prog 55:=good_of tok conDs (fn:=Tryd.f55) rfl (by decide+kernel) (fun _=>rfl) ds_keeps
def wtC:CT where
 X:=Hs
 pre:=HsOk
 args:=fun _=>[.p 100000 0 0]
 g0:=fun h=>hsH .bor h 100005 100006++hsS h
 res:=fun h=>.i .i64 (waitF h.x h.p.nd)
 g1:=fun _=>[]
theorem wt_s {h:Hs} {k:Nat} (hk:(k:Int)<h.x.tg.length):max (waitA h.x h.p.nd k) (nearF h.x (h.x.tg.getD (0+(k:Int).toNat) default) h.p.nd)=waitA h.x h.p.nd (k+1):=by
 rw[nat0]
 unfold waitA
 rw[take_succ_getD (d:=default) (by omega),List.foldl_append]
 rfl
theorem wt_t {h:Hs} {k:Nat} (hk:¬ (k:Int)<h.x.tg.length):waitA h.x h.p.nd k=waitF h.x h.p.nd:=by
 unfold waitA waitF
 rw[List.take_of_length_le (by omega)]
theorem nr_s {h:Hs} {t:Int} {j:Nat} (hj:(j:Int)<h.p.nd.length):min (nearA h.x t h.p.nd j) (dsF h.x (h.p.nd.getD (0+(j:Int).toNat) default) t)=nearA h.x t h.p.nd (j+1):=by
 rw[nat0]
 unfold nearA
 rw[take_succ_getD (d:=default) (by omega),List.foldl_append]
 rfl
theorem nr_t {h:Hs} {t:Int} {j:Nat} (hj:¬ (j:Int)<h.p.nd.length):nearA h.x t h.p.nd j=nearF h.x t h.p.nd:=by
 unfold nearA nearF
 rw[List.take_of_length_le (by omega)]
theorem hs_in {h:Hs} (H:HsOk h) {j:Nat} (hj:(j:Int)<h.p.nd.length):h.p.nd.getD (0+(j:Int).toNat) default∈h.ks:=by
 rw[nat0]
 refine H.ks _ ?_
 rw[List.getD_eq_getElem?_getD,List.getElem?_eq_getElem (show j<h.p.nd.length by omega)]
 exact List.getElem_mem _
def wtI (h:Hs) (id:Nat):Option Inv:=match id with
 | 0 => some { X := Nat, ok := fun k => k <= h.x.tg.length, fr := fun k => [(0, .p 100000 0 0), (3, .i .i64 (waitA h.x h.p.nd k)), (12, .sl 100002 0 h.x.tg.length), (13, .i .i64 h.x.tg.length), (14, .i .i64 k)], hp := fun _ => [], me := fun k => h.x.tg.length - k,
               inn:=fun k id=>match id with
                |2=>some { X:=Nat,ok:=fun j=>j<=h.p.nd.length,fr:=fun j=>[(0,.p 100000 0 0),(3,.i .i64 (waitA h.x h.p.nd k)),(5,.i .i64 (h.x.tg.getD (0+(k:Int).toNat) default)),(6,.i .i64 (nearA h.x (h.x.tg.getD (0+(k:Int).toNat) default) h.p.nd j)),(12,.sl 100002 0 h.x.tg.length),(13,.i .i64 h.x.tg.length),(14,.i .i64 k),(21,.sl 100004 0 h.p.nd.length),(22,.i .i64 h.p.nd.length),(23,.i .i64 j)],hp:=fun _=>[],me:=fun j=>h.p.nd.length-j }
                |_=>none }
 |_=>none
def cfgWt:Cfg:=⟨T,[],[(55,.one dsC)],noInv,60,{ kn:=true }⟩
theorem conWt:ConOk Tryd.prog cfgWt:=ConL.ok (.cons (ConL.one ds_good) .nil)
set_option maxRecDepth 100000 in
theorem wt_keeps:Keeps cfgWt Tryd.f75 wtC wtI:=Eq.mp (show((∀ x1:Hs,((HsOk x1)->(∃ x3:Nat,(((x3<=x1.x.tg.length)/\(((0=0/\0=0)/\(((0:Int)=waitA x1.x x1.p.nd x3)/\((0=0/\x1.x.tg.length=x1.x.tg.length)/\(((x1.x.tg.length:Int)=(x1.x.tg.length:Int))/\((0=(x3:Int))/\((0=0/\((1:Nat)=(1:Nat)))/\((0=0/\0=0)/\((0=0/\0=0)/\(((0:Int)=0)/\True)))))))))/\(((0=0/\x1.x.us.length=x1.x.us.length)/\((0=0/\x1.x.tg.length=x1.x.tg.length)/\(True/\((0=0/\x1.p.nd.length=x1.p.nd.length)/\((0=0/\x1.p.mv.length=x1.p.mv.length)/\(x1.p.dur=x1.p.dur/\(x1.b.found=x1.b.found/\((0=0/\x1.b.best.length=x1.b.best.length)/\(x1.b.worst=x1.b.worst/\(x1.b.total=x1.b.total/\True))))))))))/\(((RLe x1.p.nd.length x1.p.nd.length)/\(RI x1.p.nd.length x1.p.nd x1.p.nd))/\(((RLe x1.p.mv.length x1.p.mv.length)/\(RowsEq [.int .i64,.int .i64] x1.p.mv.length (encL encM x1.p.mv) (encL encM x1.p.mv)))/\(((RLe x1.b.best.length x1.b.best.length)/\(RowsEq [.int .i64,.int .i64] x1.b.best.length (encL encM x1.b.best) (encL encM x1.b.best)))/\(((RLe x1.x.us.length x1.x.us.length)/\(RowsEq [.int .i64,.int .i64,.int .i64,.int .i64,.int .i64,.int .i64,.int .i64,.int .i64,.int .i64,.int .i64] x1.x.us.length (encL encU x1.x.us) (encL encU x1.x.us)))/\(((RLe x1.x.tg.length x1.x.tg.length)/\(RI x1.x.tg.length x1.x.tg x1.x.tg))/\((MapEq [.sl [.int .i64]] x1.ks x1.ks (dsR x1.x) (dsR x1.x))/\True)))))))))/\(∀ x4:Nat,((x4<=x1.x.tg.length)->(((decide ((x4:Int)<(x1.x.tg.length:Int))=true)->((((0:Int)<=(x4:Int))/\((x4:Int)<(x1.x.tg.length:Int)))/\((0+Int.toNat (x4:Int)<x1.x.tg.length)/\(∃ x7:Nat,(((x7<=x1.p.nd.length)/\(((0=0/\0=0)/\((waitA x1.x x1.p.nd x4=waitA x1.x x1.p.nd x4)/\((x1.x.tg.getD (0+Int.toNat (x4:Int)) default=x1.x.tg.getD (0+Int.toNat (x4:Int)) default)/\(((4611686018427387904:Int)=nearA x1.x (x1.x.tg.getD (0+Int.toNat (x4:Int)) default) x1.p.nd x7)/\((0=0/\x1.x.tg.length=x1.x.tg.length)/\(((x1.x.tg.length:Int)=(x1.x.tg.length:Int))/\(((x4:Int)=(x4:Int))/\((0=0/\x1.p.nd.length=x1.p.nd.length)/\(((x1.p.nd.length:Int)=(x1.p.nd.length:Int))/\((0=(x7:Int))/\((0=0/\((3:Nat)=(3:Nat)))/\((0=0/\0=0)/\((0=0/\0=0)/\((x1.x.tg.getD (0+Int.toNat (x4:Int)) default=x1.x.tg.getD (0+Int.toNat (x4:Int)) default)/\(((0+Int.toNat (x4:Int)=0+Int.toNat (x4:Int))/\0=0)/\(true=true/\((0=0/\((1:Nat)=(1:Nat)))/\((0=0/\0=0)/\((0=0/\0=0)/\(((0:Int)=0)/\True))))))))))))))))))))/\(((0=0/\x1.x.us.length=x1.x.us.length)/\((0=0/\x1.x.tg.length=x1.x.tg.length)/\(True/\((0=0/\x1.p.nd.length=x1.p.nd.length)/\((0=0/\x1.p.mv.length=x1.p.mv.length)/\(x1.p.dur=x1.p.dur/\(x1.b.found=x1.b.found/\((0=0/\x1.b.best.length=x1.b.best.length)/\(x1.b.worst=x1.b.worst/\(x1.b.total=x1.b.total/\True))))))))))/\(((RLe x1.p.nd.length x1.p.nd.length)/\(RI x1.p.nd.length x1.p.nd x1.p.nd))/\(((RLe x1.p.mv.length x1.p.mv.length)/\(RowsEq [.int .i64,.int .i64] x1.p.mv.length (encL encM x1.p.mv) (encL encM x1.p.mv)))/\(((RLe x1.b.best.length x1.b.best.length)/\(RowsEq [.int .i64,.int .i64] x1.b.best.length (encL encM x1.b.best) (encL encM x1.b.best)))/\(((RLe x1.x.us.length x1.x.us.length)/\(RowsEq [.int .i64,.int .i64,.int .i64,.int .i64,.int .i64,.int .i64,.int .i64,.int .i64,.int .i64,.int .i64] x1.x.us.length (encL encU x1.x.us) (encL encU x1.x.us)))/\(((RLe x1.x.tg.length x1.x.tg.length)/\(RI x1.x.tg.length x1.x.tg x1.x.tg))/\((MapEq [.sl [.int .i64]] x1.ks x1.ks (dsR x1.x) (dsR x1.x))/\True)))))))))/\(∀ x8:Nat,((x8<=x1.p.nd.length)->(((decide ((x8:Int)<(x1.p.nd.length:Int))=true)->((((0:Int)<=(x8:Int))/\((x8:Int)<(x1.p.nd.length:Int)))/\((0+Int.toNat (x8:Int)<x1.p.nd.length)/\(∃ x11:DsX,(((HsOk x11.h)/\(x11.a∈x11.h.ks))/\(((0=0/\0=0)/\((x1.p.nd.getD (0+Int.toNat (x8:Int)) default=x11.a)/\((x1.x.tg.getD (0+Int.toNat (x4:Int)) default=x11.b)/\True)))/\((((0=0/\x1.x.us.length=x11.h.x.us.length)/\((0=0/\x1.x.tg.length=x11.h.x.tg.length)/\(True/\((0=0/\x1.p.nd.length=x11.h.p.nd.length)/\((0=0/\x1.p.mv.length=x11.h.p.mv.length)/\(x1.p.dur=x11.h.p.dur/\(x1.b.found=x11.h.b.found/\((0=0/\x1.b.best.length=x11.h.b.best.length)/\(x1.b.worst=x11.h.b.worst/\(x1.b.total=x11.h.b.total/\True))))))))))/\(((RLe x11.h.p.nd.length x1.p.nd.length)/\(RI x11.h.p.nd.length x1.p.nd x11.h.p.nd))/\(((RLe x11.h.p.mv.length x1.p.mv.length)/\(RowsEq [.int .i64,.int .i64] x11.h.p.mv.length (encL encM x1.p.mv) (encL encM x11.h.p.mv)))/\(((RLe x11.h.b.best.length x1.b.best.length)/\(RowsEq [.int .i64,.int .i64] x11.h.b.best.length (encL encM x1.b.best) (encL encM x11.h.b.best)))/\(((RLe x11.h.x.us.length x1.x.us.length)/\(RowsEq [.int .i64,.int .i64,.int .i64,.int .i64,.int .i64,.int .i64,.int .i64,.int .i64,.int .i64,.int .i64] x11.h.x.us.length (encL encU x1.x.us) (encL encU x11.h.x.us)))/\(((RLe x11.h.x.tg.length x1.x.tg.length)/\(RI x11.h.x.tg.length x1.x.tg x11.h.x.tg))/\((MapEq [.sl [.int .i64]] x1.ks x11.h.ks (dsR x1.x) (dsR x11.h.x))/\True)))))))/\((((-9223372036854775808:Int)<=(x8:Int)+1)/\((x8:Int)+1<=(9223372036854775807:Int)))/\(∃ x12:Nat,((x1.p.nd.length-x12<x1.p.nd.length-x8)/\((x12<=x1.p.nd.length)/\(((0=0/\0=0)/\((waitA x1.x x1.p.nd x4=waitA x1.x x1.p.nd x4)/\((x1.x.tg.getD (0+Int.toNat (x4:Int)) default=x1.x.tg.getD (0+Int.toNat (x4:Int)) default)/\((min (nearA x1.x (x1.x.tg.getD (0+Int.toNat (x4:Int)) default) x1.p.nd x8) (dsF x11.h.x x11.a x11.b)=nearA x1.x (x1.x.tg.getD (0+Int.toNat (x4:Int)) default) x1.p.nd x12)/\((0=0/\x1.x.tg.length=x1.x.tg.length)/\(((x1.x.tg.length:Int)=(x1.x.tg.length:Int))/\(((x4:Int)=(x4:Int))/\((0=0/\x1.p.nd.length=x1.p.nd.length)/\(((x1.p.nd.length:Int)=(x1.p.nd.length:Int))/\(((x8:Int)+1=(x12:Int))/\((0=0/\((3:Nat)=(3:Nat)))/\((0=0/\0=0)/\((0=0/\0=0)/\((x1.x.tg.getD (0+Int.toNat (x4:Int)) default=x1.x.tg.getD (0+Int.toNat (x4:Int)) default)/\(((0+Int.toNat (x4:Int)=0+Int.toNat (x4:Int))/\0=0)/\(true=true/\((0=0/\((1:Nat)=(1:Nat)))/\((0=0/\0=0)/\((0=0/\0=0)/\(((0:Int)=0)/\True))))))))))))))))))))/\(((0=0/\x1.x.us.length=x1.x.us.length)/\((0=0/\x1.x.tg.length=x1.x.tg.length)/\(True/\((0=0/\x1.p.nd.length=x1.p.nd.length)/\((0=0/\x1.p.mv.length=x1.p.mv.length)/\(x1.p.dur=x1.p.dur/\(x1.b.found=x1.b.found/\((0=0/\x1.b.best.length=x1.b.best.length)/\(x1.b.worst=x1.b.worst/\(x1.b.total=x1.b.total/\True))))))))))/\(((RLe x1.p.nd.length x1.p.nd.length)/\(RI x1.p.nd.length x1.p.nd x1.p.nd))/\(((RLe x1.p.mv.length x1.p.mv.length)/\(RowsEq [.int .i64,.int .i64] x1.p.mv.length (encL encM x1.p.mv) (encL encM x1.p.mv)))/\(((RLe x1.b.best.length x1.b.best.length)/\(RowsEq [.int .i64,.int .i64] x1.b.best.length (encL encM x1.b.best) (encL encM x1.b.best)))/\(((RLe x1.x.us.length x1.x.us.length)/\(RowsEq [.int .i64,.int .i64,.int .i64,.int .i64,.int .i64,.int .i64,.int .i64,.int .i64,.int .i64,.int .i64] x1.x.us.length (encL encU x1.x.us) (encL encU x1.x.us)))/\(((RLe x1.x.tg.length x1.x.tg.length)/\(RI x1.x.tg.length x1.x.tg x1.x.tg))/\((MapEq [.sl [.int .i64]] x1.ks x1.ks (dsR x1.x) (dsR x1.x))/\True)))))))))))))))))))/\((decide ((x8:Int)<(x1.p.nd.length:Int))=false)->((((-9223372036854775808:Int)<=(x4:Int)+1)/\((x4:Int)+1<=(9223372036854775807:Int)))/\(∃ x14:Nat,((x1.x.tg.length-x14<x1.x.tg.length-x4)/\((x14<=x1.x.tg.length)/\(((0=0/\0=0)/\((max (waitA x1.x x1.p.nd x4) (nearA x1.x (x1.x.tg.getD (0+Int.toNat (x4:Int)) default) x1.p.nd x8)=waitA x1.x x1.p.nd x14)/\((0=0/\x1.x.tg.length=x1.x.tg.length)/\(((x1.x.tg.length:Int)=(x1.x.tg.length:Int))/\(((x4:Int)+1=(x14:Int))/\((0=0/\((1:Nat)=(1:Nat)))/\((0=0/\0=0)/\((0=0/\0=0)/\(((0:Int)=0)/\True)))))))))/\(((0=0/\x1.x.us.length=x1.x.us.length)/\((0=0/\x1.x.tg.length=x1.x.tg.length)/\(True/\((0=0/\x1.p.nd.length=x1.p.nd.length)/\((0=0/\x1.p.mv.length=x1.p.mv.length)/\(x1.p.dur=x1.p.dur/\(x1.b.found=x1.b.found/\((0=0/\x1.b.best.length=x1.b.best.length)/\(x1.b.worst=x1.b.worst/\(x1.b.total=x1.b.total/\True))))))))))/\(((RLe x1.p.nd.length x1.p.nd.length)/\(RI x1.p.nd.length x1.p.nd x1.p.nd))/\(((RLe x1.p.mv.length x1.p.mv.length)/\(RowsEq [.int .i64,.int .i64] x1.p.mv.length (encL encM x1.p.mv) (encL encM x1.p.mv)))/\(((RLe x1.b.best.length x1.b.best.length)/\(RowsEq [.int .i64,.int .i64] x1.b.best.length (encL encM x1.b.best) (encL encM x1.b.best)))/\(((RLe x1.x.us.length x1.x.us.length)/\(RowsEq [.int .i64,.int .i64,.int .i64,.int .i64,.int .i64,.int .i64,.int .i64,.int .i64,.int .i64,.int .i64] x1.x.us.length (encL encU x1.x.us) (encL encU x1.x.us)))/\(((RLe x1.x.tg.length x1.x.tg.length)/\(RI x1.x.tg.length x1.x.tg x1.x.tg))/\((MapEq [.sl [.int .i64]] x1.ks x1.ks (dsR x1.x) (dsR x1.x))/\True)))))))))))))))))))))/\((decide ((x4:Int)<(x1.x.tg.length:Int))=false)->((waitA x1.x x1.p.nd x4=waitF x1.x x1.p.nd)/\True))))))))))=(Keeps cfgWt Tryd.f75 wtC wtI) by kernel_rfl) (fun x1=>fun h2=>⟨((0:Nat)),
⟨(by(try dsimp only at *);omega),
⟨⟨rfl,rfl⟩,
(by(try dsimp only at *);rfl),
⟨rfl,rfl⟩,rfl,
(by(try dsimp only at *);omega),
⟨rfl,rfl⟩,
⟨rfl,rfl⟩,
⟨rfl,rfl⟩,rfl,trivial⟩,
⟨⟨rfl,rfl⟩,
⟨rfl,rfl⟩,trivial,
⟨rfl,rfl⟩,
⟨rfl,rfl⟩,rfl,rfl,
⟨rfl,rfl⟩,rfl,rfl,trivial⟩,
⟨rl,rr⟩,
⟨rl,rr⟩,
⟨rl,rr⟩,
⟨rl,rr⟩,
⟨rl,rr⟩,MapEq.rfl',trivial⟩,
fun x4=>fun h5=>⟨fun g6=>have h6:=dT g6;⟨⟨(by(try dsimp only at *);omega),
(by(try dsimp only at *);omega)⟩,
(by(try dsimp only at *);omega),
((0:Nat)),
⟨(by(try dsimp only at *);omega),
⟨⟨rfl,rfl⟩,rfl,rfl,
(by(try dsimp only at *);rfl),
⟨rfl,rfl⟩,rfl,rfl,
⟨rfl,rfl⟩,rfl,
(by(try dsimp only at *);omega),
⟨rfl,rfl⟩,
⟨rfl,rfl⟩,
⟨rfl,rfl⟩,rfl,
⟨rfl,rfl⟩,rfl,
⟨rfl,rfl⟩,
⟨rfl,rfl⟩,
⟨rfl,rfl⟩,rfl,trivial⟩,
⟨⟨rfl,rfl⟩,
⟨rfl,rfl⟩,trivial,
⟨rfl,rfl⟩,
⟨rfl,rfl⟩,rfl,rfl,
⟨rfl,rfl⟩,rfl,rfl,trivial⟩,
⟨rl,rr⟩,
⟨rl,rr⟩,
⟨rl,rr⟩,
⟨rl,rr⟩,
⟨rl,rr⟩,MapEq.rfl',trivial⟩,
fun x8=>fun h9=>⟨fun g10=>have h10:=dT g10;⟨⟨(by(try dsimp only at *);omega),
(by(try dsimp only at *);omega)⟩,
(by(try dsimp only at *);omega),
({ h:=x1,a:=List.getD (Pos.nd (Hs.p x1)) ((0:Nat)+Int.toNat (↑x8:Int)) default,b:=List.getD (Sr.tg (Hs.x x1)) ((0:Nat)+Int.toNat (↑x4:Int)) default:DsX }),
⟨(by(try dsimp only at *);omega),
(by(try dsimp only at *);exact hs_in h2 ‹_›)⟩,
⟨⟨rfl,rfl⟩,rfl,rfl,trivial⟩,
⟨⟨⟨rfl,rfl⟩,
⟨rfl,rfl⟩,trivial,
⟨rfl,rfl⟩,
⟨rfl,rfl⟩,rfl,rfl,
⟨rfl,rfl⟩,rfl,rfl,trivial⟩,
⟨rl,rr⟩,
⟨rl,rr⟩,
⟨rl,rr⟩,
⟨rl,rr⟩,
⟨rl,rr⟩,
(by(try dsimp only at *);exact MapEq.rfl'),trivial⟩,
⟨(by(try dsimp only at *);omega),
(by(try dsimp only at *);(have:=h2.nl;have:=h2.us;omega))⟩,
(x8+(1:Nat)),
(by(try dsimp only at *);omega),
(by(try dsimp only at *);omega),
⟨⟨rfl,rfl⟩,rfl,rfl,
(by(try dsimp only at *);exact nr_s ‹_›),
⟨rfl,rfl⟩,rfl,rfl,
⟨rfl,rfl⟩,rfl,
(by(try dsimp only at *);omega),
⟨rfl,rfl⟩,
⟨rfl,rfl⟩,
⟨rfl,rfl⟩,rfl,
⟨rfl,rfl⟩,rfl,
⟨rfl,rfl⟩,
⟨rfl,rfl⟩,
⟨rfl,rfl⟩,rfl,trivial⟩,
⟨⟨rfl,rfl⟩,
⟨rfl,rfl⟩,trivial,
⟨rfl,rfl⟩,
⟨rfl,rfl⟩,rfl,rfl,
⟨rfl,rfl⟩,rfl,rfl,trivial⟩,
⟨rl,rr⟩,
⟨rl,rr⟩,
⟨rl,rr⟩,
⟨rl,rr⟩,
⟨rl,rr⟩,MapEq.rfl',trivial⟩,
fun g13=>have h13:=dF g13;⟨⟨(by(try dsimp only at *);omega),
(by(try dsimp only at *);(have:=h2.tg;omega))⟩,
(x4+(1:Nat)),
(by(try dsimp only at *);omega),
(by(try dsimp only at *);omega),
⟨⟨rfl,rfl⟩,
(by(try dsimp only at *);(rw[nr_t ‹_›];exact wt_s h6)),
⟨rfl,rfl⟩,rfl,
(by(try dsimp only at *);omega),
⟨rfl,rfl⟩,
⟨rfl,rfl⟩,
⟨rfl,rfl⟩,rfl,trivial⟩,
⟨⟨rfl,rfl⟩,
⟨rfl,rfl⟩,trivial,
⟨rfl,rfl⟩,
⟨rfl,rfl⟩,rfl,rfl,
⟨rfl,rfl⟩,rfl,rfl,trivial⟩,
⟨rl,rr⟩,
⟨rl,rr⟩,
⟨rl,rr⟩,
⟨rl,rr⟩,
⟨rl,rr⟩,MapEq.rfl',trivial⟩⟩⟩,
fun g15=>have h15:=dF g15;⟨(by(try dsimp only at *);exact wt_t ‹_›),trivial⟩⟩⟩)
theorem wt_good:Good Tryd.prog 75 wtC/\FnOk Tryd.prog 75:=good_of tok conWt (fn:=Tryd.f75) rfl (by decide+kernel) (fun _=>rfl) wt_keeps
end Go.Sym