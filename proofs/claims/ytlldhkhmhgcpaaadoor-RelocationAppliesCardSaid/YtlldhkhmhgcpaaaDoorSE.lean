import Derived.Test.YtlldhkhmhgcpaaaDoorSX
import Derived.Test.YtlldhkhmhgcpaaaDoorXD
namespace Go.Sym
set_option linter.unusedVariables false
set_option linter.unusedSimpArgs false
open Go.Proofs
set_option maxRecDepth 100000
set_option maxHeartbeats 8000000
structure ExX where
 h:Hs
 fi0:Nat
 m:Nat
theorem HsOk.upd {h:Hs} (H:HsOk h) (b:Bst):HsOk (h.upd b):=⟨H.g,H.us,H.tg,H.nl,H.ks,H.kt,H.mv,H.dur⟩
structure ExOk (x:ExX):Prop where
 h:HsOk x.h
 f:x.fi0<=x.h.x.us.length
 m:x.h.p.mv.length+x.m<=12
def exC (M:Nat):CT where
 X:=ExX
 pre:=fun x=>ExOk x/\x.m<M
 args:=fun x=>[.p 100000 0 0,.i .i64 x.fi0,.i .i64 x.m]
 g0:=fun x=>hsH .own x.h 100005 100006++hsS x.h
 res:=fun _=>.tup []
 g1:=fun x=>hsH .own (x.h.upd (exF x.h.x x.m x.fi0 x.h.p x.h.b)) 2 1++[(100005,.dead),(100006,.dead)]
def exB (x:ExX) (i:Nat):Bst:=exA x.h.x (x.m-1) x.h.p x.fi0 i x.h.b
def exK (x:ExX) (i k:Nat):Bst:=exT x.h.x (x.m-1) x.h.p i k (exB x i)
def frm (x:ExX) (i:Nat):Int:=x.h.p.nd.getD (0+(i:Int).toNat) default
def tgt (x:ExX) (k:Nat):Int:=x.h.x.tg.getD (0+(k:Int).toNat) default
def pushH (x:ExX) (i k:Nat):Hs:=⟨x.h.x,x.h.ks,pushP x.h.x x.h.p i (tgt x k),exK x i k⟩
def exI (x:ExX) (id:Nat):Option Inv:=match id with
 | 0 => some { X := Nat, ok := fun i => x.fi0 <= i /\ i <= x.h.x.us.length, fr := fun i => [(0, .p 100000 0 0), (2, .i .i64 x.m), (6, .i .i64 i)], hp := fun i => hsH .own (x.h.upd (exB x i)) 331 332 ++ [(100005, .dead), (100006, .dead)], me := fun i => x.h.x.us.length - i,
               inn:=fun i id=>match id with
                |2=>some { X:=Nat,ok:=fun k=>k<=x.h.x.tg.length,fr:=fun k=>[(0,.p 100000 0 0),(2,.i .i64 x.m),(6,.i .i64 i),(7,.i .i64 (frm x i)),(35,.sl 100002 0 x.h.x.tg.length),(36,.i .i64 x.h.x.tg.length),(37,.i .i64 k)],hp:=fun k=>hsH .own (x.h.upd (exK x i k)) 333 334++[(100005,.dead),(100006,.dead)],me:=fun k=>x.h.x.tg.length-k }
                |_=>none }
 |_=>none
def cfgEx (M:Nat):Cfg:=⟨T,[],[(54,.one cnC),(55,.one dsC),(35,.one (exC M))],noInv,130,{ kn:=true }⟩
theorem ex_lt {x:ExX} {i:Nat} {b:Bst} (h:(i:Int)<(x.h.upd b).x.us.length):i<x.h.x.us.length:=by
 have h:(i:Int)<x.h.x.us.length:=h
 omega
theorem ex_n {x:ExX} (H:ExOk x) {i:Nat} (hi:i<x.h.x.us.length):i<x.h.p.nd.length:=by rw[H.h.nl];exact hi
theorem ex_in {x:ExX} (H:ExOk x) {i:Nat} (hi:i<x.h.x.us.length):frm x i∈x.h.ks:=hs_in H.h (by have:=ex_n H hi;omega)
theorem ex_d {x:ExX} (H:ExOk x) {i k:Nat} (hd:¬ dsF x.h.x (frm x i) (tgt x k)=4611686018427387904):0<=dsF x.h.x (frm x i) (tgt x k)/\dsF x.h.x (frm x i) (tgt x k)<=70368744177664:=by
 have:=dsF_r (x:=x.h.x) H.h.g (frm x i) (tgt x k)
 exact⟨this.1,this.2.resolve_left hd⟩
theorem ex_dur {x:ExX} (H:ExOk x):0<=x.h.p.dur/\x.h.p.dur<=844424930131968:=by
 have:=H.h.dur
 have:=H.h.mv
 omega
theorem ex_sum {x:ExX} (H:ExOk x) {i k:Nat} (hd:¬ dsF x.h.x (frm x i) (tgt x k)=4611686018427387904): -9223372036854775808<=x.h.p.dur+dsF x.h.x (frm x i) (tgt x k)/\x.h.p.dur+dsF x.h.x (frm x i) (tgt x k)<=9223372036854775807:=by
 have:=ex_dur H
 have:=ex_d H hd
 omega
theorem p_dur {x:ExX} {i k:Nat}:(pushH x i k).p.dur=x.h.p.dur+dsF x.h.x (frm x i) (tgt x k):=by
 unfold frm
 rw[nat0]
 rfl
theorem p_mv {x:ExX} {i k:Nat}:(pushH x i k).p.mv=x.h.p.mv++[((x.h.x.us.getD (0+(i:Int).toNat) default).id,tgt x k)]:=by
 rw[nat0]
 rfl
theorem p_len {x:ExX} {i k:Nat}:(pushH x i k).p.mv.length=x.h.p.mv.length+1:=by rw[p_mv];simp
theorem p_nl {x:ExX} {i k:Nat}:(pushH x i k).p.nd.length=x.h.p.nd.length:=List.length_set
theorem ex_back {x:ExX} {i k:Nat}:(pushH x i k).p.dur-dsF x.h.x (frm x i) (tgt x k)=x.h.p.dur:=by rw[p_dur];omega
theorem ex_bk {x:ExX} (H:ExOk x) {i k:Nat}: -9223372036854775808<=(pushH x i k).p.dur-dsF x.h.x (frm x i) (tgt x k)/\(pushH x i k).p.dur-dsF x.h.x (frm x i) (tgt x k)<=9223372036854775807:=by
 rw[ex_back]
 have:=ex_dur H
 omega
theorem ex_t {x:ExX} (H:ExOk x) {k:Nat} (hk:(k:Int)<x.h.x.tg.length):tgt x k∈x.h.ks:=by
 refine H.h.kt _ ?_
 unfold tgt
 rw[nat0,List.getD_eq_getElem?_getD,List.getElem?_eq_getElem (show k<x.h.x.tg.length by omega)]
 exact List.getElem_mem _
theorem push_ok {x:ExX} (H:ExOk x) (hm:¬ (x.m:Int)=0) {i k:Nat} (hi:i<x.h.x.us.length) (hk:(k:Int)<x.h.x.tg.length) (hd:¬ dsF x.h.x (frm x i) (tgt x k)=4611686018427387904):ExOk ⟨pushH x i k,i+1,x.m-1⟩:=by
 have hH:=H.h
 have hmm:=H.m
 have hl:=p_len (x:=x) (i:=i) (k:=k)
 refine⟨⟨hH.g,hH.us,hH.tg,?_,fun a ha=>?_,hH.kt,?_,?_⟩,hi,?_⟩
 ·show(pushH x i k).p.nd.length=x.h.x.us.length
  rw[p_nl];exact hH.nl
 ·have ha:a∈x.h.p.nd.set i (tgt x k):=ha
  rcases List.mem_or_eq_of_mem_set ha with q|q
  ·exact hH.ks a q
  ·rw[q];exact ex_t H hk
 ·show(pushH x i k).p.mv.length<=12
  omega
 ·show 0<=(pushH x i k).p.dur/\(pushH x i k).p.dur<=70368744177664*((pushH x i k).p.mv.length:Int)
  rw[p_dur,hl]
  have:=hH.dur
  have:=ex_d H hd
  omega
 ·show(pushH x i k).p.mv.length+(x.m-1)<=12
  omega
theorem ex_set {x:ExX} (H:ExOk x) {i k m:Nat} (hi:i<x.h.x.us.length):RowsEq k1 m (setRow (encL encI x.h.p.nd) (0+(i:Int).toNat) 0 [D.i (tgt x k)]) (encL encI (pushH x i k).p.nd):=by
 rw[nat0]
 exact rowsEq_set (ex_n H hi) ⟨rfl,trivial⟩
theorem ex_unset {x:ExX} (H:ExOk x) {i k m:Nat} (hi:i<x.h.x.us.length):RowsEq k1 m (setRow (encL encI (pushH x i k).p.nd) (0+(i:Int).toNat) 0 [D.i (frm x i)]) (encL encI x.h.p.nd):=by
 have hn:=ex_n H hi
 have e:(x.h.p.nd.set i (tgt x k)).set i (frm x i)=x.h.p.nd:=by
  rw[List.set_set]
  apply List.ext_getElem (by simp)
  intro j h1 h2
  rw[List.getElem_set]
  split
  ·rename_i h3
   subst h3
   unfold frm
   rw[nat0,List.getD_eq_getElem?_getD,List.getElem?_eq_getElem h2]
   rfl
  ·rfl
 have:RowsEq k1 m (setRow (encL encI (x.h.p.nd.set i (tgt x k))) i 0 [D.i (frm x i)]) (encL encI ((x.h.p.nd.set i (tgt x k)).set i (frm x i))):=rowsEq_set (by rw[List.length_set];exact hn) ⟨rfl,trivial⟩
 rw[e]at this
 rw[nat0]
 exact this
theorem ex_app {x:ExX} {i k m:Nat} (hm:m<=x.h.p.mv.length+1):RowsEq kM m (appRows x.h.p.mv.length (encL encM x.h.p.mv) 0 (litRows [[D.i (x.h.x.us.getD (0+(i:Int).toNat) default).id,D.i (tgt x k)]])) (encL encM (pushH x i k).p.mv):=by
 rw[p_mv]
 exact rowsEq_push rfl hm ⟨rfl,rfl,trivial⟩
theorem ex_pop {x:ExX} {i k m:Nat} (hm:m<=x.h.p.mv.length):RowsEq kM m (encL encM (pushH x i k).p.mv) (encL encM x.h.p.mv):=by
 rw[p_mv]
 refine⟨fun r hr=>rowEq_of_eq ?_⟩
 funext c
 unfold encL
 rw[List.getD_eq_getElem?_getD,List.getElem?_append_left (by omega),<- List.getD_eq_getElem?_getD]
theorem ex_m0 {x:ExX} (h:(x.m:Int)=0):exF x.h.x x.m x.fi0 x.h.p x.h.b=cnF x.h.x x.h.p x.h.b:=by
 have:x.m=0:=by omega
 rw[this]
 rfl
theorem ex_b0 {x:ExX}:exB x x.fi0=cnF x.h.x x.h.p x.h.b:=exA_0
theorem ex_no {x:ExX} {i k:Nat} (hk:(k:Int)<x.h.x.tg.length) (h:tgt x k=frm x i∨dsF x.h.x (frm x i) (tgt x k)=4611686018427387904):exK x i (k+1)=exK x i k:=by
 unfold exK tgt frm at*
 rw[nat0,nat0]at h
 rw[exT_s (by omega),if_neg]
 unfold goP
 exact fun q=>q h
theorem ex_go {x:ExX} {i k:Nat} (hk:(k:Int)<x.h.x.tg.length) (h:¬ tgt x k=frm x i) (h1:¬ dsF x.h.x (frm x i) (tgt x k)=4611686018427387904):exK x i (k+1)=exF x.h.x (x.m-1) (i+1) (pushH x i k).p (exK x i k):=by
 have e:tgt x k=x.h.x.tg.getD k default:=by unfold tgt;rw[nat0]
 have e2:frm x i=x.h.p.nd.getD i default:=by unfold frm;rw[nat0]
 unfold pushH
 rw[e]at h h1 ⊢
 rw[e2]at h h1
 unfold exK
 rw[exT_s (by omega),if_pos]
 unfold goP
 exact fun q=>q.elim h h1
theorem ex_tt {x:ExX} {i k:Nat} (hi:x.fi0<=i) (hk:k<=x.h.x.tg.length) (h:¬ (k:Int)<x.h.x.tg.length):exB x (i+1)=exK x i k:=by
 have:k=x.h.x.tg.length:=by omega
 subst this
 exact exA_s hi
theorem ex_end {x:ExX} {i:Nat} {b:Bst} (hm:¬ (x.m:Int)=0) (hi:x.fi0<=i/\i<=x.h.x.us.length) (h:¬ (i:Int)<(x.h.upd b).x.us.length):exF x.h.x x.m x.fi0 x.h.p x.h.b=exB x i:=by
 have h:¬ (i:Int)<x.h.x.us.length:=h
 have e:x.m=(x.m-1)+1:=by omega
 conv=>lhs;rw[e]
 exact(exA_t (by omega) (.inl hi.2)).symm
theorem ex_us {x:ExX} (H:ExOk x) {i:Nat} (hi:i<x.h.x.us.length):(i:Int)+1<=9223372036854775807:=by have:=H.h.us;omega
theorem ex_tk {x:ExX} (H:ExOk x) {k:Nat} (hk:(k:Int)<x.h.x.tg.length):(k:Int)+1<=9223372036854775807:=by have:=H.h.tg;omega
set_option maxRecDepth 100000 in
theorem ex_keeps:∀ M:Nat,Keeps (cfgEx M) Tryd.f35 (exC (M+1)) exI:=Eq.mp (show((∀ M1:Nat,(∀ x2:ExX,((ExOk x2/\x2.m<M1+(1:Nat))->(∃ x4:Hs,((HsOk x4)/\(((0=0/\0=0)/\True)/\((((0=0/\x2.h.x.us.length=x4.x.us.length)/\((0=0/\x2.h.x.tg.length=x4.x.tg.length)/\(True/\((0=0/\x2.h.p.nd.length=x4.p.nd.length)/\((0=0/\x2.h.p.mv.length=x4.p.mv.length)/\(x2.h.p.dur=x4.p.dur/\(x2.h.b.found=x4.b.found/\((0=0/\x2.h.b.best.length=x4.b.best.length)/\(x2.h.b.worst=x4.b.worst/\(x2.h.b.total=x4.b.total/\True))))))))))/\(((RLe x4.p.nd.length x2.h.p.nd.length)/\(RI x4.p.nd.length x2.h.p.nd x4.p.nd))/\(((RLe x4.p.mv.length x2.h.p.mv.length)/\(RowsEq [.int .i64,.int .i64] x4.p.mv.length (encL encM x2.h.p.mv) (encL encM x4.p.mv)))/\(((RLe x4.b.best.length x2.h.b.best.length)/\(RowsEq [.int .i64,.int .i64] x4.b.best.length (encL encM x2.h.b.best) (encL encM x4.b.best)))/\(((RLe x4.x.us.length x2.h.x.us.length)/\(RowsEq [.int .i64,.int .i64,.int .i64,.int .i64,.int .i64,.int .i64,.int .i64,.int .i64,.int .i64,.int .i64] x4.x.us.length (encL encU x2.h.x.us) (encL encU x4.x.us)))/\(((RLe x4.x.tg.length x2.h.x.tg.length)/\(RI x4.x.tg.length x2.h.x.tg x4.x.tg))/\((MapEq [.sl [.int .i64]] x2.h.ks x4.ks (dsR x2.h.x) (dsR x4.x))/\True)))))))/\(((decide ((x2.m:Int)=0)=true)->(True/\(((0=0/\((Hs.upd x4 (cnF x4.x x4.p x4.b)).x.us.length=(Hs.upd x2.h (exF x2.h.x x2.m x2.fi0 x2.h.p x2.h.b)).x.us.length))/\((0=0/\((Hs.upd x4 (cnF x4.x x4.p x4.b)).x.tg.length=(Hs.upd x2.h (exF x2.h.x x2.m x2.fi0 x2.h.p x2.h.b)).x.tg.length))/\(True/\((0=0/\((Hs.upd x4 (cnF x4.x x4.p x4.b)).p.nd.length=(Hs.upd x2.h (exF x2.h.x x2.m x2.fi0 x2.h.p x2.h.b)).p.nd.length))/\((0=0/\((Hs.upd x4 (cnF x4.x x4.p x4.b)).p.mv.length=(Hs.upd x2.h (exF x2.h.x x2.m x2.fi0 x2.h.p x2.h.b)).p.mv.length))/\(((Hs.upd x4 (cnF x4.x x4.p x4.b)).p.dur=(Hs.upd x2.h (exF x2.h.x x2.m x2.fi0 x2.h.p x2.h.b)).p.dur)/\(((Hs.upd x4 (cnF x4.x x4.p x4.b)).b.found=(Hs.upd x2.h (exF x2.h.x x2.m x2.fi0 x2.h.p x2.h.b)).b.found)/\((0=0/\((Hs.upd x4 (cnF x4.x x4.p x4.b)).b.best.length=(Hs.upd x2.h (exF x2.h.x x2.m x2.fi0 x2.h.p x2.h.b)).b.best.length))/\(((Hs.upd x4 (cnF x4.x x4.p x4.b)).b.worst=(Hs.upd x2.h (exF x2.h.x x2.m x2.fi0 x2.h.p x2.h.b)).b.worst)/\(((Hs.upd x4 (cnF x4.x x4.p x4.b)).b.total=(Hs.upd x2.h (exF x2.h.x x2.m x2.fi0 x2.h.p x2.h.b)).b.total)/\True))))))))))/\(((RLe (Hs.upd x2.h (exF x2.h.x x2.m x2.fi0 x2.h.p x2.h.b)).p.nd.length (Hs.upd x4 (cnF x4.x x4.p x4.b)).p.nd.length)/\(RowsEq [.int .i64] (Hs.upd x2.h (exF x2.h.x x2.m x2.fi0 x2.h.p x2.h.b)).p.nd.length (encL encI (Hs.upd x4 (cnF x4.x x4.p x4.b)).p.nd) (encL encI (Hs.upd x2.h (exF x2.h.x x2.m x2.fi0 x2.h.p x2.h.b)).p.nd)))/\(((RLe (Hs.upd x2.h (exF x2.h.x x2.m x2.fi0 x2.h.p x2.h.b)).p.mv.length (Hs.upd x4 (cnF x4.x x4.p x4.b)).p.mv.length)/\(RowsEq [.int .i64,.int .i64] (Hs.upd x2.h (exF x2.h.x x2.m x2.fi0 x2.h.p x2.h.b)).p.mv.length (encL encM (Hs.upd x4 (cnF x4.x x4.p x4.b)).p.mv) (encL encM (Hs.upd x2.h (exF x2.h.x x2.m x2.fi0 x2.h.p x2.h.b)).p.mv)))/\(((RLe (Hs.upd x2.h (exF x2.h.x x2.m x2.fi0 x2.h.p x2.h.b)).b.best.length (Hs.upd x4 (cnF x4.x x4.p x4.b)).b.best.length)/\(RowsEq [.int .i64,.int .i64] (Hs.upd x2.h (exF x2.h.x x2.m x2.fi0 x2.h.p x2.h.b)).b.best.length (encL encM (Hs.upd x4 (cnF x4.x x4.p x4.b)).b.best) (encL encM (Hs.upd x2.h (exF x2.h.x x2.m x2.fi0 x2.h.p x2.h.b)).b.best)))/\(True/\(True/\True))))))))/\((decide ((x2.m:Int)=0)=false)->(∃ x7:Nat,((((x2.fi0<=x7)/\(x7<=x2.h.x.us.length))/\(((0=0/\0=0)/\(((x2.m:Int)=(x2.m:Int))/\(((x2.fi0:Int)=(x7:Int))/\(((x2.fi0:Int)=(x2.fi0:Int))/\(false=false/\(((x2.m:Int)=(x2.m:Int))/\(True/\((0=0/\0=0)/\(((x2.fi0:Int)=(x2.fi0:Int))/\True)))))))))/\(((0=0/\((Hs.upd x4 (cnF x4.x x4.p x4.b)).x.us.length=(Hs.upd x2.h (exB x2 x7)).x.us.length))/\((0=0/\((Hs.upd x4 (cnF x4.x x4.p x4.b)).x.tg.length=(Hs.upd x2.h (exB x2 x7)).x.tg.length))/\(True/\((0=0/\((Hs.upd x4 (cnF x4.x x4.p x4.b)).p.nd.length=(Hs.upd x2.h (exB x2 x7)).p.nd.length))/\((0=0/\((Hs.upd x4 (cnF x4.x x4.p x4.b)).p.mv.length=(Hs.upd x2.h (exB x2 x7)).p.mv.length))/\(((Hs.upd x4 (cnF x4.x x4.p x4.b)).p.dur=(Hs.upd x2.h (exB x2 x7)).p.dur)/\(((Hs.upd x4 (cnF x4.x x4.p x4.b)).b.found=(Hs.upd x2.h (exB x2 x7)).b.found)/\((0=0/\((Hs.upd x4 (cnF x4.x x4.p x4.b)).b.best.length=(Hs.upd x2.h (exB x2 x7)).b.best.length))/\(((Hs.upd x4 (cnF x4.x x4.p x4.b)).b.worst=(Hs.upd x2.h (exB x2 x7)).b.worst)/\(((Hs.upd x4 (cnF x4.x x4.p x4.b)).b.total=(Hs.upd x2.h (exB x2 x7)).b.total)/\True))))))))))/\(((RLe (Hs.upd x2.h (exB x2 x7)).p.nd.length (Hs.upd x4 (cnF x4.x x4.p x4.b)).p.nd.length)/\(RowsEq [.int .i64] (Hs.upd x2.h (exB x2 x7)).p.nd.length (encL encI (Hs.upd x4 (cnF x4.x x4.p x4.b)).p.nd) (encL encI (Hs.upd x2.h (exB x2 x7)).p.nd)))/\(((RLe (Hs.upd x2.h (exB x2 x7)).p.mv.length (Hs.upd x4 (cnF x4.x x4.p x4.b)).p.mv.length)/\(RowsEq [.int .i64,.int .i64] (Hs.upd x2.h (exB x2 x7)).p.mv.length (encL encM (Hs.upd x4 (cnF x4.x x4.p x4.b)).p.mv) (encL encM (Hs.upd x2.h (exB x2 x7)).p.mv)))/\(((RLe (Hs.upd x2.h (exB x2 x7)).b.best.length (Hs.upd x4 (cnF x4.x x4.p x4.b)).b.best.length)/\(RowsEq [.int .i64,.int .i64] (Hs.upd x2.h (exB x2 x7)).b.best.length (encL encM (Hs.upd x4 (cnF x4.x x4.p x4.b)).b.best) (encL encM (Hs.upd x2.h (exB x2 x7)).b.best)))/\(True/\(True/\(((RLe x2.h.x.us.length x2.h.x.us.length)/\(RowsEq [.int .i64,.int .i64,.int .i64,.int .i64,.int .i64,.int .i64,.int .i64,.int .i64,.int .i64,.int .i64] x2.h.x.us.length (encL encU x2.h.x.us) (encL encU x2.h.x.us)))/\(((RLe x2.h.x.tg.length x2.h.x.tg.length)/\(RI x2.h.x.tg.length x2.h.x.tg x2.h.x.tg))/\((MapEq [.sl [.int .i64]] x2.h.ks x2.h.ks (dsR x2.h.x) (dsR x2.h.x))/\True)))))))))))/\(∀ x8:Nat,((x2.fi0<=x8/\x8<=x2.h.x.us.length)->(((decide ((x8:Int)<(↑(Hs.upd x2.h (exB x2 x8)).x.us.length:Int))=true)->((((0:Int)<=(x8:Int))/\((x8:Int)<(↑(Hs.upd x2.h (exB x2 x8)).p.nd.length:Int)))/\((0+Int.toNat (x8:Int)<(Hs.upd x2.h (exB x2 x8)).p.nd.length)/\(∃ x11:Nat,(((x11<=x2.h.x.tg.length)/\(((0=0/\0=0)/\(((x2.m:Int)=(x2.m:Int))/\(((x8:Int)=(x8:Int))/\(((Hs.upd x2.h (exB x2 x8)).p.nd.getD (0+Int.toNat (x8:Int)) default=frm x2 x8)/\((0=0/\((Hs.upd x2.h (exB x2 x8)).x.tg.length=x2.h.x.tg.length))/\(((↑(Hs.upd x2.h (exB x2 x8)).x.tg.length:Int)=(x2.h.x.tg.length:Int))/\((0=(x11:Int))/\((0=0/\((1:Nat)=(1:Nat)))/\((0=0/\0=0)/\((0=0/\0=0)/\(((Hs.upd x2.h (exB x2 x8)).p.nd.getD (0+Int.toNat (x8:Int)) default=(Hs.upd x2.h (exB x2 x8)).p.nd.getD (0+Int.toNat (x8:Int)) default)/\(((0+Int.toNat (x8:Int)=0+Int.toNat (x8:Int))/\0=0)/\(((x8:Int)=(x8:Int))/\((0=0/\((Hs.upd x2.h (exB x2 x8)).p.nd.length=(Hs.upd x2.h (exB x2 x8)).p.nd.length))/\((0=0/\((3:Nat)=(3:Nat)))/\((0=0/\0=0)/\((0=0/\0=0)/\(true=true/\(((↑(Hs.upd x2.h (exB x2 x8)).x.us.length:Int)=(↑(Hs.upd x2.h (exB x2 x8)).x.us.length:Int))/\((0=0/\((Hs.upd x2.h (exB x2 x8)).x.us.length=(Hs.upd x2.h (exB x2 x8)).x.us.length))/\((0=0/\0=0)/\((0=0/\0=0)/\((0=0/\0=0)/\(((x8:Int)=(x8:Int))/\(((x2.fi0:Int)=(x2.fi0:Int))/\(false=false/\(((x2.m:Int)=(x2.m:Int))/\(True/\((0=0/\0=0)/\(((x2.fi0:Int)=(x2.fi0:Int))/\True))))))))))))))))))))))))))))))/\(((0=0/\((Hs.upd x2.h (exB x2 x8)).x.us.length=(Hs.upd x2.h (exK x2 x8 x11)).x.us.length))/\((0=0/\((Hs.upd x2.h (exB x2 x8)).x.tg.length=(Hs.upd x2.h (exK x2 x8 x11)).x.tg.length))/\(True/\((0=0/\((Hs.upd x2.h (exB x2 x8)).p.nd.length=(Hs.upd x2.h (exK x2 x8 x11)).p.nd.length))/\((0=0/\((Hs.upd x2.h (exB x2 x8)).p.mv.length=(Hs.upd x2.h (exK x2 x8 x11)).p.mv.length))/\(((Hs.upd x2.h (exB x2 x8)).p.dur=(Hs.upd x2.h (exK x2 x8 x11)).p.dur)/\(((Hs.upd x2.h (exB x2 x8)).b.found=(Hs.upd x2.h (exK x2 x8 x11)).b.found)/\((0=0/\((Hs.upd x2.h (exB x2 x8)).b.best.length=(Hs.upd x2.h (exK x2 x8 x11)).b.best.length))/\(((Hs.upd x2.h (exB x2 x8)).b.worst=(Hs.upd x2.h (exK x2 x8 x11)).b.worst)/\(((Hs.upd x2.h (exB x2 x8)).b.total=(Hs.upd x2.h (exK x2 x8 x11)).b.total)/\True))))))))))/\(((RLe (Hs.upd x2.h (exK x2 x8 x11)).p.nd.length (Hs.upd x2.h (exB x2 x8)).p.nd.length)/\(RowsEq [.int .i64] (Hs.upd x2.h (exK x2 x8 x11)).p.nd.length (encL encI (Hs.upd x2.h (exB x2 x8)).p.nd) (encL encI (Hs.upd x2.h (exK x2 x8 x11)).p.nd)))/\(((RLe (Hs.upd x2.h (exK x2 x8 x11)).p.mv.length (Hs.upd x2.h (exB x2 x8)).p.mv.length)/\(RowsEq [.int .i64,.int .i64] (Hs.upd x2.h (exK x2 x8 x11)).p.mv.length (encL encM (Hs.upd x2.h (exB x2 x8)).p.mv) (encL encM (Hs.upd x2.h (exK x2 x8 x11)).p.mv)))/\(((RLe (Hs.upd x2.h (exK x2 x8 x11)).b.best.length (Hs.upd x2.h (exB x2 x8)).b.best.length)/\(RowsEq [.int .i64,.int .i64] (Hs.upd x2.h (exK x2 x8 x11)).b.best.length (encL encM (Hs.upd x2.h (exB x2 x8)).b.best) (encL encM (Hs.upd x2.h (exK x2 x8 x11)).b.best)))/\(True/\(True/\(((RLe x2.h.x.us.length x2.h.x.us.length)/\(RowsEq [.int .i64,.int .i64,.int .i64,.int .i64,.int .i64,.int .i64,.int .i64,.int .i64,.int .i64,.int .i64] x2.h.x.us.length (encL encU x2.h.x.us) (encL encU x2.h.x.us)))/\(((RLe x2.h.x.tg.length x2.h.x.tg.length)/\(RI x2.h.x.tg.length x2.h.x.tg x2.h.x.tg))/\((MapEq [.sl [.int .i64]] x2.h.ks x2.h.ks (dsR x2.h.x) (dsR x2.h.x))/\True)))))))))))/\(∀ x12:Nat,((x12<=x2.h.x.tg.length)->(((decide ((x12:Int)<(x2.h.x.tg.length:Int))=true)->((((0:Int)<=(x12:Int))/\((x12:Int)<(x2.h.x.tg.length:Int)))/\((0+Int.toNat (x12:Int)<x2.h.x.tg.length)/\(∃ x15:DsX,(((HsOk x15.h)/\(x15.a∈x15.h.ks))/\(((0=0/\0=0)/\((frm x2 x8=x15.a)/\((x2.h.x.tg.getD (0+Int.toNat (x12:Int)) default=x15.b)/\True)))/\((((0=0/\((Hs.upd x2.h (exK x2 x8 x12)).x.us.length=x15.h.x.us.length))/\((0=0/\((Hs.upd x2.h (exK x2 x8 x12)).x.tg.length=x15.h.x.tg.length))/\(True/\((0=0/\((Hs.upd x2.h (exK x2 x8 x12)).p.nd.length=x15.h.p.nd.length))/\((0=0/\((Hs.upd x2.h (exK x2 x8 x12)).p.mv.length=x15.h.p.mv.length))/\(((Hs.upd x2.h (exK x2 x8 x12)).p.dur=x15.h.p.dur)/\(((Hs.upd x2.h (exK x2 x8 x12)).b.found=x15.h.b.found)/\((0=0/\((Hs.upd x2.h (exK x2 x8 x12)).b.best.length=x15.h.b.best.length))/\(((Hs.upd x2.h (exK x2 x8 x12)).b.worst=x15.h.b.worst)/\(((Hs.upd x2.h (exK x2 x8 x12)).b.total=x15.h.b.total)/\True))))))))))/\(((RLe x15.h.p.nd.length (Hs.upd x2.h (exK x2 x8 x12)).p.nd.length)/\(RI x15.h.p.nd.length (Hs.upd x2.h (exK x2 x8 x12)).p.nd x15.h.p.nd))/\(((RLe x15.h.p.mv.length (Hs.upd x2.h (exK x2 x8 x12)).p.mv.length)/\(RowsEq [.int .i64,.int .i64] x15.h.p.mv.length (encL encM (Hs.upd x2.h (exK x2 x8 x12)).p.mv) (encL encM x15.h.p.mv)))/\(((RLe x15.h.b.best.length (Hs.upd x2.h (exK x2 x8 x12)).b.best.length)/\(RowsEq [.int .i64,.int .i64] x15.h.b.best.length (encL encM (Hs.upd x2.h (exK x2 x8 x12)).b.best) (encL encM x15.h.b.best)))/\(((RLe x15.h.x.us.length x2.h.x.us.length)/\(RowsEq [.int .i64,.int .i64,.int .i64,.int .i64,.int .i64,.int .i64,.int .i64,.int .i64,.int .i64,.int .i64] x15.h.x.us.length (encL encU x2.h.x.us) (encL encU x15.h.x.us)))/\(((RLe x15.h.x.tg.length x2.h.x.tg.length)/\(RI x15.h.x.tg.length x2.h.x.tg x15.h.x.tg))/\((MapEq [.sl [.int .i64]] x2.h.ks x15.h.ks (dsR x2.h.x) (dsR x15.h.x))/\True)))))))/\(((decide (x2.h.x.tg.getD (0+Int.toNat (x12:Int)) default=frm x2 x8)=false)->(((decide (dsF x15.h.x x15.a x15.b=(4611686018427387904:Int))=true)->((((-9223372036854775808:Int)<=(x12:Int)+1)/\((x12:Int)+1<=(9223372036854775807:Int)))/\(∃ x18:Nat,((x2.h.x.tg.length-x18<x2.h.x.tg.length-x12)/\((x18<=x2.h.x.tg.length)/\(((0=0/\0=0)/\(((x2.m:Int)=(x2.m:Int))/\(((x8:Int)=(x8:Int))/\((frm x2 x8=frm x2 x8)/\((0=0/\x2.h.x.tg.length=x2.h.x.tg.length)/\(((x2.h.x.tg.length:Int)=(x2.h.x.tg.length:Int))/\(((x12:Int)+1=(x18:Int))/\((0=0/\((1:Nat)=(1:Nat)))/\((0=0/\0=0)/\((0=0/\0=0)/\(((Hs.upd x2.h (exB x2 x8)).p.nd.getD (0+Int.toNat (x8:Int)) default=(Hs.upd x2.h (exB x2 x8)).p.nd.getD (0+Int.toNat (x8:Int)) default)/\(((0+Int.toNat (x8:Int)=0+Int.toNat (x8:Int))/\0=0)/\(((x8:Int)=(x8:Int))/\((0=0/\((Hs.upd x2.h (exB x2 x8)).p.nd.length=(Hs.upd x2.h (exB x2 x8)).p.nd.length))/\((0=0/\((3:Nat)=(3:Nat)))/\((0=0/\0=0)/\((0=0/\0=0)/\(true=true/\(((↑(Hs.upd x2.h (exB x2 x8)).x.us.length:Int)=(↑(Hs.upd x2.h (exB x2 x8)).x.us.length:Int))/\((0=0/\((Hs.upd x2.h (exB x2 x8)).x.us.length=(Hs.upd x2.h (exB x2 x8)).x.us.length))/\((0=0/\0=0)/\((0=0/\0=0)/\((0=0/\0=0)/\(((x8:Int)=(x8:Int))/\(((x2.fi0:Int)=(x2.fi0:Int))/\(false=false/\(((x2.m:Int)=(x2.m:Int))/\(True/\((0=0/\0=0)/\(((x2.fi0:Int)=(x2.fi0:Int))/\True))))))))))))))))))))))))))))))/\(((0=0/\((Hs.upd x2.h (exK x2 x8 x12)).x.us.length=(Hs.upd x2.h (exK x2 x8 x18)).x.us.length))/\((0=0/\((Hs.upd x2.h (exK x2 x8 x12)).x.tg.length=(Hs.upd x2.h (exK x2 x8 x18)).x.tg.length))/\(True/\((0=0/\((Hs.upd x2.h (exK x2 x8 x12)).p.nd.length=(Hs.upd x2.h (exK x2 x8 x18)).p.nd.length))/\((0=0/\((Hs.upd x2.h (exK x2 x8 x12)).p.mv.length=(Hs.upd x2.h (exK x2 x8 x18)).p.mv.length))/\(((Hs.upd x2.h (exK x2 x8 x12)).p.dur=(Hs.upd x2.h (exK x2 x8 x18)).p.dur)/\(((Hs.upd x2.h (exK x2 x8 x12)).b.found=(Hs.upd x2.h (exK x2 x8 x18)).b.found)/\((0=0/\((Hs.upd x2.h (exK x2 x8 x12)).b.best.length=(Hs.upd x2.h (exK x2 x8 x18)).b.best.length))/\(((Hs.upd x2.h (exK x2 x8 x12)).b.worst=(Hs.upd x2.h (exK x2 x8 x18)).b.worst)/\(((Hs.upd x2.h (exK x2 x8 x12)).b.total=(Hs.upd x2.h (exK x2 x8 x18)).b.total)/\True))))))))))/\(((RLe (Hs.upd x2.h (exK x2 x8 x18)).p.nd.length (Hs.upd x2.h (exK x2 x8 x12)).p.nd.length)/\(RowsEq [.int .i64] (Hs.upd x2.h (exK x2 x8 x18)).p.nd.length (encL encI (Hs.upd x2.h (exK x2 x8 x12)).p.nd) (encL encI (Hs.upd x2.h (exK x2 x8 x18)).p.nd)))/\(((RLe (Hs.upd x2.h (exK x2 x8 x18)).p.mv.length (Hs.upd x2.h (exK x2 x8 x12)).p.mv.length)/\(RowsEq [.int .i64,.int .i64] (Hs.upd x2.h (exK x2 x8 x18)).p.mv.length (encL encM (Hs.upd x2.h (exK x2 x8 x12)).p.mv) (encL encM (Hs.upd x2.h (exK x2 x8 x18)).p.mv)))/\(((RLe (Hs.upd x2.h (exK x2 x8 x18)).b.best.length (Hs.upd x2.h (exK x2 x8 x12)).b.best.length)/\(RowsEq [.int .i64,.int .i64] (Hs.upd x2.h (exK x2 x8 x18)).b.best.length (encL encM (Hs.upd x2.h (exK x2 x8 x12)).b.best) (encL encM (Hs.upd x2.h (exK x2 x8 x18)).b.best)))/\(True/\(True/\(((RLe x2.h.x.us.length x2.h.x.us.length)/\(RowsEq [.int .i64,.int .i64,.int .i64,.int .i64,.int .i64,.int .i64,.int .i64,.int .i64,.int .i64,.int .i64] x2.h.x.us.length (encL encU x2.h.x.us) (encL encU x2.h.x.us)))/\(((RLe x2.h.x.tg.length x2.h.x.tg.length)/\(RI x2.h.x.tg.length x2.h.x.tg x2.h.x.tg))/\((MapEq [.sl [.int .i64]] x2.h.ks x2.h.ks (dsR x2.h.x) (dsR x2.h.x))/\True)))))))))))))))/\((decide (dsF x15.h.x x15.a x15.b=(4611686018427387904:Int))=false)->((((0:Int)<=(x8:Int))/\((x8:Int)<(↑(Hs.upd x2.h (exK x2 x8 x12)).p.nd.length:Int)))/\(((0+Int.toNat (x8:Int)<(Hs.upd x2.h (exK x2 x8 x12)).p.nd.length)/\(True/\True))/\((((0:Int)<=(x8:Int))/\((x8:Int)<(↑(Hs.upd x2.h (exK x2 x8 x12)).x.us.length:Int)))/\((0+Int.toNat (x8:Int)<x2.h.x.us.length)/\(((True/\(True/\True))/\True)/\((0=0/\(((Hs.upd x2.h (exK x2 x8 x12)).p.mv.length<=(Hs.upd x2.h (exK x2 x8 x12)).p.mv.length)/\(((1:Nat)<=(1:Nat))/\((Hs.upd x2.h (exK x2 x8 x12)).p.mv.length+(1:Nat)<=(1073741824:Nat)))))/\((((-9223372036854775808:Int)<=(Hs.upd x2.h (exK x2 x8 x12)).p.dur+dsF x15.h.x x15.a x15.b)/\((Hs.upd x2.h (exK x2 x8 x12)).p.dur+dsF x15.h.x x15.a x15.b<=(9223372036854775807:Int)))/\((((-9223372036854775808:Int)<=(x8:Int)+1)/\((x8:Int)+1<=(9223372036854775807:Int)))/\((((-9223372036854775808:Int)<=(x2.m:Int)-1)/\((x2.m:Int)-1<=(9223372036854775807:Int)))/\(∃ x20:ExX,(((ExOk x20)/\(x20.m<M1))/\(((0=0/\0=0)/\(((x8:Int)+1=(x20.fi0:Int))/\(((x2.m:Int)-1=(x20.m:Int))/\True)))/\((((0=0/\((Hs.upd x2.h (exK x2 x8 x12)).x.us.length=x20.h.x.us.length))/\((0=0/\((Hs.upd x2.h (exK x2 x8 x12)).x.tg.length=x20.h.x.tg.length))/\(True/\((0=0/\((Hs.upd x2.h (exK x2 x8 x12)).p.nd.length=x20.h.p.nd.length))/\((0=0/\((Hs.upd x2.h (exK x2 x8 x12)).p.mv.length+(1:Nat)=x20.h.p.mv.length))/\(((Hs.upd x2.h (exK x2 x8 x12)).p.dur+dsF x15.h.x x15.a x15.b=x20.h.p.dur)/\(((Hs.upd x2.h (exK x2 x8 x12)).b.found=x20.h.b.found)/\((0=0/\((Hs.upd x2.h (exK x2 x8 x12)).b.best.length=x20.h.b.best.length))/\(((Hs.upd x2.h (exK x2 x8 x12)).b.worst=x20.h.b.worst)/\(((Hs.upd x2.h (exK x2 x8 x12)).b.total=x20.h.b.total)/\True))))))))))/\(((RLe x20.h.p.nd.length (Hs.upd x2.h (exK x2 x8 x12)).p.nd.length)/\(RowsEq [.int .i64] x20.h.p.nd.length (setRow (encL encI (Hs.upd x2.h (exK x2 x8 x12)).p.nd) (0+Int.toNat (x8:Int)) 0 (D.i (x2.h.x.tg.getD (0+Int.toNat (x12:Int)) default)::@List.nil D)) (encL encI x20.h.p.nd)))/\(((RLe x20.h.p.mv.length ((Hs.upd x2.h (exK x2 x8 x12)).p.mv.length+(1:Nat)))/\(RowsEq [.int .i64,.int .i64] x20.h.p.mv.length (appRows (Hs.upd x2.h (exK x2 x8 x12)).p.mv.length (encL encM (Hs.upd x2.h (exK x2 x8 x12)).p.mv) 0 (litRows ((D.i (x2.h.x.us.getD (0+Int.toNat (x8:Int)) default).id::D.i (x2.h.x.tg.getD (0+Int.toNat (x12:Int)) default)::@List.nil D)::@List.nil (List D)))) (encL encM x20.h.p.mv)))/\(((RLe x20.h.b.best.length (Hs.upd x2.h (exK x2 x8 x12)).b.best.length)/\(RowsEq [.int .i64,.int .i64] x20.h.b.best.length (encL encM (Hs.upd x2.h (exK x2 x8 x12)).b.best) (encL encM x20.h.b.best)))/\(((RLe x20.h.x.us.length x2.h.x.us.length)/\(RowsEq [.int .i64,.int .i64,.int .i64,.int .i64,.int .i64,.int .i64,.int .i64,.int .i64,.int .i64,.int .i64] x20.h.x.us.length (encL encU x2.h.x.us) (encL encU x20.h.x.us)))/\(((RLe x20.h.x.tg.length x2.h.x.tg.length)/\(RI x20.h.x.tg.length x2.h.x.tg x20.h.x.tg))/\((MapEq [.sl [.int .i64]] x2.h.ks x20.h.ks (dsR x2.h.x) (dsR x20.h.x))/\True)))))))/\((((-9223372036854775808:Int)<=(Hs.upd x20.h (exF x20.h.x x20.m x20.fi0 x20.h.p x20.h.b)).p.dur-dsF x15.h.x x15.a x15.b)/\((Hs.upd x20.h (exF x20.h.x x20.m x20.fi0 x20.h.p x20.h.b)).p.dur-dsF x15.h.x x15.a x15.b<=(9223372036854775807:Int)))/\((((-9223372036854775808:Int)<=(↑(Hs.upd x20.h (exF x20.h.x x20.m x20.fi0 x20.h.p x20.h.b)).p.mv.length:Int)-1)/\((↑(Hs.upd x20.h (exF x20.h.x x20.m x20.fi0 x20.h.p x20.h.b)).p.mv.length:Int)-1<=(9223372036854775807:Int)))/\((((0:Int)<=(0:Int))/\(((0:Int)<=(↑(Hs.upd x20.h (exF x20.h.x x20.m x20.fi0 x20.h.p x20.h.b)).p.mv.length:Int)-1)/\((↑(Hs.upd x20.h (exF x20.h.x x20.m x20.fi0 x20.h.p x20.h.b)).p.mv.length:Int)-1<=(↑(Hs.upd x20.h (exF x20.h.x x20.m x20.fi0 x20.h.p x20.h.b)).p.mv.length:Int))))/\((((0:Int)<=(x8:Int))/\((x8:Int)<(↑(Hs.upd x20.h (exF x20.h.x x20.m x20.fi0 x20.h.p x20.h.b)).p.nd.length:Int)))/\(((0+Int.toNat (x8:Int)<(Hs.upd x20.h (exF x20.h.x x20.m x20.fi0 x20.h.p x20.h.b)).p.nd.length)/\(True/\True))/\((((-9223372036854775808:Int)<=(x12:Int)+1)/\((x12:Int)+1<=(9223372036854775807:Int)))/\(∃ x21:Nat,((x2.h.x.tg.length-x21<x2.h.x.tg.length-x12)/\((x21<=x2.h.x.tg.length)/\(((0=0/\0=0)/\(((x2.m:Int)=(x2.m:Int))/\(((x8:Int)=(x8:Int))/\((frm x2 x8=frm x2 x8)/\((0=0/\x2.h.x.tg.length=x2.h.x.tg.length)/\(((x2.h.x.tg.length:Int)=(x2.h.x.tg.length:Int))/\(((x12:Int)+1=(x21:Int))/\((0=0/\((1:Nat)=(1:Nat)))/\((0=0/\0=0)/\((0=0/\0=0)/\(((Hs.upd x2.h (exB x2 x8)).p.nd.getD (0+Int.toNat (x8:Int)) default=(Hs.upd x2.h (exB x2 x8)).p.nd.getD (0+Int.toNat (x8:Int)) default)/\(((0+Int.toNat (x8:Int)=0+Int.toNat (x8:Int))/\0=0)/\(((x8:Int)=(x8:Int))/\((0=0/\((Hs.upd x2.h (exB x2 x8)).p.nd.length=(Hs.upd x2.h (exB x2 x8)).p.nd.length))/\((0=0/\((3:Nat)=(3:Nat)))/\((0=0/\0=0)/\((0=0/\0=0)/\(true=true/\(((↑(Hs.upd x2.h (exB x2 x8)).x.us.length:Int)=(↑(Hs.upd x2.h (exB x2 x8)).x.us.length:Int))/\((0=0/\((Hs.upd x2.h (exB x2 x8)).x.us.length=(Hs.upd x2.h (exB x2 x8)).x.us.length))/\((0=0/\0=0)/\((0=0/\0=0)/\((0=0/\0=0)/\(((x8:Int)=(x8:Int))/\(((x2.fi0:Int)=(x2.fi0:Int))/\(false=false/\(((x2.m:Int)=(x2.m:Int))/\(True/\((0=0/\0=0)/\(((x2.fi0:Int)=(x2.fi0:Int))/\True))))))))))))))))))))))))))))))/\(((0=0/\((Hs.upd x20.h (exF x20.h.x x20.m x20.fi0 x20.h.p x20.h.b)).x.us.length=(Hs.upd x2.h (exK x2 x8 x21)).x.us.length))/\((0=0/\((Hs.upd x20.h (exF x20.h.x x20.m x20.fi0 x20.h.p x20.h.b)).x.tg.length=(Hs.upd x2.h (exK x2 x8 x21)).x.tg.length))/\(True/\((0=0/\((Hs.upd x20.h (exF x20.h.x x20.m x20.fi0 x20.h.p x20.h.b)).p.nd.length=(Hs.upd x2.h (exK x2 x8 x21)).p.nd.length))/\(((0+Int.toNat (0:Int)=(0:Nat))/\(Int.toNat ((↑(Hs.upd x20.h (exF x20.h.x x20.m x20.fi0 x20.h.p x20.h.b)).p.mv.length:Int)-1)-Int.toNat 0=(Hs.upd x2.h (exK x2 x8 x21)).p.mv.length))/\(((Hs.upd x20.h (exF x20.h.x x20.m x20.fi0 x20.h.p x20.h.b)).p.dur-dsF x15.h.x x15.a x15.b=(Hs.upd x2.h (exK x2 x8 x21)).p.dur)/\(((Hs.upd x20.h (exF x20.h.x x20.m x20.fi0 x20.h.p x20.h.b)).b.found=(Hs.upd x2.h (exK x2 x8 x21)).b.found)/\((0=0/\((Hs.upd x20.h (exF x20.h.x x20.m x20.fi0 x20.h.p x20.h.b)).b.best.length=(Hs.upd x2.h (exK x2 x8 x21)).b.best.length))/\(((Hs.upd x20.h (exF x20.h.x x20.m x20.fi0 x20.h.p x20.h.b)).b.worst=(Hs.upd x2.h (exK x2 x8 x21)).b.worst)/\(((Hs.upd x20.h (exF x20.h.x x20.m x20.fi0 x20.h.p x20.h.b)).b.total=(Hs.upd x2.h (exK x2 x8 x21)).b.total)/\True))))))))))/\(((RLe (Hs.upd x2.h (exK x2 x8 x21)).p.nd.length (Hs.upd x20.h (exF x20.h.x x20.m x20.fi0 x20.h.p x20.h.b)).p.nd.length)/\(RowsEq [.int .i64] (Hs.upd x2.h (exK x2 x8 x21)).p.nd.length (setRow (encL encI (Hs.upd x20.h (exF x20.h.x x20.m x20.fi0 x20.h.p x20.h.b)).p.nd) (0+Int.toNat (x8:Int)) 0 (D.i (frm x2 x8)::@List.nil D)) (encL encI (Hs.upd x2.h (exK x2 x8 x21)).p.nd)))/\(((RLe (Hs.upd x2.h (exK x2 x8 x21)).p.mv.length (Hs.upd x20.h (exF x20.h.x x20.m x20.fi0 x20.h.p x20.h.b)).p.mv.length)/\(RowsEq [.int .i64,.int .i64] (Hs.upd x2.h (exK x2 x8 x21)).p.mv.length (encL encM (Hs.upd x20.h (exF x20.h.x x20.m x20.fi0 x20.h.p x20.h.b)).p.mv) (encL encM (Hs.upd x2.h (exK x2 x8 x21)).p.mv)))/\(((RLe (Hs.upd x2.h (exK x2 x8 x21)).b.best.length (Hs.upd x20.h (exF x20.h.x x20.m x20.fi0 x20.h.p x20.h.b)).b.best.length)/\(RowsEq [.int .i64,.int .i64] (Hs.upd x2.h (exK x2 x8 x21)).b.best.length (encL encM (Hs.upd x20.h (exF x20.h.x x20.m x20.fi0 x20.h.p x20.h.b)).b.best) (encL encM (Hs.upd x2.h (exK x2 x8 x21)).b.best)))/\(True/\(True/\(((RLe x2.h.x.us.length x2.h.x.us.length)/\(RowsEq [.int .i64,.int .i64,.int .i64,.int .i64,.int .i64,.int .i64,.int .i64,.int .i64,.int .i64,.int .i64] x2.h.x.us.length (encL encU x2.h.x.us) (encL encU x2.h.x.us)))/\(((RLe x2.h.x.tg.length x2.h.x.tg.length)/\(RI x2.h.x.tg.length x2.h.x.tg x2.h.x.tg))/\((MapEq [.sl [.int .i64]] x2.h.ks x2.h.ks (dsR x2.h.x) (dsR x2.h.x))/\True)))))))))))))))))))))))))))))))))))/\((decide (x2.h.x.tg.getD (0+Int.toNat (x12:Int)) default=frm x2 x8)=true)->((((-9223372036854775808:Int)<=(x12:Int)+1)/\((x12:Int)+1<=(9223372036854775807:Int)))/\(∃ x23:Nat,((x2.h.x.tg.length-x23<x2.h.x.tg.length-x12)/\((x23<=x2.h.x.tg.length)/\(((0=0/\0=0)/\(((x2.m:Int)=(x2.m:Int))/\(((x8:Int)=(x8:Int))/\((frm x2 x8=frm x2 x8)/\((0=0/\x2.h.x.tg.length=x2.h.x.tg.length)/\(((x2.h.x.tg.length:Int)=(x2.h.x.tg.length:Int))/\(((x12:Int)+1=(x23:Int))/\((0=0/\((1:Nat)=(1:Nat)))/\((0=0/\0=0)/\((0=0/\0=0)/\(((Hs.upd x2.h (exB x2 x8)).p.nd.getD (0+Int.toNat (x8:Int)) default=(Hs.upd x2.h (exB x2 x8)).p.nd.getD (0+Int.toNat (x8:Int)) default)/\(((0+Int.toNat (x8:Int)=0+Int.toNat (x8:Int))/\0=0)/\(((x8:Int)=(x8:Int))/\((0=0/\((Hs.upd x2.h (exB x2 x8)).p.nd.length=(Hs.upd x2.h (exB x2 x8)).p.nd.length))/\((0=0/\((3:Nat)=(3:Nat)))/\((0=0/\0=0)/\((0=0/\0=0)/\(true=true/\(((↑(Hs.upd x2.h (exB x2 x8)).x.us.length:Int)=(↑(Hs.upd x2.h (exB x2 x8)).x.us.length:Int))/\((0=0/\((Hs.upd x2.h (exB x2 x8)).x.us.length=(Hs.upd x2.h (exB x2 x8)).x.us.length))/\((0=0/\0=0)/\((0=0/\0=0)/\((0=0/\0=0)/\(((x8:Int)=(x8:Int))/\(((x2.fi0:Int)=(x2.fi0:Int))/\(false=false/\(((x2.m:Int)=(x2.m:Int))/\(True/\((0=0/\0=0)/\(((x2.fi0:Int)=(x2.fi0:Int))/\True))))))))))))))))))))))))))))))/\(((0=0/\((Hs.upd x2.h (exK x2 x8 x12)).x.us.length=(Hs.upd x2.h (exK x2 x8 x23)).x.us.length))/\((0=0/\((Hs.upd x2.h (exK x2 x8 x12)).x.tg.length=(Hs.upd x2.h (exK x2 x8 x23)).x.tg.length))/\(True/\((0=0/\((Hs.upd x2.h (exK x2 x8 x12)).p.nd.length=(Hs.upd x2.h (exK x2 x8 x23)).p.nd.length))/\((0=0/\((Hs.upd x2.h (exK x2 x8 x12)).p.mv.length=(Hs.upd x2.h (exK x2 x8 x23)).p.mv.length))/\(((Hs.upd x2.h (exK x2 x8 x12)).p.dur=(Hs.upd x2.h (exK x2 x8 x23)).p.dur)/\(((Hs.upd x2.h (exK x2 x8 x12)).b.found=(Hs.upd x2.h (exK x2 x8 x23)).b.found)/\((0=0/\((Hs.upd x2.h (exK x2 x8 x12)).b.best.length=(Hs.upd x2.h (exK x2 x8 x23)).b.best.length))/\(((Hs.upd x2.h (exK x2 x8 x12)).b.worst=(Hs.upd x2.h (exK x2 x8 x23)).b.worst)/\(((Hs.upd x2.h (exK x2 x8 x12)).b.total=(Hs.upd x2.h (exK x2 x8 x23)).b.total)/\True))))))))))/\(((RLe (Hs.upd x2.h (exK x2 x8 x23)).p.nd.length (Hs.upd x2.h (exK x2 x8 x12)).p.nd.length)/\(RowsEq [.int .i64] (Hs.upd x2.h (exK x2 x8 x23)).p.nd.length (encL encI (Hs.upd x2.h (exK x2 x8 x12)).p.nd) (encL encI (Hs.upd x2.h (exK x2 x8 x23)).p.nd)))/\(((RLe (Hs.upd x2.h (exK x2 x8 x23)).p.mv.length (Hs.upd x2.h (exK x2 x8 x12)).p.mv.length)/\(RowsEq [.int .i64,.int .i64] (Hs.upd x2.h (exK x2 x8 x23)).p.mv.length (encL encM (Hs.upd x2.h (exK x2 x8 x12)).p.mv) (encL encM (Hs.upd x2.h (exK x2 x8 x23)).p.mv)))/\(((RLe (Hs.upd x2.h (exK x2 x8 x23)).b.best.length (Hs.upd x2.h (exK x2 x8 x12)).b.best.length)/\(RowsEq [.int .i64,.int .i64] (Hs.upd x2.h (exK x2 x8 x23)).b.best.length (encL encM (Hs.upd x2.h (exK x2 x8 x12)).b.best) (encL encM (Hs.upd x2.h (exK x2 x8 x23)).b.best)))/\(True/\(True/\(((RLe x2.h.x.us.length x2.h.x.us.length)/\(RowsEq [.int .i64,.int .i64,.int .i64,.int .i64,.int .i64,.int .i64,.int .i64,.int .i64,.int .i64,.int .i64] x2.h.x.us.length (encL encU x2.h.x.us) (encL encU x2.h.x.us)))/\(((RLe x2.h.x.tg.length x2.h.x.tg.length)/\(RI x2.h.x.tg.length x2.h.x.tg x2.h.x.tg))/\((MapEq [.sl [.int .i64]] x2.h.ks x2.h.ks (dsR x2.h.x) (dsR x2.h.x))/\True)))))))))))))))))))))))/\((decide ((x12:Int)<(x2.h.x.tg.length:Int))=false)->((((-9223372036854775808:Int)<=(x8:Int)+1)/\((x8:Int)+1<=(9223372036854775807:Int)))/\(∃ x25:Nat,((x2.h.x.us.length-x25<x2.h.x.us.length-x8)/\(((x2.fi0<=x25)/\(x25<=x2.h.x.us.length))/\(((0=0/\0=0)/\(((x2.m:Int)=(x2.m:Int))/\(((x8:Int)+1=(x25:Int))/\(((x2.fi0:Int)=(x2.fi0:Int))/\(false=false/\(((x2.m:Int)=(x2.m:Int))/\(True/\((0=0/\0=0)/\(((x2.fi0:Int)=(x2.fi0:Int))/\True)))))))))/\(((0=0/\((Hs.upd x2.h (exK x2 x8 x12)).x.us.length=(Hs.upd x2.h (exB x2 x25)).x.us.length))/\((0=0/\((Hs.upd x2.h (exK x2 x8 x12)).x.tg.length=(Hs.upd x2.h (exB x2 x25)).x.tg.length))/\(True/\((0=0/\((Hs.upd x2.h (exK x2 x8 x12)).p.nd.length=(Hs.upd x2.h (exB x2 x25)).p.nd.length))/\((0=0/\((Hs.upd x2.h (exK x2 x8 x12)).p.mv.length=(Hs.upd x2.h (exB x2 x25)).p.mv.length))/\(((Hs.upd x2.h (exK x2 x8 x12)).p.dur=(Hs.upd x2.h (exB x2 x25)).p.dur)/\(((Hs.upd x2.h (exK x2 x8 x12)).b.found=(Hs.upd x2.h (exB x2 x25)).b.found)/\((0=0/\((Hs.upd x2.h (exK x2 x8 x12)).b.best.length=(Hs.upd x2.h (exB x2 x25)).b.best.length))/\(((Hs.upd x2.h (exK x2 x8 x12)).b.worst=(Hs.upd x2.h (exB x2 x25)).b.worst)/\(((Hs.upd x2.h (exK x2 x8 x12)).b.total=(Hs.upd x2.h (exB x2 x25)).b.total)/\True))))))))))/\(((RLe (Hs.upd x2.h (exB x2 x25)).p.nd.length (Hs.upd x2.h (exK x2 x8 x12)).p.nd.length)/\(RowsEq [.int .i64] (Hs.upd x2.h (exB x2 x25)).p.nd.length (encL encI (Hs.upd x2.h (exK x2 x8 x12)).p.nd) (encL encI (Hs.upd x2.h (exB x2 x25)).p.nd)))/\(((RLe (Hs.upd x2.h (exB x2 x25)).p.mv.length (Hs.upd x2.h (exK x2 x8 x12)).p.mv.length)/\(RowsEq [.int .i64,.int .i64] (Hs.upd x2.h (exB x2 x25)).p.mv.length (encL encM (Hs.upd x2.h (exK x2 x8 x12)).p.mv) (encL encM (Hs.upd x2.h (exB x2 x25)).p.mv)))/\(((RLe (Hs.upd x2.h (exB x2 x25)).b.best.length (Hs.upd x2.h (exK x2 x8 x12)).b.best.length)/\(RowsEq [.int .i64,.int .i64] (Hs.upd x2.h (exB x2 x25)).b.best.length (encL encM (Hs.upd x2.h (exK x2 x8 x12)).b.best) (encL encM (Hs.upd x2.h (exB x2 x25)).b.best)))/\(True/\(True/\(((RLe x2.h.x.us.length x2.h.x.us.length)/\(RowsEq [.int .i64,.int .i64,.int .i64,.int .i64,.int .i64,.int .i64,.int .i64,.int .i64,.int .i64,.int .i64] x2.h.x.us.length (encL encU x2.h.x.us) (encL encU x2.h.x.us)))/\(((RLe x2.h.x.tg.length x2.h.x.tg.length)/\(RI x2.h.x.tg.length x2.h.x.tg x2.h.x.tg))/\((MapEq [.sl [.int .i64]] x2.h.ks x2.h.ks (dsR x2.h.x) (dsR x2.h.x))/\True)))))))))))))))))))))))/\((decide ((x8:Int)<(↑(Hs.upd x2.h (exB x2 x8)).x.us.length:Int))=false)->(True/\(((0=0/\((Hs.upd x2.h (exB x2 x8)).x.us.length=(Hs.upd x2.h (exF x2.h.x x2.m x2.fi0 x2.h.p x2.h.b)).x.us.length))/\((0=0/\((Hs.upd x2.h (exB x2 x8)).x.tg.length=(Hs.upd x2.h (exF x2.h.x x2.m x2.fi0 x2.h.p x2.h.b)).x.tg.length))/\(True/\((0=0/\((Hs.upd x2.h (exB x2 x8)).p.nd.length=(Hs.upd x2.h (exF x2.h.x x2.m x2.fi0 x2.h.p x2.h.b)).p.nd.length))/\((0=0/\((Hs.upd x2.h (exB x2 x8)).p.mv.length=(Hs.upd x2.h (exF x2.h.x x2.m x2.fi0 x2.h.p x2.h.b)).p.mv.length))/\(((Hs.upd x2.h (exB x2 x8)).p.dur=(Hs.upd x2.h (exF x2.h.x x2.m x2.fi0 x2.h.p x2.h.b)).p.dur)/\(((Hs.upd x2.h (exB x2 x8)).b.found=(Hs.upd x2.h (exF x2.h.x x2.m x2.fi0 x2.h.p x2.h.b)).b.found)/\((0=0/\((Hs.upd x2.h (exB x2 x8)).b.best.length=(Hs.upd x2.h (exF x2.h.x x2.m x2.fi0 x2.h.p x2.h.b)).b.best.length))/\(((Hs.upd x2.h (exB x2 x8)).b.worst=(Hs.upd x2.h (exF x2.h.x x2.m x2.fi0 x2.h.p x2.h.b)).b.worst)/\(((Hs.upd x2.h (exB x2 x8)).b.total=(Hs.upd x2.h (exF x2.h.x x2.m x2.fi0 x2.h.p x2.h.b)).b.total)/\True))))))))))/\(((RLe (Hs.upd x2.h (exF x2.h.x x2.m x2.fi0 x2.h.p x2.h.b)).p.nd.length (Hs.upd x2.h (exB x2 x8)).p.nd.length)/\(RowsEq [.int .i64] (Hs.upd x2.h (exF x2.h.x x2.m x2.fi0 x2.h.p x2.h.b)).p.nd.length (encL encI (Hs.upd x2.h (exB x2 x8)).p.nd) (encL encI (Hs.upd x2.h (exF x2.h.x x2.m x2.fi0 x2.h.p x2.h.b)).p.nd)))/\(((RLe (Hs.upd x2.h (exF x2.h.x x2.m x2.fi0 x2.h.p x2.h.b)).p.mv.length (Hs.upd x2.h (exB x2 x8)).p.mv.length)/\(RowsEq [.int .i64,.int .i64] (Hs.upd x2.h (exF x2.h.x x2.m x2.fi0 x2.h.p x2.h.b)).p.mv.length (encL encM (Hs.upd x2.h (exB x2 x8)).p.mv) (encL encM (Hs.upd x2.h (exF x2.h.x x2.m x2.fi0 x2.h.p x2.h.b)).p.mv)))/\(((RLe (Hs.upd x2.h (exF x2.h.x x2.m x2.fi0 x2.h.p x2.h.b)).b.best.length (Hs.upd x2.h (exB x2 x8)).b.best.length)/\(RowsEq [.int .i64,.int .i64] (Hs.upd x2.h (exF x2.h.x x2.m x2.fi0 x2.h.p x2.h.b)).b.best.length (encL encM (Hs.upd x2.h (exB x2 x8)).b.best) (encL encM (Hs.upd x2.h (exF x2.h.x x2.m x2.fi0 x2.h.p x2.h.b)).b.best)))/\(True/\(True/\True)))))))))))))))))))))))=(∀ M:Nat,Keeps (cfgEx M) Tryd.f35 (exC (M+1)) exI) by kernel_rfl) (fun M1=>fun x2=>fun h3=>⟨(ExX.h x2),
(by(try dsimp only at *);exact h3.1.h),
⟨⟨rfl,rfl⟩,trivial⟩,
⟨⟨⟨rfl,rfl⟩,
⟨rfl,rfl⟩,trivial,
⟨rfl,rfl⟩,
⟨rfl,rfl⟩,rfl,rfl,
⟨rfl,rfl⟩,rfl,rfl,trivial⟩,
⟨rl,rr⟩,
⟨rl,rr⟩,
⟨rl,rr⟩,
⟨rl,rr⟩,
⟨rl,rr⟩,MapEq.rfl',trivial⟩,
fun g5=>have h5:=dT g5;⟨trivial,
⟨⟨rfl,
(by(try dsimp only at *);rfl)⟩,
⟨rfl,
(by(try dsimp only at *);rfl)⟩,trivial,
⟨rfl,
(by(try dsimp only at *);rfl)⟩,
⟨rfl,
(by(try dsimp only at *);rfl)⟩,
(by(try dsimp only at *);rfl),
(by(try dsimp only at *);(rw[ex_m0 h5])),
⟨rfl,
(by(try dsimp only at *);(rw[ex_m0 h5]))⟩,
(by(try dsimp only at *);(rw[ex_m0 h5])),
(by(try dsimp only at *);(rw[ex_m0 h5])),trivial⟩,
⟨⟨(by(try dsimp only at *);exact Nat.le_refl _)⟩,
(by(try dsimp only at *);exact rr)⟩,
⟨⟨(by(try dsimp only at *);exact Nat.le_refl _)⟩,
(by(try dsimp only at *);exact rr)⟩,
⟨⟨(by(try dsimp only at *);(rw[ex_m0 h5];exact Nat.le_refl _))⟩,
(by(try dsimp only at *);(rw[ex_m0 h5];exact rr))⟩,trivial,trivial,trivial⟩,
fun g6=>have h6:=dF g6;⟨(ExX.fi0 x2),
⟨⟨(by(try dsimp only at *);omega),
(by(try dsimp only at *);exact h3.1.f)⟩,
⟨⟨rfl,rfl⟩,rfl,rfl,rfl,rfl,rfl,trivial,
⟨rfl,rfl⟩,rfl,trivial⟩,
⟨⟨rfl,
(by(try dsimp only at *);rfl)⟩,
⟨rfl,
(by(try dsimp only at *);rfl)⟩,trivial,
⟨rfl,
(by(try dsimp only at *);rfl)⟩,
⟨rfl,
(by(try dsimp only at *);rfl)⟩,
(by(try dsimp only at *);rfl),
(by(try dsimp only at *);(rw[ex_b0])),
⟨rfl,
(by(try dsimp only at *);(rw[ex_b0]))⟩,
(by(try dsimp only at *);(rw[ex_b0])),
(by(try dsimp only at *);(rw[ex_b0])),trivial⟩,
⟨⟨(by(try dsimp only at *);exact Nat.le_refl _)⟩,
(by(try dsimp only at *);exact rr)⟩,
⟨⟨(by(try dsimp only at *);exact Nat.le_refl _)⟩,
(by(try dsimp only at *);exact rr)⟩,
⟨⟨(by(try dsimp only at *);(rw[ex_b0];exact Nat.le_refl _))⟩,
(by(try dsimp only at *);(rw[ex_b0];exact rr))⟩,trivial,trivial,
⟨rl,rr⟩,
⟨rl,rr⟩,MapEq.rfl',trivial⟩,
fun x8=>fun h9=>⟨fun g10=>have h10:=dT g10;⟨⟨(by(try dsimp only at *);omega),
(by(try dsimp only at *);exact Int.ofNat_lt.2 (ex_n h3.1 (ex_lt h10)))⟩,
(by(try dsimp only at *);(rw[nat0];exact ex_n h3.1 (ex_lt h10))),
((0:Nat)),
⟨(by(try dsimp only at *);omega),
⟨⟨rfl,rfl⟩,rfl,rfl,
(by(try dsimp only at *);rfl),
⟨rfl,
(by(try dsimp only at *);rfl)⟩,
(by(try dsimp only at *);rfl),
(by(try dsimp only at *);omega),
⟨rfl,rfl⟩,
⟨rfl,rfl⟩,
⟨rfl,rfl⟩,rfl,
⟨rfl,rfl⟩,rfl,
⟨rfl,rfl⟩,
⟨rfl,rfl⟩,
⟨rfl,rfl⟩,
⟨rfl,rfl⟩,rfl,rfl,
⟨rfl,rfl⟩,
⟨rfl,rfl⟩,
⟨rfl,rfl⟩,
⟨rfl,rfl⟩,rfl,rfl,rfl,rfl,trivial,
⟨rfl,rfl⟩,rfl,trivial⟩,
⟨⟨rfl,
(by(try dsimp only at *);rfl)⟩,
⟨rfl,
(by(try dsimp only at *);rfl)⟩,trivial,
⟨rfl,
(by(try dsimp only at *);rfl)⟩,
⟨rfl,
(by(try dsimp only at *);rfl)⟩,
(by(try dsimp only at *);rfl),
(by(try dsimp only at *);rfl),
⟨rfl,
(by(try dsimp only at *);rfl)⟩,
(by(try dsimp only at *);rfl),
(by(try dsimp only at *);rfl),trivial⟩,
⟨⟨(by(try dsimp only at *);exact Nat.le_refl _)⟩,
(by(try dsimp only at *);exact rr)⟩,
⟨⟨(by(try dsimp only at *);exact Nat.le_refl _)⟩,
(by(try dsimp only at *);exact rr)⟩,
⟨⟨(by(try dsimp only at *);exact Nat.le_refl _)⟩,
(by(try dsimp only at *);exact rr)⟩,trivial,trivial,
⟨rl,rr⟩,
⟨rl,rr⟩,MapEq.rfl',trivial⟩,
fun x12=>fun h13=>⟨fun g14=>have h14:=dT g14;⟨⟨(by(try dsimp only at *);omega),
(by(try dsimp only at *);omega)⟩,
(by(try dsimp only at *);omega),
({ h:=Hs.upd (ExX.h x2) (exK x2 x8 x12),a:=frm x2 x8,b:=List.getD (Sr.tg (Hs.x (ExX.h x2))) ((0:Nat)+Int.toNat (↑x12:Int)) default:DsX }),
⟨(by(try dsimp only at *);exact h3.1.h.upd _),
(by(try dsimp only at *);exact ex_in h3.1 (ex_lt h10))⟩,
⟨⟨rfl,rfl⟩,rfl,rfl,trivial⟩,
⟨⟨⟨rfl,rfl⟩,
⟨rfl,rfl⟩,trivial,
⟨rfl,rfl⟩,
⟨rfl,rfl⟩,rfl,rfl,
⟨rfl,rfl⟩,rfl,rfl,trivial⟩,
⟨rl,rr⟩,
⟨rl,rr⟩,
⟨rl,rr⟩,
⟨⟨(by(try dsimp only at *);exact Nat.le_refl _)⟩,
(by(try dsimp only at *);exact rr)⟩,
⟨⟨(by(try dsimp only at *);exact Nat.le_refl _)⟩,
(by(try dsimp only at *);exact rr)⟩,
(by(try dsimp only at *);exact MapEq.rfl'),trivial⟩,
fun g16=>have h16:=dF g16;⟨fun g17=>have h17:=dT g17;⟨⟨(by(try dsimp only at *);omega),
(by(try dsimp only at *);exact ex_tk h3.1 h14)⟩,
(x12+(1:Nat)),
(by(try dsimp only at *);omega),
(by(try dsimp only at *);omega),
⟨⟨rfl,rfl⟩,rfl,rfl,rfl,
⟨rfl,rfl⟩,rfl,
(by(try dsimp only at *);omega),
⟨rfl,rfl⟩,
⟨rfl,rfl⟩,
⟨rfl,rfl⟩,rfl,
⟨rfl,rfl⟩,rfl,
⟨rfl,rfl⟩,
⟨rfl,rfl⟩,
⟨rfl,rfl⟩,
⟨rfl,rfl⟩,rfl,rfl,
⟨rfl,rfl⟩,
⟨rfl,rfl⟩,
⟨rfl,rfl⟩,
⟨rfl,rfl⟩,rfl,rfl,rfl,rfl,trivial,
⟨rfl,rfl⟩,rfl,trivial⟩,
⟨⟨rfl,
(by(try dsimp only at *);rfl)⟩,
⟨rfl,
(by(try dsimp only at *);rfl)⟩,trivial,
⟨rfl,
(by(try dsimp only at *);rfl)⟩,
⟨rfl,
(by(try dsimp only at *);rfl)⟩,
(by(try dsimp only at *);rfl),
(by(try dsimp only at *);(rw[ex_no h14 (.inr h17)])),
⟨rfl,
(by(try dsimp only at *);(rw[ex_no h14 (.inr h17)]))⟩,
(by(try dsimp only at *);(rw[ex_no h14 (.inr h17)])),
(by(try dsimp only at *);(rw[ex_no h14 (.inr h17)])),trivial⟩,
⟨⟨(by(try dsimp only at *);exact Nat.le_refl _)⟩,
(by(try dsimp only at *);exact rr)⟩,
⟨⟨(by(try dsimp only at *);exact Nat.le_refl _)⟩,
(by(try dsimp only at *);exact rr)⟩,
⟨⟨(by(try dsimp only at *);(rw[ex_no h14 (.inr h17)];exact Nat.le_refl _))⟩,
(by(try dsimp only at *);(rw[ex_no h14 (.inr h17)];exact rr))⟩,trivial,trivial,
⟨rl,rr⟩,
⟨rl,rr⟩,MapEq.rfl',trivial⟩,
fun g19=>have h19:=dF g19;⟨⟨(by(try dsimp only at *);omega),
(by(try dsimp only at *);exact Int.ofNat_lt.2 (ex_n h3.1 (ex_lt h10)))⟩,
⟨(by(try dsimp only at *);(rw[nat0];exact ex_n h3.1 (ex_lt h10))),trivial,trivial⟩,
⟨(by(try dsimp only at *);omega),
(by(try dsimp only at *);assumption)⟩,
(by(try dsimp only at *);(rw[nat0];exact ex_lt h10)),
⟨⟨trivial,trivial,trivial⟩,trivial⟩,
⟨rfl,
(by(try dsimp only at *);omega),
(by(try dsimp only at *);omega),
(by(try dsimp only at *);(have:=h3.1.h.mv;show x2.h.p.mv.length+1<=_;omega))⟩,
⟨(by(try dsimp only at *);exact(ex_sum h3.1 h19).1),
(by(try dsimp only at *);exact(ex_sum h3.1 h19).2)⟩,
⟨(by(try dsimp only at *);omega),
(by(try dsimp only at *);exact ex_us h3.1 (ex_lt h10))⟩,
⟨(by(try dsimp only at *);omega),
(by(try dsimp only at *);(have:=h3.1.m;omega))⟩,
({ h:=pushH x2 x8 x12,fi0:=x8+(1:Nat),m:=ExX.m x2-(1:Nat):ExX }),
⟨(by(try dsimp only at *);exact push_ok h3.1 h6 (ex_lt h10) h14 h19),
(by(try dsimp only at *);omega)⟩,
⟨⟨rfl,rfl⟩,
(by(try dsimp only at *);omega),
(by(try dsimp only at *);omega),trivial⟩,
⟨⟨⟨rfl,
(by(try dsimp only at *);rfl)⟩,
⟨rfl,
(by(try dsimp only at *);rfl)⟩,trivial,
⟨rfl,
(by(try dsimp only at *);exact p_nl.symm)⟩,
⟨rfl,
(by(try dsimp only at *);exact p_len.symm)⟩,
(by(try dsimp only at *);exact p_dur.symm),
(by(try dsimp only at *);rfl),
⟨rfl,
(by(try dsimp only at *);rfl)⟩,
(by(try dsimp only at *);rfl),
(by(try dsimp only at *);rfl),trivial⟩,
⟨⟨(by(try dsimp only at *);exact Nat.le_of_eq p_nl)⟩,
(by(try dsimp only at *);exact ex_set h3.1 (ex_lt h10))⟩,
⟨⟨(by(try dsimp only at *);exact Nat.le_of_eq p_len)⟩,
(by(try dsimp only at *);exact ex_app (Nat.le_of_eq p_len))⟩,
⟨⟨(by(try dsimp only at *);exact Nat.le_refl _)⟩,
(by(try dsimp only at *);exact rr)⟩,
⟨⟨(by(try dsimp only at *);exact Nat.le_refl _)⟩,
(by(try dsimp only at *);exact rr)⟩,
⟨⟨(by(try dsimp only at *);exact Nat.le_refl _)⟩,
(by(try dsimp only at *);exact rr)⟩,
(by(try dsimp only at *);exact MapEq.rfl'),trivial⟩,
⟨(by(try dsimp only at *);exact(ex_bk h3.1).1),
(by(try dsimp only at *);exact(ex_bk h3.1).2)⟩,
⟨(by(try dsimp only at *);omega),
(by(try dsimp only at *);(have e:(pushH x2 x8 x12).p.mv.length=x2.h.p.mv.length+1:=p_len;have:=h3.1.h.mv;show(((pushH x2 x8 x12).p.mv.length:Nat):Int)-1<=_;omega))⟩,
⟨(by(try dsimp only at *);omega),
(by(try dsimp only at *);(have e:(pushH x2 x8 x12).p.mv.length=x2.h.p.mv.length+1:=p_len;show 0<=(((pushH x2 x8 x12).p.mv.length:Nat):Int)-1;omega)),
(by(try dsimp only at *);omega)⟩,
⟨(by(try dsimp only at *);omega),
(by(try dsimp only at *);(have e:(pushH x2 x8 x12).p.nd.length=x2.h.p.nd.length:=p_nl;have:=ex_n h3.1 (ex_lt h10);show(x8:Int)<((pushH x2 x8 x12).p.nd.length:Nat);omega))⟩,
⟨(by(try dsimp only at *);(have e:(pushH x2 x8 x12).p.nd.length=x2.h.p.nd.length:=p_nl;have:=ex_n h3.1 (ex_lt h10);show 0+(x8:Int).toNat<(pushH x2 x8 x12).p.nd.length;omega)),trivial,trivial⟩,
⟨(by(try dsimp only at *);omega),
(by(try dsimp only at *);exact ex_tk h3.1 h14)⟩,
(x12+(1:Nat)),
(by(try dsimp only at *);omega),
(by(try dsimp only at *);omega),
⟨⟨rfl,rfl⟩,rfl,rfl,rfl,
⟨rfl,rfl⟩,rfl,
(by(try dsimp only at *);omega),
⟨rfl,rfl⟩,
⟨rfl,rfl⟩,
⟨rfl,rfl⟩,rfl,
⟨rfl,rfl⟩,rfl,
⟨rfl,rfl⟩,
⟨rfl,rfl⟩,
⟨rfl,rfl⟩,
⟨rfl,rfl⟩,rfl,rfl,
⟨rfl,rfl⟩,
⟨rfl,rfl⟩,
⟨rfl,rfl⟩,
⟨rfl,rfl⟩,rfl,rfl,rfl,rfl,trivial,
⟨rfl,rfl⟩,rfl,trivial⟩,
⟨⟨rfl,
(by(try dsimp only at *);rfl)⟩,
⟨rfl,
(by(try dsimp only at *);rfl)⟩,trivial,
⟨rfl,
(by(try dsimp only at *);exact p_nl)⟩,
⟨(by(try dsimp only at *);omega),
(by(try dsimp only at *);(have e:(pushH x2 x8 x12).p.mv.length=x2.h.p.mv.length+1:=p_len;show((((pushH x2 x8 x12).p.mv.length:Nat):Int)-1).toNat-Int.toNat 0=x2.h.p.mv.length;omega))⟩,
(by(try dsimp only at *);exact ex_back),
(by(try dsimp only at *);(rw[ex_go h14 h16 h19];rfl)),
⟨rfl,
(by(try dsimp only at *);(rw[ex_go h14 h16 h19];rfl))⟩,
(by(try dsimp only at *);(rw[ex_go h14 h16 h19];rfl)),
(by(try dsimp only at *);(rw[ex_go h14 h16 h19];rfl)),trivial⟩,
⟨⟨(by(try dsimp only at *);exact Nat.le_of_eq p_nl.symm)⟩,
(by(try dsimp only at *);exact ex_unset h3.1 (ex_lt h10))⟩,
⟨⟨(by(try dsimp only at *);(have e:(pushH x2 x8 x12).p.mv.length=x2.h.p.mv.length+1:=p_len;show x2.h.p.mv.length<=(pushH x2 x8 x12).p.mv.length;omega))⟩,
(by(try dsimp only at *);exact ex_pop (Nat.le_refl _))⟩,
⟨⟨(by(try dsimp only at *);(rw[ex_go h14 h16 h19];exact Nat.le_refl _))⟩,
(by(try dsimp only at *);(rw[ex_go h14 h16 h19];exact rr))⟩,trivial,trivial,
⟨rl,rr⟩,
⟨rl,rr⟩,MapEq.rfl',trivial⟩⟩,
fun g22=>have h22:=dT g22;⟨⟨(by(try dsimp only at *);omega),
(by(try dsimp only at *);exact ex_tk h3.1 h14)⟩,
(x12+(1:Nat)),
(by(try dsimp only at *);omega),
(by(try dsimp only at *);omega),
⟨⟨rfl,rfl⟩,rfl,rfl,rfl,
⟨rfl,rfl⟩,rfl,
(by(try dsimp only at *);omega),
⟨rfl,rfl⟩,
⟨rfl,rfl⟩,
⟨rfl,rfl⟩,rfl,
⟨rfl,rfl⟩,rfl,
⟨rfl,rfl⟩,
⟨rfl,rfl⟩,
⟨rfl,rfl⟩,
⟨rfl,rfl⟩,rfl,rfl,
⟨rfl,rfl⟩,
⟨rfl,rfl⟩,
⟨rfl,rfl⟩,
⟨rfl,rfl⟩,rfl,rfl,rfl,rfl,trivial,
⟨rfl,rfl⟩,rfl,trivial⟩,
⟨⟨rfl,
(by(try dsimp only at *);rfl)⟩,
⟨rfl,
(by(try dsimp only at *);rfl)⟩,trivial,
⟨rfl,
(by(try dsimp only at *);rfl)⟩,
⟨rfl,
(by(try dsimp only at *);rfl)⟩,
(by(try dsimp only at *);rfl),
(by(try dsimp only at *);(rw[ex_no h14 (.inl h22)])),
⟨rfl,
(by(try dsimp only at *);(rw[ex_no h14 (.inl h22)]))⟩,
(by(try dsimp only at *);(rw[ex_no h14 (.inl h22)])),
(by(try dsimp only at *);(rw[ex_no h14 (.inl h22)])),trivial⟩,
⟨⟨(by(try dsimp only at *);exact Nat.le_refl _)⟩,
(by(try dsimp only at *);exact rr)⟩,
⟨⟨(by(try dsimp only at *);exact Nat.le_refl _)⟩,
(by(try dsimp only at *);exact rr)⟩,
⟨⟨(by(try dsimp only at *);(rw[ex_no h14 (.inl h22)];exact Nat.le_refl _))⟩,
(by(try dsimp only at *);(rw[ex_no h14 (.inl h22)];exact rr))⟩,trivial,trivial,
⟨rl,rr⟩,
⟨rl,rr⟩,MapEq.rfl',trivial⟩⟩,
fun g24=>have h24:=dF g24;⟨⟨(by(try dsimp only at *);omega),
(by(try dsimp only at *);exact ex_us h3.1 (ex_lt h10))⟩,
(x8+(1:Nat)),
(by(try dsimp only at *);(have:=ex_lt h10;omega)),
⟨(by(try dsimp only at *);omega),
(by(try dsimp only at *);(have:=ex_lt h10;omega))⟩,
⟨⟨rfl,rfl⟩,rfl,
(by(try dsimp only at *);omega),rfl,rfl,rfl,trivial,
⟨rfl,rfl⟩,rfl,trivial⟩,
⟨⟨rfl,
(by(try dsimp only at *);rfl)⟩,
⟨rfl,
(by(try dsimp only at *);rfl)⟩,trivial,
⟨rfl,
(by(try dsimp only at *);rfl)⟩,
⟨rfl,
(by(try dsimp only at *);rfl)⟩,
(by(try dsimp only at *);rfl),
(by(try dsimp only at *);(rw[ex_tt h9.1 h13 h24])),
⟨rfl,
(by(try dsimp only at *);(rw[ex_tt h9.1 h13 h24]))⟩,
(by(try dsimp only at *);(rw[ex_tt h9.1 h13 h24])),
(by(try dsimp only at *);(rw[ex_tt h9.1 h13 h24])),trivial⟩,
⟨⟨(by(try dsimp only at *);exact Nat.le_refl _)⟩,
(by(try dsimp only at *);exact rr)⟩,
⟨⟨(by(try dsimp only at *);exact Nat.le_refl _)⟩,
(by(try dsimp only at *);exact rr)⟩,
⟨⟨(by(try dsimp only at *);(rw[ex_tt h9.1 h13 h24];exact Nat.le_refl _))⟩,
(by(try dsimp only at *);(rw[ex_tt h9.1 h13 h24];exact rr))⟩,trivial,trivial,
⟨rl,rr⟩,
⟨rl,rr⟩,MapEq.rfl',trivial⟩⟩⟩,
fun g26=>have h26:=dF g26;⟨trivial,
⟨⟨rfl,
(by(try dsimp only at *);rfl)⟩,
⟨rfl,
(by(try dsimp only at *);rfl)⟩,trivial,
⟨rfl,
(by(try dsimp only at *);rfl)⟩,
⟨rfl,
(by(try dsimp only at *);rfl)⟩,
(by(try dsimp only at *);rfl),
(by(try dsimp only at *);(rw[ex_end h6 h9 h26])),
⟨rfl,
(by(try dsimp only at *);(rw[ex_end h6 h9 h26]))⟩,
(by(try dsimp only at *);(rw[ex_end h6 h9 h26])),
(by(try dsimp only at *);(rw[ex_end h6 h9 h26])),trivial⟩,
⟨⟨(by(try dsimp only at *);exact Nat.le_refl _)⟩,
(by(try dsimp only at *);exact rr)⟩,
⟨⟨(by(try dsimp only at *);exact Nat.le_refl _)⟩,
(by(try dsimp only at *);exact rr)⟩,
⟨⟨(by(try dsimp only at *);(rw[ex_end h6 h9 h26];exact Nat.le_refl _))⟩,
(by(try dsimp only at *);(rw[ex_end h6 h9 h26];exact rr))⟩,trivial,trivial,trivial⟩⟩⟩⟩)
theorem ex_good (M:Nat):Good Tryd.prog 35 (exC M)/\FnOk Tryd.prog 35:=by
 have fo:FnOk Tryd.prog 35:=⟨Tryd.f35,rfl,by decide+kernel,rfl⟩
 induction M with
 |zero=>exact⟨fun x h=>absurd h.2 (Nat.not_lt_zero _),fo⟩
 |succ M ih=>
  have con:ConOk Tryd.prog (cfgEx M):=ConL.ok (.cons (ConL.one cn_good) (.cons (ConL.one ds_good) (.cons (ConL.one ih) .nil)))
  exact good_of tok con (fn:=Tryd.f35) rfl (by decide+kernel) (fun _=>rfl) (ex_keeps M)
end Go.Sym