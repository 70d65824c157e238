import Derived.Test.YtpnnecijeoipfaaGreatDoorOD
import Derived.Test.YtpnnecijeoipfaaGreatDoorXD
namespace Go.Sym
set_option linter.unusedVariables false
set_option linter.unusedSimpArgs false
open Go.Proofs
set_option maxRecDepth 100000
set_option maxHeartbeats 8000000
def kuC:CT where
 X:=Unit
 pre:=fun _=>True
 args:=fun _=>[.i .u64 14695981039346656037,.ns]
 g0:=fun _=>[]
 res:=fun _=>.i .u64 14695981039346656037
 g1:=fun _=>[]
def kuI (_:Unit) (id:Nat):Option Inv:=match id with
 |0=>some { X:=Unit,ok:=fun _=>True,fr:=fun _=>[(9,.i .i64 0),(0,.i .u64 14695981039346656037)],hp:=fun _=>[],me:=fun _=>0 }
 |_=>none
set_option maxRecDepth 100000 in
theorem ku_keeps:Keeps cfgN0 Tryz.f45 kuC kuI:=Eq.mp (show((∀ x1:Unit,(True->(∃ x3:Unit,((True/\((((0:Int)=0)/\(((14695981039346656037:Int)=14695981039346656037)/\(((0:Int)=0)/\(True/\(((0:Int)=0)/\(True/\True))))))/\True))/\(∀ x4:Unit,(True->(((decide ((0:Int)<0)=true)->(Stuck 6 (dN (Oper.dst (Oper.mk (some 11) (Op.indexAddr 85 (Operand.tmp 7) (Operand.tmp 9)) 0 ("checksum.go:36") (List.toArray (@List.nil Edge)) none)))))/\((decide ((0:Int)<0)=false)->(((14695981039346656037:Int)=14695981039346656037)/\True))))))))))=(Keeps cfgN0 Tryz.f45 kuC kuI) by kernel_rfl) (fun x1=>fun h2=>⟨(default),
⟨trivial,
⟨rfl,rfl,rfl,trivial,rfl,trivial,trivial⟩,trivial⟩,
fun x4=>fun h5=>⟨fun g6=>have h6:=dT g6;(by(try dsimp only at *);omega),
fun g7=>have h7:=dF g7;⟨rfl,trivial⟩⟩⟩)
theorem ku_good:Good Tryz.prog 45 kuC/\FnOk Tryz.prog 45:=good_of tok conN0 (fn:=Tryz.f45) rfl (by decide+kernel) (fun _=>rfl) ku_keeps
def ksC:CT where
 X:=Unit
 pre:=fun _=>True
 args:=fun _=>[.ns]
 g0:=fun _=>[]
 res:=fun _=>.i .u64 14695981039346656037
 g1:=fun _=>[]
def cfgKs:Cfg:=⟨T,[],[(45,.one kuC)],noInv,20,{}⟩
theorem conKs:ConOk Tryz.prog cfgKs:=ConL.ok (.cons (ConL.one ku_good) .nil)
set_option maxRecDepth 100000 in
theorem ks_keeps:Keeps cfgKs Tryz.f23 ksC noIv:=Eq.mp (show((∀ x1:Unit,(True->(∃ x3:Unit,(True/\((((14695981039346656037:Int)=14695981039346656037)/\(True/\True))/\(True/\(((14695981039346656037:Int)=14695981039346656037)/\True))))))))=(Keeps cfgKs Tryz.f23 ksC noIv) by kernel_rfl) (fun x1=>fun h2=>⟨(()),trivial,
⟨rfl,trivial,trivial⟩,trivial,rfl,trivial⟩)
theorem ks_good:Good Tryz.prog 23 ksC/\FnOk Tryz.prog 23:=good_of tok conKs (fn:=Tryz.f23) rfl (by decide+kernel) (fun _=>rfl) ks_keeps
def awB:CT where
 X:=Unit
 pre:=fun _=>True
 args:=fun _=>[]
 g0:=fun _=>[]
 res:=fun _=>.b true
 g1:=fun _=>[]
def awC:CT:=yesC awB
def cfgAw:Cfg:=⟨T,[],[(23,.one ksC)],noInv,20,{}⟩
theorem conAw:ConOk Tryz.prog cfgAw:=ConL.ok (.cons (ConL.one ks_good) .nil)
set_option maxRecDepth 100000 in
theorem aw_keeps:Keeps cfgAw Tryz.f5 awB noIv:=Eq.mp (show((∀ x1:Unit,(True->(∃ x3:Unit,(True/\((True/\True)/\(True/\((decide ((14695981039346656037:Int)≠(0:Int))=true)/\True))))))))=(Keeps cfgAw Tryz.f5 awB noIv) by kernel_rfl) (fun x1=>fun h2=>⟨(()),trivial,
⟨trivial,trivial⟩,trivial,
(by(try dsimp only at *);grind),trivial⟩)
theorem aw_good:Good Tryz.prog 5 awC/\FnOk Tryz.prog 5:=good_yes (good_of tok conAw (fn:=Tryz.f5) rfl (by decide+kernel) (fun _=>rfl) aw_keeps) (fun _=>rfl) (fun _=>rfl)
def kCs:List Kd:=[.int .u8,.int .u8,.int .u8,.int .u8,.int .u8,.int .u8]
def encCs (x:Cs):Nat->D:=encN [.i x.kind,.i x.call,.i x.at_,.i x.unit,.i x.urg,.i x.node]
def opQ (k:Nat) (r:Rg) (x:Cs):OPx:=⟨r,toldC x,(k:Int)+1⟩
def adQ (n:Nat) (r:Rg) (x:Cs):OPx:=⟨r,toldC x,1+x.at_%((n:Int)+1)⟩
def stepR (n k:Nat) (r:Rg) (x:Cs):Rg:=if x.kind%2=0 then opF (opQ k r x)else adF (adQ n r x)
def stR (l:List Cs):Nat->Rg
 |0=>noRg
 |k+1=>stepR l.length k (stR l k) (l.getD k default)
structure TPx where
 l:List Cs
 call:Int
structure TPok (q:TPx):Prop where
 l:∀ x∈q.l,CsOk x
 call:0<=q.call/\q.call<=255
theorem told6 {x:Cs} (h:CsOk x):(toldC x).call<=6:=by have:=h.call;show 1+x.call%6<=6;omega
theorem at_rng {n:Nat} {x:Cs} (h:CsOk x) (hn:n<=40):1<=1+x.at_%((n:Int)+1)/\1+x.at_%((n:Int)+1)<=1000000:=by
 have:=Int.emod_nonneg x.at_ (show(n:Int)+1≠0 by omega)
 have:=Int.emod_lt_of_pos x.at_ (show 0<(n:Int)+1 by omega)
 omega
theorem cs_at {q:TPx} (h:TPok q) {k:Nat} (hk:k<q.l.length):CsOk (q.l.getD k default):=h.l _ (by rw[List.getD_eq_getElem?_getD,List.getElem?_eq_getElem hk];exact List.getElem_mem _)
theorem st_ok {q:TPx} (h:TPok q) (h40:q.l.length<=40):∀ k,k<=q.l.length->RgI 40 (stR q.l k)
 |0,_=>RgI.no 40
 |k+1,hk=>by
  have hc:=cs_at h (k:=k) (by omega)
  have ih:=st_ok h h40 k (by omega)
  show RgI 40 (stepR _ _ _ _)
  unfold stepR
  split
  ·exact RgI.open_ (q:=opQ k (stR q.l k) (q.l.getD k default)) ih (told_ok hc) (told6 hc) ⟨by show(1:Int)<=k+1;omega,by show(k:Int)+1<=40;omega⟩ (by omega)
  ·exact RgI.add (q:=adQ q.l.length (stR q.l k) (q.l.getD k default)) ih (told_ok hc) (told6 hc) (at_rng hc h40)
theorem st_op {l:List Cs} {k:Nat} (h:(l.getD k default).kind%2=0):stR l (k+1)=opF (opQ k (stR l k) (l.getD k default)):=if_pos h
theorem st_ad {l:List Cs} {k:Nat} (h:¬ (l.getD k default).kind%2=0):stR l (k+1)=adF (adQ l.length (stR l k) (l.getD k default)):=if_neg h
def pmQ (q:TPx):PMx:=⟨stR q.l q.l.length,1+q.call%6⟩
theorem pm_ok {q:TPx} (h:TPok q) (h40:q.l.length<=40) (hc:1+q.call%6∈(stR q.l q.l.length).ck):PMok (pmQ q):=⟨st_ok h h40 _ (Nat.le_refl _),hc⟩
theorem RgI.lenC {n:Nat} {r:Rg} (h:RgI n r) (k:Int):(getC r k).nodes.length<=4096:=by
 unfold getC;split
 ·rename_i hk;exact(h.c k hk).1.len
 ·exact Nat.zero_le _
theorem RgI.lenI {n:Nat} {r:Rg} (h:RgI n r) (k:Int):(getI r k).nodes.length<=4096/\(getI r k).calls.length<=1000/\(getI r k).units.length<=1000:=by
 unfold getI;split
 ·rename_i hk
  have:=(h.i k hk).2.2.2.2.2.2.1
  exact⟨this.len,Nat.le_trans this.clen (by omega),Nat.le_trans this.ulen (by omega)⟩
 ·exact⟨Nat.zero_le _,Nat.zero_le _,Nat.zero_le _⟩
def tpC:CT where
 X:=TPx
 pre:=TPok
 args:=fun q=>[.sl 100000 0 q.l.length,.i .u8 q.call]
 g0:=fun q=>[(100000,.rows .bor kCs q.l.length (encL encCs q.l))]
 res:=fun _=>.b true
 g1:=fun _=>[]
def tpI (q:TPx) (id:Nat):Option Inv:=match id with
 |0=>some { X:=Nat,ok:=fun k=>k<=q.l.length/\q.l.length<=40,fr:=fun k=>[(28,.i .i64 k),(5,.p 151 0 0)],hp:=fun k=>(151,.one .own [.mp 152,.mp 153,.mp 154])::rgM 151 .own (stR q.l k),me:=fun k=>q.l.length-k }
 |_=>none
def cfgTp:Cfg:=⟨T,[],[(5,.one awC),(6,.one nwC),(7,.one toC),(8,.one opC),(9,.one adC),(10,.one gcC),(11,.one giC),(12,.one siC),(13,.one isC),(14,.one mgC),(15,.one ieC),(16,.one roC)],noInv,18,{}⟩
theorem conTp:ConOk Tryz.prog cfgTp:=ConL.ok (.cons (ConL.one aw_good) (.cons (ConL.one nw_good) (.cons (ConL.one to_good) (.cons (ConL.one op_good) (.cons (ConL.one ad_good) (.cons (ConL.one gc_good) (.cons (ConL.one gi_good) (.cons (ConL.one si_good) (.cons (ConL.one is_good) (.cons (ConL.one mg_good) (.cons (ConL.one ie_good) (.cons (ConL.one ro_good) .nil))))))))))))
theorem PMok.gx {q:PMx} (h:PMok q):getI q.r (pmI q)=pmX q:=getI_in h.in_
theorem PMok.gid {q:PMx} (h:PMok q):(getI q.r (pmI q)).id=pmI q:=by rw[h.gx];exact h.id.1
theorem PMok.lens {q:PMx} (h:PMok q):(pmX q).nodes.length<=4096/\(pmX q).calls.length<=1000/\(pmX q).units.length<=1000:=by have:=h.r.lenI (pmI q);rwa [h.gx]at this
theorem PMok.no {q:PMx} (h:PMok q) (h2:siR (pmS q)≠0) (h3:¬ ((getI q.r (pmI q)).calls.length:Int)<2):(!(isO (getI q.r (pmI q))))=true:=by
 rw[h.gx]at*
 rcases h.si h2 with a|a
 ·have a:isO (pmX q)=false:=a
  rw[a];rfl
 ·have a:(pmX q).calls.length<2:=a
  omega
theorem PMok.u {q:PMx} (h:PMok q):(getC (pmR2 q) q.c).inc=(getI q.r (pmI q)).id:=by rw[h.backC,h.gid];rfl
set_option maxRecDepth 100000 in
theorem tp_keeps:Keeps cfgTp Tryz.f3 tpC tpI:=Eq.mp (show((∀ x1:TPx,((TPok x1)->(∃ x3:Unit,(True/\(True/\(True/\(((decide (40<(x1.l.length:Int))=true)->(true=true/\True))/\((decide (40<(x1.l.length:Int))=false)->(∃ x6:Unit,(True/\(True/\(True/\(∃ x7:Nat,((((x7<=x1.l.length)/\(x1.l.length<=(40:Nat)))/\(((0=(x7:Int))/\((0=0/\0=0)/\(((x1.l.length:Int)=(x1.l.length:Int))/\((0=0/\x1.l.length=x1.l.length)/\(false=false/\((0=0/\x1.l.length=x1.l.length)/\(x1.call=x1.call/\True)))))))/\((True/\(True/\(True/\True)))/\((MapEq (.int .i64:: .int .i64:: .int .i64::Kd.str:: .sl [.int .i64]:: .int .i64:: .int .i64::Kd.bool::[]) (Rg.ck noRg) (stR x1.l x7).ck (encRC noRg) (encRC (stR x1.l x7)))/\((MapEq (.int .i64:: .int .i64::Kd.str:: .sl [.int .i64]:: .int .i64:: .int .i64:: .sl [.int .i64]:: .sl [.int .i64]:: .int .i64::Kd.bool::[]) (Rg.ik noRg) (stR x1.l x7).ik (encRI noRg) (encRI (stR x1.l x7)))/\((MapEq [.int .i64] (Rg.hk noRg) (stR x1.l x7).hk (encRH noRg) (encRH (stR x1.l x7)))/\(((RLe x1.l.length x1.l.length)/\(RowsEq (.int IntKind.u8:: .int IntKind.u8:: .int IntKind.u8:: .int IntKind.u8:: .int IntKind.u8:: .int IntKind.u8::[]) x1.l.length (encL encCs x1.l) (encL encCs x1.l)))/\True)))))))/\(∀ x8:Nat,((x8<=x1.l.length/\x1.l.length<=(40:Nat))->(((decide ((x8:Int)<(x1.l.length:Int))=true)->((((0:Int)<=(x8:Int))/\((x8:Int)<(x1.l.length:Int)))/\((0+Int.toNat (x8:Int)<x1.l.length)/\(∃ x11:Cs,((CsOk x11)/\(((((x1.l.getD (0+Int.toNat (x8:Int)) default).kind=x11.kind)/\(((x1.l.getD (0+Int.toNat (x8:Int)) default).call=x11.call)/\(((x1.l.getD (0+Int.toNat (x8:Int)) default).at_=x11.at_)/\(((x1.l.getD (0+Int.toNat (x8:Int)) default).unit=x11.unit)/\(((x1.l.getD (0+Int.toNat (x8:Int)) default).urg=x11.urg)/\(((x1.l.getD (0+Int.toNat (x8:Int)) default).node=x11.node)/\True))))))/\True)/\(True/\((((0:Int)<=(x1.l.getD (0+Int.toNat (x8:Int)) default).kind)/\((0:Int)<2))/\(((decide ((x1.l.getD (0+Int.toNat (x8:Int)) default).kind%2=0)=true)->((((-9223372036854775808:Int)<=(x8:Int)+1)/\((x8:Int)+1<=(9223372036854775807:Int)))/\(∃ x13:OPx,((OPok x13)/\(((0=0/\0=0)/\((((toldC x11).call=x13.t.call)/\(((toldC x11).inc=x13.t.inc)/\(((toldC x11).urg=x13.t.urg)/\(((toldC x11).code=x13.t.code)/\((0=0/\((toldC x11).nodes.length=x13.t.nodes.length))/\(((0:Int)=0)/\(((0:Int)=0)/\(((toldC x11).closed=x13.t.closed)/\True))))))))/\(((x8:Int)+1=x13.id)/\True)))/\(((True/\(True/\(True/\True)))/\((MapEq (.int .i64:: .int .i64:: .int .i64::Kd.str:: .sl [.int .i64]:: .int .i64:: .int .i64::Kd.bool::[]) (stR x1.l x8).ck x13.r.ck (encRC (stR x1.l x8)) (encRC x13.r))/\((MapEq (.int .i64:: .int .i64::Kd.str:: .sl [.int .i64]:: .int .i64:: .int .i64:: .sl [.int .i64]:: .sl [.int .i64]:: .int .i64::Kd.bool::[]) (stR x1.l x8).ik x13.r.ik (encRI (stR x1.l x8)) (encRI x13.r))/\((MapEq [.int .i64] (stR x1.l x8).hk x13.r.hk (encRH (stR x1.l x8)) (encRH x13.r))/\(((RLe x13.t.nodes.length (toldC x11).nodes.length)/\(RI x13.t.nodes.length (toldC x11).nodes x13.t.nodes))/\True)))))/\((((-9223372036854775808:Int)<=(x8:Int)+1)/\((x8:Int)+1<=(9223372036854775807:Int)))/\(∃ x14:Nat,((x1.l.length-x14<x1.l.length-x8)/\(((x14<=x1.l.length)/\(x1.l.length<=(40:Nat)))/\((((x8:Int)+1=(x14:Int))/\((0=0/\0=0)/\(((x1.l.length:Int)=(x1.l.length:Int))/\((0=0/\x1.l.length=x1.l.length)/\(false=false/\((0=0/\x1.l.length=x1.l.length)/\(x1.call=x1.call/\True)))))))/\((True/\(True/\(True/\True)))/\((MapEq (.int .i64:: .int .i64:: .int .i64::Kd.str:: .sl [.int .i64]:: .int .i64:: .int .i64::Kd.bool::[]) (opF x13).ck (stR x1.l x14).ck (encRC (opF x13)) (encRC (stR x1.l x14)))/\((MapEq (.int .i64:: .int .i64::Kd.str:: .sl [.int .i64]:: .int .i64:: .int .i64:: .sl [.int .i64]:: .sl [.int .i64]:: .int .i64::Kd.bool::[]) (opF x13).ik (stR x1.l x14).ik (encRI (opF x13)) (encRI (stR x1.l x14)))/\((MapEq [.int .i64] (opF x13).hk (stR x1.l x14).hk (encRH (opF x13)) (encRH (stR x1.l x14)))/\(((RLe x1.l.length x1.l.length)/\(RowsEq (.int IntKind.u8:: .int IntKind.u8:: .int IntKind.u8:: .int IntKind.u8:: .int IntKind.u8:: .int IntKind.u8::[]) x1.l.length (encL encCs x1.l) (encL encCs x1.l)))/\True))))))))))))))))/\((decide ((x1.l.getD (0+Int.toNat (x8:Int)) default).kind%2=0)=false)->((((-9223372036854775808:Int)<=(x1.l.getD (0+Int.toNat (x8:Int)) default).at_)/\((x1.l.getD (0+Int.toNat (x8:Int)) default).at_<=(9223372036854775807:Int)))/\((((-9223372036854775808:Int)<=(x1.l.length:Int)+1)/\((x1.l.length:Int)+1<=(9223372036854775807:Int)))/\((((0:Int)<=(x1.l.getD (0+Int.toNat (x8:Int)) default).at_)/\(0<(x1.l.length:Int)+1))/\((((-9223372036854775808:Int)<=(1:Int)+(x1.l.getD (0+Int.toNat (x8:Int)) default).at_%((x1.l.length:Int)+1))/\((1:Int)+(x1.l.getD (0+Int.toNat (x8:Int)) default).at_%((x1.l.length:Int)+1)<=(9223372036854775807:Int)))/\(∃ x16:OPx,((ADok x16)/\(((0=0/\0=0)/\((((toldC x11).call=x16.t.call)/\(((toldC x11).inc=x16.t.inc)/\(((toldC x11).urg=x16.t.urg)/\(((toldC x11).code=x16.t.code)/\((0=0/\((toldC x11).nodes.length=x16.t.nodes.length))/\(((0:Int)=0)/\(((0:Int)=0)/\(((toldC x11).closed=x16.t.closed)/\True))))))))/\(((1:Int)+(x1.l.getD (0+Int.toNat (x8:Int)) default).at_%((x1.l.length:Int)+1)=x16.id)/\True)))/\(((True/\(True/\(True/\True)))/\((MapEq (.int .i64:: .int .i64:: .int .i64::Kd.str:: .sl [.int .i64]:: .int .i64:: .int .i64::Kd.bool::[]) (stR x1.l x8).ck x16.r.ck (encRC (stR x1.l x8)) (encRC x16.r))/\((MapEq (.int .i64:: .int .i64::Kd.str:: .sl [.int .i64]:: .int .i64:: .int .i64:: .sl [.int .i64]:: .sl [.int .i64]:: .int .i64::Kd.bool::[]) (stR x1.l x8).ik x16.r.ik (encRI (stR x1.l x8)) (encRI x16.r))/\((MapEq [.int .i64] (stR x1.l x8).hk x16.r.hk (encRH (stR x1.l x8)) (encRH x16.r))/\(((RLe x16.t.nodes.length (toldC x11).nodes.length)/\(RI x16.t.nodes.length (toldC x11).nodes x16.t.nodes))/\True)))))/\((((-9223372036854775808:Int)<=(x8:Int)+1)/\((x8:Int)+1<=(9223372036854775807:Int)))/\(∃ x17:Nat,((x1.l.length-x17<x1.l.length-x8)/\(((x17<=x1.l.length)/\(x1.l.length<=(40:Nat)))/\((((x8:Int)+1=(x17:Int))/\((0=0/\0=0)/\(((x1.l.length:Int)=(x1.l.length:Int))/\((0=0/\x1.l.length=x1.l.length)/\(false=false/\((0=0/\x1.l.length=x1.l.length)/\(x1.call=x1.call/\True)))))))/\((True/\(True/\(True/\True)))/\((MapEq (.int .i64:: .int .i64:: .int .i64::Kd.str:: .sl [.int .i64]:: .int .i64:: .int .i64::Kd.bool::[]) (adF x16).ck (stR x1.l x17).ck (encRC (adF x16)) (encRC (stR x1.l x17)))/\((MapEq (.int .i64:: .int .i64::Kd.str:: .sl [.int .i64]:: .int .i64:: .int .i64:: .sl [.int .i64]:: .sl [.int .i64]:: .int .i64::Kd.bool::[]) (adF x16).ik (stR x1.l x17).ik (encRI (adF x16)) (encRI (stR x1.l x17)))/\((MapEq [.int .i64] (adF x16).hk (stR x1.l x17).hk (encRH (adF x16)) (encRH (stR x1.l x17)))/\(((RLe x1.l.length x1.l.length)/\(RowsEq (.int IntKind.u8:: .int IntKind.u8:: .int IntKind.u8:: .int IntKind.u8:: .int IntKind.u8:: .int IntKind.u8::[]) x1.l.length (encL encCs x1.l) (encL encCs x1.l)))/\True))))))))))))))))))))))))))))/\((decide ((x8:Int)<(x1.l.length:Int))=false)->((((-9223372036854775808:Int)<=x1.call)/\(x1.call<=(9223372036854775807:Int)))/\((((0:Int)<=x1.call)/\((0:Int)<6))/\((((-9223372036854775808:Int)<=(1:Int)+x1.call%6)/\((1:Int)+x1.call%6<=(9223372036854775807:Int)))/\(∃ x19:GTx,(((getC x19.r x19.k).nodes.length<=(4096:Nat))/\(((0=0/\0=0)/\(((1:Int)+x1.call%6=x19.k)/\True))/\(((True/\(True/\(True/\True)))/\((MapEq (.int .i64:: .int .i64:: .int .i64::Kd.str:: .sl [.int .i64]:: .int .i64:: .int .i64::Kd.bool::[]) (stR x1.l x8).ck x19.r.ck (encRC (stR x1.l x8)) (encRC x19.r))/\((MapEq (.int .i64:: .int .i64::Kd.str:: .sl [.int .i64]:: .int .i64:: .int .i64:: .sl [.int .i64]:: .sl [.int .i64]:: .int .i64::Kd.bool::[]) (stR x1.l x8).ik x19.r.ik (encRI (stR x1.l x8)) (encRI x19.r))/\((MapEq [.int .i64] (stR x1.l x8).hk x19.r.hk (encRH (stR x1.l x8)) (encRH x19.r))/\True))))/\((((!decide (x19.k∈x19.r.ck))=true)->(true=true/\True))/\(((!decide (x19.k∈x19.r.ck))=false)->(∃ x22:GTx,((((getI x22.r x22.k).nodes.length<=(4096:Nat))/\(((getI x22.r x22.k).calls.length<=(1000:Nat))/\((getI x22.r x22.k).units.length<=(1000:Nat))))/\(((0=0/\0=0)/\(((getC x19.r x19.k).inc=x22.k)/\True))/\(((True/\(True/\(True/\True)))/\((MapEq (.int .i64:: .int .i64:: .int .i64::Kd.str:: .sl [.int .i64]:: .int .i64:: .int .i64::Kd.bool::[]) (stR x1.l x8).ck x22.r.ck (encRC (stR x1.l x8)) (encRC x22.r))/\((MapEq (.int .i64:: .int .i64::Kd.str:: .sl [.int .i64]:: .int .i64:: .int .i64:: .sl [.int .i64]:: .sl [.int .i64]:: .int .i64::Kd.bool::[]) (stR x1.l x8).ik x22.r.ik (encRI (stR x1.l x8)) (encRI x22.r))/\((MapEq [.int .i64] (stR x1.l x8).hk x22.r.hk (encRH (stR x1.l x8)) (encRH x22.r))/\True))))/\((((!decide (x22.k∈x22.r.ik))=false)->(∃ x24:SIx,((SIok x24)/\(((0=0/\0=0)/\(((1:Int)+x1.call%6=x24.call)/\(((getI x22.r x22.k).id=x24.inc)/\(1000=x24.id/\(((0:Int)=0)/\True)))))/\(((True/\(True/\(True/\True)))/\((MapEq (.int .i64:: .int .i64:: .int .i64::Kd.str:: .sl [.int .i64]:: .int .i64:: .int .i64::Kd.bool::[]) (stR x1.l x8).ck x24.r.ck (encRC (stR x1.l x8)) (encRC x24.r))/\((MapEq (.int .i64:: .int .i64::Kd.str:: .sl [.int .i64]:: .int .i64:: .int .i64:: .sl [.int .i64]:: .sl [.int .i64]:: .int .i64::Kd.bool::[]) (stR x1.l x8).ik x24.r.ik (encRI (stR x1.l x8)) (encRI x24.r))/\((MapEq [.int .i64] (stR x1.l x8).hk x24.r.hk (encRH (stR x1.l x8)) (encRH x24.r))/\True))))/\(((decide (siR x24≠(0:Int))=true)->((((!decide (x22.k∈x22.r.ik))=false)->(((decide ((↑(getI x22.r x22.k).calls.length:Int)<2)=false)->(∃ x28:Ic,(True/\(((((getI x22.r x22.k).id=x28.id)/\(((getI x22.r x22.k).urg=x28.urg)/\(((getI x22.r x22.k).code=x28.code)/\((0=0/\((getI x22.r x22.k).nodes.length=x28.nodes.length))/\(((0:Int)=0)/\(((0:Int)=0)/\((0=0/\((getI x22.r x22.k).calls.length=x28.calls.length))/\((0=0/\((getI x22.r x22.k).units.length=x28.units.length))/\(((getI x22.r x22.k).merged=x28.merged)/\(((getI x22.r x22.k).closed=x28.closed)/\True))))))))))/\True)/\((((RLe x28.nodes.length (getI x22.r x22.k).nodes.length)/\(RI x28.nodes.length (getI x22.r x22.k).nodes x28.nodes))/\(((RLe x28.calls.length (getI x22.r x22.k).calls.length)/\(RI x28.calls.length (getI x22.r x22.k).calls x28.calls))/\(((RLe x28.units.length (getI x22.r x22.k).units.length)/\(RI x28.units.length (getI x22.r x22.k).units x28.units))/\True)))/\(((!(decide (x28.merged=(0:Int))&& !x28.closed))=true)/\True))))))/\((decide ((↑(getI x22.r x22.k).calls.length:Int)<2)=true)->(true=true/\True))))/\(((!decide (x22.k∈x22.r.ik))=true)->(true=true/\True))))/\((decide (siR x24≠(0:Int))=false)->(∃ x32:MGx,((MGok x32)/\(((0=0/\0=0)/\(1000=x32.a/\(((getI x22.r x22.k).id=x32.b)/\True)))/\(((True/\(True/\(True/\True)))/\((MapEq (.int .i64:: .int .i64:: .int .i64::Kd.str:: .sl [.int .i64]:: .int .i64:: .int .i64::Kd.bool::[]) (siF x24).ck x32.r.ck (encRC (siF x24)) (encRC x32.r))/\((MapEq (.int .i64:: .int .i64::Kd.str:: .sl [.int .i64]:: .int .i64:: .int .i64:: .sl [.int .i64]:: .sl [.int .i64]:: .int .i64::Kd.bool::[]) (siF x24).ik x32.r.ik (encRI (siF x24)) (encRI x32.r))/\((MapEq [.int .i64] (siF x24).hk x32.r.hk (encRH (siF x24)) (encRH x32.r))/\True))))/\(((decide (mgR x32≠(0:Int))=true)->(false=true/\True))/\((decide (mgR x32≠(0:Int))=false)->(∃ x35:GTx,((((getI x35.r x35.k).nodes.length<=(4096:Nat))/\(((getI x35.r x35.k).calls.length<=(1000:Nat))/\((getI x35.r x35.k).units.length<=(1000:Nat))))/\(((0=0/\0=0)/\(((getI x22.r x22.k).id=x35.k)/\True))/\(((True/\(True/\(True/\True)))/\((MapEq (.int .i64:: .int .i64:: .int .i64::Kd.str:: .sl [.int .i64]:: .int .i64:: .int .i64::Kd.bool::[]) (mgF x32).ck x35.r.ck (encRC (mgF x32)) (encRC x35.r))/\((MapEq (.int .i64:: .int .i64::Kd.str:: .sl [.int .i64]:: .int .i64:: .int .i64:: .sl [.int .i64]:: .sl [.int .i64]:: .int .i64::Kd.bool::[]) (mgF x32).ik x35.r.ik (encRI (mgF x32)) (encRI x35.r))/\((MapEq [.int .i64] (mgF x32).hk x35.r.hk (encRH (mgF x32)) (encRH x35.r))/\True))))/\(∃ x36:GTx,(((getC x36.r x36.k).nodes.length<=(4096:Nat))/\(((0=0/\0=0)/\(((1:Int)+x1.call%6=x36.k)/\True))/\(((True/\(True/\(True/\True)))/\((MapEq (.int .i64:: .int .i64:: .int .i64::Kd.str:: .sl [.int .i64]:: .int .i64:: .int .i64::Kd.bool::[]) (mgF x32).ck x36.r.ck (encRC (mgF x32)) (encRC x36.r))/\((MapEq (.int .i64:: .int .i64::Kd.str:: .sl [.int .i64]:: .int .i64:: .int .i64:: .sl [.int .i64]:: .sl [.int .i64]:: .int .i64::Kd.bool::[]) (mgF x32).ik x36.r.ik (encRI (mgF x32)) (encRI x36.r))/\((MapEq [.int .i64] (mgF x32).hk x36.r.hk (encRH (mgF x32)) (encRH x36.r))/\True))))/\(∃ x37:Ic,(((x37.nodes.length<=(4096:Nat))/\((x37.calls.length<=(4096:Nat))/\(x37.units.length<=(4096:Nat))))/\(((((getI x22.r x22.k).id=x37.id)/\(((getI x22.r x22.k).urg=x37.urg)/\(((getI x22.r x22.k).code=x37.code)/\((0=0/\((getI x22.r x22.k).nodes.length=x37.nodes.length))/\(((0:Int)=0)/\(((0:Int)=0)/\((0=0/\((getI x22.r x22.k).calls.length=x37.calls.length))/\((0=0/\((getI x22.r x22.k).units.length=x37.units.length))/\(((getI x22.r x22.k).merged=x37.merged)/\(((getI x22.r x22.k).closed=x37.closed)/\True))))))))))/\((((getI x35.r x35.k).id=x37.id)/\(((getI x35.r x35.k).urg=x37.urg)/\(((getI x35.r x35.k).code=x37.code)/\((0=0/\((getI x35.r x35.k).nodes.length=x37.nodes.length))/\(((0:Int)=0)/\(((0:Int)=0)/\((0=0/\((getI x35.r x35.k).calls.length=x37.calls.length))/\((0=0/\((getI x35.r x35.k).units.length=x37.units.length))/\(((getI x35.r x35.k).merged=x37.merged)/\(((getI x35.r x35.k).closed=x37.closed)/\True))))))))))/\True))/\((((RLe x37.nodes.length (getI x22.r x22.k).nodes.length)/\(RI x37.nodes.length (getI x22.r x22.k).nodes x37.nodes))/\(((RLe x37.calls.length (getI x22.r x22.k).calls.length)/\(RI x37.calls.length (getI x22.r x22.k).calls x37.calls))/\(((RLe x37.units.length (getI x22.r x22.k).units.length)/\(RI x37.units.length (getI x22.r x22.k).units x37.units))/\(((RLe x37.nodes.length (getI x35.r x35.k).nodes.length)/\(RI x37.nodes.length (getI x35.r x35.k).nodes x37.nodes))/\(((RLe x37.calls.length (getI x35.r x35.k).calls.length)/\(RI x37.calls.length (getI x35.r x35.k).calls x37.calls))/\(((RLe x37.units.length (getI x35.r x35.k).units.length)/\(RI x37.units.length (getI x35.r x35.k).units x37.units))/\True))))))/\(((decide ((getC x36.r x36.k).inc=(getI x22.r x22.k).id)=true)->(∃ x39:ROx,((RootN x39.r x39.n x39.id x39.a)/\(((0=0/\0=0)/\(1000=x39.id/\True))/\(((True/\(True/\(True/\True)))/\((MapEq (.int .i64:: .int .i64:: .int .i64::Kd.str:: .sl [.int .i64]:: .int .i64:: .int .i64::Kd.bool::[]) (mgF x32).ck x39.r.ck (encRC (mgF x32)) (encRC x39.r))/\((MapEq (.int .i64:: .int .i64::Kd.str:: .sl [.int .i64]:: .int .i64:: .int .i64:: .sl [.int .i64]:: .sl [.int .i64]:: .int .i64::Kd.bool::[]) (mgF x32).ik x39.r.ik (encRI (mgF x32)) (encRI x39.r))/\((MapEq [.int .i64] (mgF x32).hk x39.r.hk (encRH (mgF x32)) (encRH x39.r))/\True))))/\((decide (x39.a=(getI x22.r x22.k).id)=true)/\True))))))/\((decide ((getC x36.r x36.k).inc=(getI x22.r x22.k).id)=false)->(false=true/\True))))))))))))))))))))))))))))/\(((!decide (x22.k∈x22.r.ik))=true)->((((!decide (x22.k∈x22.r.ik))=false)->(((decide ((↑(getI x22.r x22.k).calls.length:Int)<2)=false)->(∃ x44:Ic,(True/\(((((getI x22.r x22.k).id=x44.id)/\(((getI x22.r x22.k).urg=x44.urg)/\(((getI x22.r x22.k).code=x44.code)/\((0=0/\((getI x22.r x22.k).nodes.length=x44.nodes.length))/\(((0:Int)=0)/\(((0:Int)=0)/\((0=0/\((getI x22.r x22.k).calls.length=x44.calls.length))/\((0=0/\((getI x22.r x22.k).units.length=x44.units.length))/\(((getI x22.r x22.k).merged=x44.merged)/\(((getI x22.r x22.k).closed=x44.closed)/\True))))))))))/\True)/\((((RLe x44.nodes.length (getI x22.r x22.k).nodes.length)/\(RI x44.nodes.length (getI x22.r x22.k).nodes x44.nodes))/\(((RLe x44.calls.length (getI x22.r x22.k).calls.length)/\(RI x44.calls.length (getI x22.r x22.k).calls x44.calls))/\(((RLe x44.units.length (getI x22.r x22.k).units.length)/\(RI x44.units.length (getI x22.r x22.k).units x44.units))/\True)))/\(((!(decide (x44.merged=(0:Int))&& !x44.closed))=true)/\True))))))/\((decide ((↑(getI x22.r x22.k).calls.length:Int)<2)=true)->(true=true/\True))))/\(((!decide (x22.k∈x22.r.ik))=true)->(true=true/\True)))))))))))))))))))))))))))))))))))))=(Keeps cfgTp Tryz.f3 tpC tpI) by kernel_rfl) (fun x1=>fun h2=>⟨(default),
 trivial,trivial,trivial,
fun g4=>have h4:=dT g4;⟨rfl,trivial⟩,
fun g5=>have h5:=dF g5;⟨(default),trivial,trivial,trivial,
((0:Nat)),
⟨⟨(by(try dsimp only at *);omega),
(by(try dsimp only at *);omega)⟩,
⟨(by(try dsimp only at *);omega),
⟨rfl,rfl⟩,rfl,
⟨rfl,rfl⟩,rfl,
⟨rfl,rfl⟩,rfl,trivial⟩,
⟨trivial,trivial,trivial,trivial⟩,
(by(try dsimp only at *);exact MapEq.rfl'),
(by(try dsimp only at *);exact MapEq.rfl'),
(by(try dsimp only at *);exact MapEq.rfl'),
⟨rl,rr⟩,trivial⟩,
fun x8=>fun h9=>⟨fun g10=>have h10:=dT g10;⟨⟨(by(try dsimp only at *);omega),
(by(try dsimp only at *);omega)⟩,
(by(try dsimp only at *);omega),
(List.getD (TPx.l x1) ((0:Nat)+Int.toNat (↑x8:Int)) default),
(by(try dsimp only at *);(rw[nat0];exact cs_at h2 (by omega))),
⟨⟨rfl,rfl,rfl,rfl,rfl,rfl,trivial⟩,trivial⟩,trivial,
⟨(by(try dsimp only at *);(rw[nat0];exact(cs_at h2 (by omega)).kind.1)),
(by(try dsimp only at *);omega)⟩,
fun g12=>have h12:=dT g12;⟨⟨(by(try dsimp only at *);omega),
(by(try dsimp only at *);omega)⟩,
(opQ x8 (stR (TPx.l x1) x8) (List.getD (TPx.l x1) x8 default)),
(by(try dsimp only at *);exact⟨told_ok (cs_at h2 (by omega)),by show(1:Int)<=x8+1;omega,by show(x8:Int)+1<=1099511627776;omega⟩),
⟨⟨rfl,rfl⟩,
⟨(by(try dsimp only at *);(rw[nat0];exact rfl)),
(by(try dsimp only at *);rfl),
(by(try dsimp only at *);(rw[nat0];exact rfl)),
(by(try dsimp only at *);rfl),
⟨rfl,
(by(try dsimp only at *);rfl)⟩,rfl,rfl,
(by(try dsimp only at *);rfl),trivial⟩,
(by(try dsimp only at *);rfl),trivial⟩,
⟨⟨trivial,trivial,trivial,trivial⟩,
(by(try dsimp only at *);exact MapEq.rfl'),
(by(try dsimp only at *);exact MapEq.rfl'),
(by(try dsimp only at *);exact MapEq.rfl'),
⟨⟨(by(try dsimp only at *);(rw[nat0];exact Nat.le_refl _))⟩,
(by(try dsimp only at *);(rw[nat0];exact rr))⟩,trivial⟩,
⟨(by(try dsimp only at *);omega),
(by(try dsimp only at *);omega)⟩,
(x8+(1:Nat)),
(by(try dsimp only at *);omega),
⟨(by(try dsimp only at *);omega),
(by(try dsimp only at *);omega)⟩,
⟨(by(try dsimp only at *);omega),
⟨rfl,rfl⟩,rfl,
⟨rfl,rfl⟩,rfl,
⟨rfl,rfl⟩,rfl,trivial⟩,
⟨trivial,trivial,trivial,trivial⟩,
(by(try dsimp only at *);(rw[nat0]at h12;rw[st_op h12];exact MapEq.rfl')),
(by(try dsimp only at *);(rw[nat0]at h12;rw[st_op h12];exact MapEq.rfl')),
(by(try dsimp only at *);(rw[nat0]at h12;rw[st_op h12];exact MapEq.rfl')),
⟨rl,rr⟩,trivial⟩,
fun g15=>have h15:=dF g15;⟨⟨(by(try dsimp only at *);(have q:=(cs_at h2 (k:=x8) (by omega)).at_;rw[nat0];omega)),
(by(try dsimp only at *);(have q:=(cs_at h2 (k:=x8) (by omega)).at_;rw[nat0];omega))⟩,
⟨(by(try dsimp only at *);omega),
(by(try dsimp only at *);omega)⟩,
⟨(by(try dsimp only at *);(have q:=(cs_at h2 (k:=x8) (by omega)).at_;rw[nat0];omega)),
(by(try dsimp only at *);omega)⟩,
⟨(by(try dsimp only at *);(have q:=at_rng (cs_at h2 (k:=x8) (by omega)) h9.2;rw[nat0];omega)),
(by(try dsimp only at *);(have q:=at_rng (cs_at h2 (k:=x8) (by omega)) h9.2;rw[nat0];omega))⟩,
(adQ (List.length (TPx.l x1)) (stR (TPx.l x1) x8) (List.getD (TPx.l x1) x8 default)),
(by(try dsimp only at *);exact RgI.adok (q:=adQ x1.l.length (stR x1.l x8) (x1.l.getD x8 default)) (st_ok h2 h9.2 x8 h9.1) (told_ok (cs_at h2 (by omega))) (told6 (cs_at h2 (by omega))) (at_rng (cs_at h2 (by omega)) h9.2)),
⟨⟨rfl,rfl⟩,
⟨(by(try dsimp only at *);(rw[nat0];exact rfl)),
(by(try dsimp only at *);rfl),
(by(try dsimp only at *);(rw[nat0];exact rfl)),
(by(try dsimp only at *);rfl),
⟨rfl,
(by(try dsimp only at *);rfl)⟩,rfl,rfl,
(by(try dsimp only at *);rfl),trivial⟩,
(by(try dsimp only at *);(rw[nat0];exact rfl)),trivial⟩,
⟨⟨trivial,trivial,trivial,trivial⟩,
(by(try dsimp only at *);exact MapEq.rfl'),
(by(try dsimp only at *);exact MapEq.rfl'),
(by(try dsimp only at *);exact MapEq.rfl'),
⟨⟨(by(try dsimp only at *);(rw[nat0];exact Nat.le_refl _))⟩,
(by(try dsimp only at *);(rw[nat0];exact rr))⟩,trivial⟩,
⟨(by(try dsimp only at *);omega),
(by(try dsimp only at *);omega)⟩,
(x8+(1:Nat)),
(by(try dsimp only at *);omega),
⟨(by(try dsimp only at *);omega),
(by(try dsimp only at *);omega)⟩,
⟨(by(try dsimp only at *);omega),
⟨rfl,rfl⟩,rfl,
⟨rfl,rfl⟩,rfl,
⟨rfl,rfl⟩,rfl,trivial⟩,
⟨trivial,trivial,trivial,trivial⟩,
(by(try dsimp only at *);(rw[nat0]at h15;rw[st_ad h15];exact MapEq.rfl')),
(by(try dsimp only at *);(rw[nat0]at h15;rw[st_ad h15];exact MapEq.rfl')),
(by(try dsimp only at *);(rw[nat0]at h15;rw[st_ad h15];exact MapEq.rfl')),
⟨rl,rr⟩,trivial⟩⟩,
fun g18=>have h18:=dF g18;⟨⟨(by(try dsimp only at *);(have:=h2.call;omega)),
(by(try dsimp only at *);(have:=h2.call;omega))⟩,
⟨(by(try dsimp only at *);(have:=h2.call;omega)),
(by(try dsimp only at *);omega)⟩,
⟨(by(try dsimp only at *);omega),
(by(try dsimp only at *);omega)⟩,
({ r:=PMx.r (pmQ x1),k:=PMx.c (pmQ x1):GTx }),
(by(try dsimp only at *);exact(st_ok h2 h9.2 _ (Nat.le_refl _)).lenC _),
⟨⟨rfl,rfl⟩,
(by(try dsimp only at *);rfl),trivial⟩,
⟨⟨trivial,trivial,trivial,trivial⟩,
(by(try dsimp only at *);(rw[show x8=x1.l.length by omega];exact MapEq.rfl')),
(by(try dsimp only at *);(rw[show x8=x1.l.length by omega];exact MapEq.rfl')),
(by(try dsimp only at *);(rw[show x8=x1.l.length by omega];exact MapEq.rfl')),trivial⟩,
fun g20=>have h20:=nT g20;⟨rfl,trivial⟩,
fun g21=>have h21:=nF g21;⟨({ r:=PMx.r (pmQ x1),k:=pmI (pmQ x1):GTx }),
⟨(by(try dsimp only at *);exact((st_ok h2 h9.2 _ (Nat.le_refl _)).lenI _).1),
(by(try dsimp only at *);exact((st_ok h2 h9.2 _ (Nat.le_refl _)).lenI _).2.1),
(by(try dsimp only at *);exact((st_ok h2 h9.2 _ (Nat.le_refl _)).lenI _).2.2)⟩,
⟨⟨rfl,rfl⟩,
(by(try dsimp only at *);exact congrArg CR.inc (getC_in h21)),trivial⟩,
⟨⟨trivial,trivial,trivial,trivial⟩,
(by(try dsimp only at *);(rw[show x8=x1.l.length by omega];exact MapEq.rfl')),
(by(try dsimp only at *);(rw[show x8=x1.l.length by omega];exact MapEq.rfl')),
(by(try dsimp only at *);(rw[show x8=x1.l.length by omega];exact MapEq.rfl')),trivial⟩,
fun g23=>have h23:=nF g23;⟨(pmS (pmQ x1)),
(by(try dsimp only at *);exact(pm_ok h2 h9.2 h21).siok),
⟨⟨rfl,rfl⟩,
(by(try dsimp only at *);rfl),
(by(try dsimp only at *);exact(pm_ok h2 h9.2 h21).gid),
(by(try dsimp only at *);rfl),rfl,trivial⟩,
⟨⟨trivial,trivial,trivial,trivial⟩,
(by(try dsimp only at *);(rw[show x8=x1.l.length by omega];exact MapEq.rfl')),
(by(try dsimp only at *);(rw[show x8=x1.l.length by omega];exact MapEq.rfl')),
(by(try dsimp only at *);(rw[show x8=x1.l.length by omega];exact MapEq.rfl')),trivial⟩,
fun g25=>have h25:=dT g25;⟨fun g26=>have h26:=nF g26;⟨fun g27=>have h27:=dF g27;⟨(getI (PMx.r (pmQ x1)) (pmI (pmQ x1))),trivial,
⟨⟨rfl,rfl,rfl,
⟨rfl,rfl⟩,rfl,rfl,
⟨rfl,rfl⟩,
⟨rfl,rfl⟩,rfl,rfl,trivial⟩,trivial⟩,
⟨⟨rl,rr⟩,
⟨rl,rr⟩,
⟨rl,rr⟩,trivial⟩,
(by(try dsimp only at *);exact(pm_ok h2 h9.2 h21).no h25 h27),trivial⟩,
fun g29=>have h29:=dT g29;⟨rfl,trivial⟩⟩,
fun g30=>have h30:=nT g30;⟨rfl,trivial⟩⟩,
fun g31=>have h31:=dF g31;⟨(pmM (pmQ x1)),
(by(try dsimp only at *);exact fun _ _ _=>(pm_ok h2 h9.2 h21).mgok ((pm_ok h2 h9.2 h21).s0 (Classical.not_not.1 h31)).1),
⟨⟨rfl,rfl⟩,
(by(try dsimp only at *);rfl),
(by(try dsimp only at *);exact(pm_ok h2 h9.2 h21).gid),trivial⟩,
⟨⟨trivial,trivial,trivial,trivial⟩,
(by(try dsimp only at *);(rw[((pm_ok h2 h9.2 h21).s0 (Classical.not_not.1 h31)).2];exact MapEq.rfl')),
(by(try dsimp only at *);(rw[((pm_ok h2 h9.2 h21).s0 (Classical.not_not.1 h31)).2];exact MapEq.rfl')),
(by(try dsimp only at *);(rw[((pm_ok h2 h9.2 h21).s0 (Classical.not_not.1 h31)).2];exact MapEq.rfl')),trivial⟩,
fun g33=>have h33:=dT g33;⟨(by(try dsimp only at *);exact absurd (pm_ok h2 h9.2 h21).mg.1 h33),trivial⟩,
fun g34=>have h34:=dF g34;⟨({ r:=pmR2 (pmQ x1),k:=pmI (pmQ x1):GTx }),
⟨(by(try dsimp only at *);(rw[(pm_ok h2 h9.2 h21).back ((pm_ok h2 h9.2 h21).s0 (Classical.not_not.1 h31)).1];exact(pm_ok h2 h9.2 h21).lens.1)),
(by(try dsimp only at *);(rw[(pm_ok h2 h9.2 h21).back ((pm_ok h2 h9.2 h21).s0 (Classical.not_not.1 h31)).1];exact(pm_ok h2 h9.2 h21).lens.2.1)),
(by(try dsimp only at *);(rw[(pm_ok h2 h9.2 h21).back ((pm_ok h2 h9.2 h21).s0 (Classical.not_not.1 h31)).1];exact(pm_ok h2 h9.2 h21).lens.2.2))⟩,
⟨⟨rfl,rfl⟩,
(by(try dsimp only at *);exact(pm_ok h2 h9.2 h21).gid),trivial⟩,
⟨⟨trivial,trivial,trivial,trivial⟩,
(by(try dsimp only at *);(rw[(pm_ok h2 h9.2 h21).mg.2];exact MapEq.rfl')),
(by(try dsimp only at *);(rw[(pm_ok h2 h9.2 h21).mg.2];exact MapEq.rfl')),
(by(try dsimp only at *);(rw[(pm_ok h2 h9.2 h21).mg.2];exact MapEq.rfl')),trivial⟩,
({ r:=pmR2 (pmQ x1),k:=PMx.c (pmQ x1):GTx }),
(by(try dsimp only at *);(rw[(pm_ok h2 h9.2 h21).backC];exact((pm_ok h2 h9.2 h21).r.c _ (pm_ok h2 h9.2 h21).c).1.len)),
⟨⟨rfl,rfl⟩,
(by(try dsimp only at *);rfl),trivial⟩,
⟨⟨trivial,trivial,trivial,trivial⟩,
(by(try dsimp only at *);(rw[(pm_ok h2 h9.2 h21).mg.2];exact MapEq.rfl')),
(by(try dsimp only at *);(rw[(pm_ok h2 h9.2 h21).mg.2];exact MapEq.rfl')),
(by(try dsimp only at *);(rw[(pm_ok h2 h9.2 h21).mg.2];exact MapEq.rfl')),trivial⟩,
(pmX (pmQ x1)),
⟨(by(try dsimp only at *);exact(pm_ok h2 h9.2 h21).lens.1),
(by(try dsimp only at *);exact Nat.le_trans (pm_ok h2 h9.2 h21).lens.2.1 (by omega)),
(by(try dsimp only at *);exact Nat.le_trans (pm_ok h2 h9.2 h21).lens.2.2 (by omega))⟩,
⟨⟨(by(try dsimp only at *);(rw[(pm_ok h2 h9.2 h21).gx])),
(by(try dsimp only at *);(rw[(pm_ok h2 h9.2 h21).gx])),
(by(try dsimp only at *);(rw[(pm_ok h2 h9.2 h21).gx])),
⟨rfl,
(by(try dsimp only at *);(rw[(pm_ok h2 h9.2 h21).gx]))⟩,rfl,rfl,
⟨rfl,
(by(try dsimp only at *);(rw[(pm_ok h2 h9.2 h21).gx]))⟩,
⟨rfl,
(by(try dsimp only at *);(rw[(pm_ok h2 h9.2 h21).gx]))⟩,
(by(try dsimp only at *);(rw[(pm_ok h2 h9.2 h21).gx])),
(by(try dsimp only at *);(rw[(pm_ok h2 h9.2 h21).gx])),trivial⟩,
⟨(by(try dsimp only at *);(rw[(pm_ok h2 h9.2 h21).back ((pm_ok h2 h9.2 h21).s0 (Classical.not_not.1 h31)).1])),
(by(try dsimp only at *);(rw[(pm_ok h2 h9.2 h21).back ((pm_ok h2 h9.2 h21).s0 (Classical.not_not.1 h31)).1])),
(by(try dsimp only at *);(rw[(pm_ok h2 h9.2 h21).back ((pm_ok h2 h9.2 h21).s0 (Classical.not_not.1 h31)).1])),
⟨rfl,
(by(try dsimp only at *);(rw[(pm_ok h2 h9.2 h21).back ((pm_ok h2 h9.2 h21).s0 (Classical.not_not.1 h31)).1]))⟩,rfl,rfl,
⟨rfl,
(by(try dsimp only at *);(rw[(pm_ok h2 h9.2 h21).back ((pm_ok h2 h9.2 h21).s0 (Classical.not_not.1 h31)).1]))⟩,
⟨rfl,
(by(try dsimp only at *);(rw[(pm_ok h2 h9.2 h21).back ((pm_ok h2 h9.2 h21).s0 (Classical.not_not.1 h31)).1]))⟩,
(by(try dsimp only at *);(rw[(pm_ok h2 h9.2 h21).back ((pm_ok h2 h9.2 h21).s0 (Classical.not_not.1 h31)).1])),
(by(try dsimp only at *);(rw[(pm_ok h2 h9.2 h21).back ((pm_ok h2 h9.2 h21).s0 (Classical.not_not.1 h31)).1])),trivial⟩,trivial⟩,
⟨⟨⟨(by(try dsimp only at *);(rw[(pm_ok h2 h9.2 h21).gx];exact Nat.le_refl _))⟩,
(by(try dsimp only at *);(rw[(pm_ok h2 h9.2 h21).gx];exact rr))⟩,
⟨⟨(by(try dsimp only at *);(rw[(pm_ok h2 h9.2 h21).gx];exact Nat.le_refl _))⟩,
(by(try dsimp only at *);(rw[(pm_ok h2 h9.2 h21).gx];exact rr))⟩,
⟨⟨(by(try dsimp only at *);(rw[(pm_ok h2 h9.2 h21).gx];exact Nat.le_refl _))⟩,
(by(try dsimp only at *);(rw[(pm_ok h2 h9.2 h21).gx];exact rr))⟩,
⟨⟨(by(try dsimp only at *);(rw[(pm_ok h2 h9.2 h21).back ((pm_ok h2 h9.2 h21).s0 (Classical.not_not.1 h31)).1];exact Nat.le_refl _))⟩,
(by(try dsimp only at *);(rw[(pm_ok h2 h9.2 h21).back ((pm_ok h2 h9.2 h21).s0 (Classical.not_not.1 h31)).1];exact rr))⟩,
⟨⟨(by(try dsimp only at *);(rw[(pm_ok h2 h9.2 h21).back ((pm_ok h2 h9.2 h21).s0 (Classical.not_not.1 h31)).1];exact Nat.le_refl _))⟩,
(by(try dsimp only at *);(rw[(pm_ok h2 h9.2 h21).back ((pm_ok h2 h9.2 h21).s0 (Classical.not_not.1 h31)).1];exact rr))⟩,
⟨⟨(by(try dsimp only at *);(rw[(pm_ok h2 h9.2 h21).back ((pm_ok h2 h9.2 h21).s0 (Classical.not_not.1 h31)).1];exact Nat.le_refl _))⟩,
(by(try dsimp only at *);(rw[(pm_ok h2 h9.2 h21).back ((pm_ok h2 h9.2 h21).s0 (Classical.not_not.1 h31)).1];exact rr))⟩,trivial⟩,
fun g38=>have h38:=dT g38;⟨({ r:=pmR2 (pmQ x1),n:=(1:Nat),id:=(1000:Int),a:=pmI (pmQ x1):ROx }),
(by(try dsimp only at *);exact(pm_ok h2 h9.2 h21).root2 ((pm_ok h2 h9.2 h21).s0 (Classical.not_not.1 h31)).1),
⟨⟨rfl,rfl⟩,rfl,trivial⟩,
⟨⟨trivial,trivial,trivial,trivial⟩,
(by(try dsimp only at *);(rw[(pm_ok h2 h9.2 h21).mg.2];exact MapEq.rfl')),
(by(try dsimp only at *);(rw[(pm_ok h2 h9.2 h21).mg.2];exact MapEq.rfl')),
(by(try dsimp only at *);(rw[(pm_ok h2 h9.2 h21).mg.2];exact MapEq.rfl')),trivial⟩,
(by(try dsimp only at *);exact decide_eq_true (pm_ok h2 h9.2 h21).gid.symm),trivial⟩,
fun g40=>have h40:=dF g40;⟨(by(try dsimp only at *);exact absurd (pm_ok h2 h9.2 h21).u h40),trivial⟩⟩⟩⟩,
fun g41=>have h41:=nT g41;⟨fun g42=>have h42:=nF g42;⟨fun g43=>have h43:=dF g43;⟨(getI (PMx.r (pmQ x1)) (pmI (pmQ x1))),trivial,
⟨⟨rfl,rfl,rfl,
⟨rfl,rfl⟩,rfl,rfl,
⟨rfl,rfl⟩,
⟨rfl,rfl⟩,rfl,rfl,trivial⟩,trivial⟩,
⟨⟨rl,rr⟩,
⟨rl,rr⟩,
⟨rl,rr⟩,trivial⟩,
(by(try dsimp only at *);grind),trivial⟩,
fun g45=>have h45:=dT g45;⟨rfl,trivial⟩⟩,
fun g46=>have h46:=nT g46;⟨rfl,trivial⟩⟩⟩⟩⟩⟩⟩)
theorem tp_good:Good Tryz.prog 3 tpC/\FnOk Tryz.prog 3:=good_of tok conTp (fn:=Tryz.f3) rfl (by decide+kernel) (fun _=>rfl) tp_keeps
end Go.Sym