import Derived.Test.YtpnnecijeoipfaaGreatDoorOD
import Derived.Test.YtpnnecijeoipfaaGreatDoorXD
namespace Go.Sym
set_option linter.unusedVariables false
set_option linter.unusedSimpArgs false
open Go.Proofs
set_option maxRecDepth 100000
set_option maxHeartbeats 8000000
def kuC:CT where
 X:=Unit
 pre:=fun _=>True
 args:=fun _=>[.i .u64 14695981039346656037,.ns]
 g0:=fun _=>[]
 res:=fun _=>.i .u64 14695981039346656037
 g1:=fun _=>[]
def kuI (_:Unit) (id:Nat):Option Inv:=match id with
 |0=>some { X:=Unit,ok:=fun _=>True,fr:=fun _=>[(9,.i .i64 0),(0,.i .u64 14695981039346656037)],hp:=fun _=>[],me:=fun _=>0 }
 |_=>none
set_option maxRecDepth 100000 in
theorem ku_keeps:Keeps cfgN0 Tryz.f45 kuC kuI:=Eq.mp (show(∀ x1:Unit,(True->(∃ x3:Unit,((True/\((((0:Int)=0)/\(((14695981039346656037:Int)=14695981039346656037)/\(((0:Int)=0)/\(True/\(((0:Int)=0)/\(True/\True))))))/\True))/\(∀ x4:Unit,(True->(CB (decide ((0:Int)<0)) (Stuck 6 (dN (Oper.dst (Oper.mk (some 11) (Op.indexAddr 85 (Operand.tmp 7) (Operand.tmp 9)) 0 ("checksum.go:36") (List.toArray (@List.nil Edge)) none)))) (((14695981039346656037:Int)=14695981039346656037)/\True))))))))=(Keeps cfgN0 Tryz.f45 kuC kuI) by kernel_rfl) (fun x1=>fun h2=>⟨(default),⟨trivial,⟨rfl,rfl,rfl,trivial,rfl,trivial,trivial⟩,trivial⟩,fun x4=>fun h5=>⟨fun g6=>have h6:=dT g6;(by(try dsimp only at *);omega),fun g7=>have h7:=dF g7;⟨rfl,trivial⟩⟩⟩)
theorem ku_good:Good Tryz.prog 45 kuC/\FnOk Tryz.prog 45:=good_of tok conN0 (fn:=Tryz.f45) rfl (by decide+kernel) (fun _=>rfl) ku_keeps
def ksC:CT where
 X:=Unit
 pre:=fun _=>True
 args:=fun _=>[.ns]
 g0:=fun _=>[]
 res:=fun _=>.i .u64 14695981039346656037
 g1:=fun _=>[]
def cfgKs:Cfg:=⟨T,[],[(45,.one kuC)],noInv,20,{}⟩
theorem conKs:ConOk Tryz.prog cfgKs:=ConL.ok (.cons (ConL.one ku_good) .nil)
set_option maxRecDepth 100000 in
theorem ks_keeps:Keeps cfgKs Tryz.f23 ksC noIv:=Eq.mp (show(∀ x1:Unit,(True->(∃ x3:Unit,(True/\((((14695981039346656037:Int)=14695981039346656037)/\(True/\True))/\(True/\(((14695981039346656037:Int)=14695981039346656037)/\True)))))))=(Keeps cfgKs Tryz.f23 ksC noIv) by kernel_rfl) (fun x1=>fun h2=>⟨(()),trivial,⟨rfl,trivial,trivial⟩,trivial,rfl,trivial⟩)
theorem ks_good:Good Tryz.prog 23 ksC/\FnOk Tryz.prog 23:=good_of tok conKs (fn:=Tryz.f23) rfl (by decide+kernel) (fun _=>rfl) ks_keeps
def awB:CT where
 X:=Unit
 pre:=fun _=>True
 args:=fun _=>[]
 g0:=fun _=>[]
 res:=fun _=>.b true
 g1:=fun _=>[]
def awC:CT:=yesC awB
def cfgAw:Cfg:=⟨T,[],[(23,.one ksC)],noInv,20,{}⟩
theorem conAw:ConOk Tryz.prog cfgAw:=ConL.ok (.cons (ConL.one ks_good) .nil)
set_option maxRecDepth 100000 in
theorem aw_keeps:Keeps cfgAw Tryz.f5 awB noIv:=Eq.mp (show(∀ x1:Unit,(True->(∃ x3:Unit,(True/\((True/\True)/\(True/\((decide ((14695981039346656037:Int)≠(0:Int))=true)/\True)))))))=(Keeps cfgAw Tryz.f5 awB noIv) by kernel_rfl) (fun x1=>fun h2=>⟨(()),trivial,⟨trivial,trivial⟩,trivial,(by(try dsimp only at *);grind),trivial⟩)
theorem aw_good:Good Tryz.prog 5 awC/\FnOk Tryz.prog 5:=good_yes (good_of tok conAw (fn:=Tryz.f5) rfl (by decide+kernel) (fun _=>rfl) aw_keeps) (fun _=>rfl) (fun _=>rfl)
def kCs:List Kd:=[.int .u8,.int .u8,.int .u8,.int .u8,.int .u8,.int .u8]
def encCs (x:Cs):Nat->D:=encN [.i x.kind,.i x.call,.i x.at_,.i x.unit,.i x.urg,.i x.node]
def opQ (k:Nat) (r:Rg) (x:Cs):OPx:=⟨r,toldC x,(k:Int)+1⟩
def adQ (n:Nat) (r:Rg) (x:Cs):OPx:=⟨r,toldC x,1+x.at_%((n:Int)+1)⟩
structure TPx where
 l:List Cs
 call:Int
structure TPok (q:TPx):Prop where
 l:∀ x∈q.l,CsOk x
 call:0<=q.call/\q.call<=255
theorem told6 {x:Cs} (h:CsOk x):(toldC x).call<=6:=by have:=h.call;show 1+x.call%6<=6;omega
theorem RgI.lenC {n:Nat} {r:Rg} (h:RgI n r) (k:Int):(getC r k).nodes.length<=4096:=by
 unfold getC;split
 ·rename_i hk;exact(h.c k hk).1.len
 ·exact Nat.zero_le _
theorem RgI.lenI {n:Nat} {r:Rg} (h:RgI n r) (k:Int):(getI r k).nodes.length<=4096/\(getI r k).calls.length<=1000/\(getI r k).units.length<=1000:=by
 unfold getI;split
 ·rename_i hk
  have:=(h.i k hk).2.2.2.2.2.2.1
  exact⟨this.len,Nat.le_trans this.clen (by omega),Nat.le_trans this.ulen (by omega)⟩
 ·exact⟨Nat.zero_le _,Nat.zero_le _,Nat.zero_le _⟩
theorem PMok.gx {q:PMx} (h:PMok q):getI q.r (pmI q)=pmX q:=getI_in h.in_
theorem PMok.gid {q:PMx} (h:PMok q):(getI q.r (pmI q)).id=pmI q:=by rw[h.gx];exact h.id.1
theorem PMok.no {q:PMx} (h:PMok q) (h2:siR (pmS q)≠0) (h3:¬ ((getI q.r (pmI q)).calls.length:Int)<2):(!(isO (getI q.r (pmI q))))=true:=by
 rw[h.gx]at*
 rcases h.si h2 with a|a
 ·have a:isO (pmX q)=false:=a
  rw[a];rfl
 ·have a:(pmX q).calls.length<2:=a
  omega
theorem PMok.u {q:PMx} (h:PMok q):(getC (pmR2 q) q.c).inc=(getI q.r (pmI q)).id:=by rw[h.backC,h.gid];rfl
end Go.Sym