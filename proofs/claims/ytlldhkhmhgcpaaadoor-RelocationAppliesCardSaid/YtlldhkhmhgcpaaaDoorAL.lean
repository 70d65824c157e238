import Derived.Test.YtlldhkhmhgcpaaaDoorPN
import Derived.Test.YtlldhkhmhgcpaaaDoorFM
import Derived.Test.YtlldhkhmhgcpaaaDoorG4
import Derived.Test.YtlldhkhmhgcpaaaDoorXD
namespace Go.Sym
set_option linter.unusedVariables false
set_option linter.unusedSimpArgs false
open Go.Proofs
set_option maxRecDepth 100000
set_option maxHeartbeats 4000000
theorem good_say [Glob] {P:Program} {f:Nat} {ct ct':CT} (φ:ct'.X->ct.X) (h:Good P f ct) (hp:∀ x,ct'.pre x->ct.pre (φ x)) (ha:∀ x,ct'.args x=ct.args (φ x)) (h0:∀ x,ct'.g0 x=ct.g0 (φ x))
  (h1:∀ x,ct'.pre x->ct.g1 (φ x)=ct'.g1 x) (hr:∀ x,ct'.pre x->∀ ρ v,Den ρ (ct.res (φ x)) v->Den ρ (ct'.res x) v) (hs:∀ x,ctSt ct' x=true):Good P f ct':=by
 intro x hx
 obtain⟨_,h2⟩:=h (φ x) (hp x hx)
 refine⟨hs x,fun ρ w vals a b c=>?_⟩
 rw[ha]at b
 rw[h0]at c ⊢
 refine(h2 ρ w vals a b c).mono ?_
 rw[h1 x hx]
 rintro e w' ⟨v,ρ',e1,e2,e3⟩
 exact⟨v,ρ',e1,hr x hx ρ' v e2,e3⟩
theorem den_q1 {ρ:Env} {l:Nat} {b:SV} {v:Value} (h:Den ρ (.tup [.q l 1,b]) v):Den ρ (.tup [.p l 0 0,b]) v:=by
 simp only[Den,DenL]at h ⊢
 obtain⟨vs,e1,u,r,e2,e3,e4⟩:=h
 refine⟨vs,e1,u,r,e2,?_,e4⟩
 rcases e3 with⟨q,_⟩|⟨pl,_,q1,q2⟩
 ·cases q
 ·exact⟨pl,q1,q2⟩
theorem good_at {P:Program} [Glob] {f:Nat} {ct:CT} (h:Good P f ct/\FnOk P f) (x:ct.X) (hp:ct.pre x) {r:SV} (hr:ct.res x=r) {g:List (Nat × Blk)} (hg:ct.g1 x=g):Good P f ⟨Unit,fun _=>True,fun _=>ct.args x,fun _=>ct.g0 x,fun _=>r,fun _=>g⟩/\FnOk P f:=by
 subst hr
 subst hg
 exact⟨fun _ _=>h.1 x hp,h.2⟩
def exE:List Ed:=[⟨0,1,5⟩,⟨1,0,5⟩,⟨1,2,5⟩,⟨2,1,5⟩]
def exG:Gr:=⟨3,exE⟩
def exU:Un:={ (default:Un)with st:=1 }
def exP:PlX:=⟨exG,[5,5,5,5],[exU],allW 3,1⟩
theorem exG_ok:GOk exG:=gok (x:=⟨3,exE⟩) (by decide) (by decide) (by decide) (by decide)
theorem exP_ok:PlOk exP:=⟨exG_ok,by decide,by decide,allW_ok 3⟩
theorem exP_b:(resB exP).best=[(0,1)]/\(resB exP).worst=5/\resE exP=0:=by decide+kernel
def newOkC:CT where
 X:=NewX
 pre:=fun x=>x.es.length<=1073741824/\errN x=0
 args:=newC.args
 g0:=newC.g0
 res:=fun x=>.tup [.p 1 0 0,.i .i64 0]
 g1:=fun x=>[(1,.rows .own kG 1 (encG x.g))]
theorem newOk_good:Good Tryd.prog 16 newOkC/\FnOk Tryd.prog 16:=by
 refine⟨good_say (ct:=newC) (ct':=newOkC) (fun x=>x) new_good.1 (fun x h=>h.1) (fun _=>rfl) (fun _=>rfl) (fun x h=>?_) (fun x h ρ v hd=>?_) (fun x=>rfl),new_good.2⟩
 ·have e:szN x=1:=if_pos h.2
  show [(1,Blk.rows .own kG (szN x) (encG x.g))]=_
  rw[e];rfl
 ·have e:szN x=1:=if_pos h.2
  have hd:Den ρ (.tup [.q 1 (szN x),.i .i64 (errN x)]) v:=hd
  rw[e,h.2]at hd
  exact den_q1 hd
def exPC:CT:=⟨Unit,fun _=>True,fun _=>plC.args exP,fun _=>plC.g0 exP,fun _=>.tup [.sl 1 0 1,.i .i64 5,.i .i64 0],fun _=>[(1,.rows .own kM 1 (encL encM [(0,1)]))]⟩
theorem exP_good:Good Tryd.prog 14 exPC/\FnOk Tryd.prog 14:=good_at pl_good exP exP_ok (by
 obtain⟨e1,e2,e3⟩:=exP_b
 show SV.tup [.sl 1 0 (resB exP).best.length,.i .i64 (resB exP).worst,.i .i64 (resE exP)]=_
 rw[e1,e2,e3];rfl) (by
 obtain⟨e1,e2,e3⟩:=exP_b
 show [(1,Blk.rows .own kM (resB exP).best.length (encL encM (resB exP).best))]=_
 rw[e1];rfl)
def exW:ByteArray:=⟨#[117,110,105,116,32,48,32,116,111,32,49]⟩
theorem exW_f:fmtF [(0,1)]=exW:=by decide+kernel
def exFC:CT:=⟨Unit,fun _=>True,fun _=>[.sl 100001 0 1],fun _=>[(100001,.rows .bor kM 1 (encL encM [(0,1)]))],fun _=>.s exW,fun _=>[]⟩
theorem exF_good:Good Tryd.prog 7 exFC/\FnOk Tryd.prog 7:=good_at fo_good [(0,1)] ⟨by decide,fun m hm=>by rw[List.mem_singleton.1 hm];unfold r64;decide⟩ (congrArg SV.s exW_f) rfl
def wakesC:CT where
 X:=Unit
 pre:=fun _=>True
 args:=fun _=>[]
 g0:=fun _=>[]
 res:=fun _=>.b true
 g1:=fun _=>[]
def cfgWk:Cfg:=⟨T,[],[(16,.one newOkC),(17,.one allNC),(14,.one exPC),(7,.one exFC)],noInv,60,{ kn:=true }⟩
theorem conWk:ConOk Tryd.prog cfgWk:=ConL.ok (.cons (ConL.one newOk_good) (.cons (ConL.one all_good) (.cons (ConL.one exP_good) (.cons (ConL.one exF_good) .nil))))
set_option maxRecDepth 100000 in
theorem wakes_keeps:Keeps cfgWk Tryd.f6 wakesC noIv:=Eq.mp (show((∀ x1:Unit,(True->(((True/\(True/\(True/\True)))/\((True/\(True/\(True/\True)))/\((True/\(True/\(True/\True)))/\((True/\(True/\(True/\True)))/\True))))/\(∃ x3:NewX,(((x3.es.length<=(1073741824:Nat))/\(errN x3=0))/\((3=x3.n/\((0=0/\((4:Nat)=x3.es.length))/\True))/\((((RLe x3.es.length 4)/\(RowsEq [.int .i64,.int .i64,.int .i64] x3.es.length (litRows ((D.i 0::D.i 1::D.i 5::@List.nil D)::(D.i 1::D.i 0::D.i 5::@List.nil D)::(D.i 1::D.i 2::D.i 5::@List.nil D)::(D.i 2::D.i 1::D.i 5::@List.nil D)::@List.nil (List D))) (encL encE x3.es)))/\True)/\(((decide ((0:Int)≠(0:Int))=true)->(false=true/\True))/\((decide ((0:Int)≠(0:Int))=false)->(((True/\True)/\((True/\True)/\((True/\True)/\((True/\True)/\True))))/\(((True/\(True/\(True/\(True/\(True/\(True/\(True/\(True/\(True/\(True/\True))))))))))/\True)/\(∃ x6:Int,(((0:Int)<=x6)/\((3=x6/\True)/\(True/\(∃ x7:Unit,(True/\(((0=0/\0=0)/\((0=0/\((4:Nat)=(PlX.ts exP).length))/\((0=0/\((1:Nat)=(PlX.us exP).length))/\(((szW (allW (Int.toNat (min x6 (4096:Int))))=szW (PlX.ws exP))/\True)/\(((1:Int)=PlX.max exP)/\True)))))/\(((RLe 1 1/\(RowsEq [.sl [.int .i64,.int .i64,.int .i64],.sl [.sl [.int .i64]],.sl [.sl [.int .i64]]] 1 (encG (NewX.g x3)) (encG (PlX.g exP))))/\(((RLe (PlX.ts exP).length 4)/\(RowsEq [.int .i64] (PlX.ts exP).length (litRows ((D.i 5::@List.nil D)::(D.i 5::@List.nil D)::(D.i 5::@List.nil D)::(D.i 5::@List.nil D)::@List.nil (List D))) (encL encI (PlX.ts exP))))/\(((RLe (PlX.us exP).length 1)/\(RowsEq [.int .i64,.int .i64,.int .i64,.int .i64,.int .i64,.int .i64,.int .i64,.int .i64,.int .i64,.int .i64] (PlX.us exP).length (litRows ((D.i 0::D.i 0::D.i 0::D.i 1::D.i 0::D.i 0::D.i 0::D.i 0::D.i 0::D.i 0::@List.nil D)::@List.nil (List D))) (encL encU (PlX.us exP))))/\(((RLe (szW (PlX.ws exP)) (szW (allW (Int.toNat (min x6 (4096:Int))))))/\(RowsEq [.int .u64] (szW (PlX.ws exP)) (encL encW (allW (Int.toNat (min x6 (4096:Int))))) (encL encW (PlX.ws exP))))/\True))))/\(((decide ((0:Int)=0)=true)->(((decide ((5:Int)=5)=true)->(((decide ((↑(1:Nat):Int)=1)=true)->((((0:Int)<=(0:Int))/\(0<(↑(1:Nat):Int)))/\((0+Int.toNat (0:Int)<(1:Nat))/\((((decide (Prod.fst ((((0:Int),(1:Int))::@List.nil Mv).getD (0+Int.toNat (0:Int)) default)=(0:Int))&&(decide (Prod.snd ((((0:Int),(1:Int))::@List.nil Mv).getD (0+Int.toNat (0:Int)) default)=(1:Int))&&true))=true)->(∃ x12:Unit,(True/\(((0=0/\((1:Nat)=(1:Nat)))/\True)/\(((RLe 1 1/\(RowsEq [.int .i64,.int .i64] 1 (encL encM (((0:Int),(1:Int))::@List.nil Mv)) (encL encM (((0:Int),(1:Int))::@List.nil Mv))))/\True)/\(((ByteArray.toList exW==ByteArray.toList (ByteArray.mk (List.toArray ((117:UInt8)::(110:UInt8)::(105:UInt8)::(116:UInt8)::(32:UInt8)::(48:UInt8)::(32:UInt8)::(116:UInt8)::(111:UInt8)::(32:UInt8)::(49:UInt8)::@List.nil UInt8))))=true)/\True))))))/\(((decide (Prod.fst ((((0:Int),(1:Int))::@List.nil Mv).getD (0+Int.toNat (0:Int)) default)=(0:Int))&&(decide (Prod.snd ((((0:Int),(1:Int))::@List.nil Mv).getD (0+Int.toNat (0:Int)) default)=(1:Int))&&true))=false)->(false=true/\True))))))/\((decide ((↑(1:Nat):Int)=1)=false)->(false=true/\True))))/\((decide ((5:Int)=5)=false)->(false=true/\True))))/\((decide ((0:Int)=0)=false)->(false=true/\True)))))))))))))))))))))))=(Keeps cfgWk Tryd.f6 wakesC noIv) by kernel_rfl) (fun x1=>fun h2=>⟨⟨⟨trivial,trivial,trivial,trivial⟩,
⟨trivial,trivial,trivial,trivial⟩,
⟨trivial,trivial,trivial,trivial⟩,
⟨trivial,trivial,trivial,trivial⟩,trivial⟩,
({ n:=(3:Int),es:=exE:NewX }),
⟨(by(try dsimp only at *);decide),
(by(try dsimp only at *);rfl)⟩,
⟨rfl,
⟨rfl,
(by(try dsimp only at *);rfl)⟩,trivial⟩,
⟨⟨⟨(by(try dsimp only at *);decide)⟩,
(by(try dsimp only at *);exact⟨fun r hr=>by have hr:r<4:=hr;rcases(show r=0∨r=1∨r=2∨r=3 by omega)with h|h|h|h <;>subst h <;>exact⟨rfl,rfl,rfl,trivial⟩⟩)⟩,trivial⟩,
fun g4=>have h4:=dT g4;⟨(by(try dsimp only at *);omega),trivial⟩,
fun g5=>have h5:=dF g5;⟨⟨⟨trivial,trivial⟩,
⟨trivial,trivial⟩,
⟨trivial,trivial⟩,
⟨trivial,trivial⟩,trivial⟩,
⟨⟨trivial,trivial,trivial,trivial,trivial,trivial,trivial,trivial,trivial,trivial,trivial⟩,trivial⟩,
((3:Int)),
(by(try dsimp only at *);omega),
⟨rfl,trivial⟩,trivial,
(default),trivial,
⟨⟨rfl,rfl⟩,
⟨rfl,
(by(try dsimp only at *);rfl)⟩,
⟨rfl,
(by(try dsimp only at *);rfl)⟩,
⟨(by(try dsimp only at *);rfl),trivial⟩,
(by(try dsimp only at *);rfl),trivial⟩,
⟨⟨rl,
(by(try dsimp only at *);exact rr)⟩,
⟨⟨(by(try dsimp only at *);decide)⟩,
(by(try dsimp only at *);exact⟨fun r hr=>by have hr:r<4:=hr;rcases(show r=0∨r=1∨r=2∨r=3 by omega)with h|h|h|h <;>subst h <;>exact⟨rfl,trivial⟩⟩)⟩,
⟨⟨(by(try dsimp only at *);decide)⟩,
(by(try dsimp only at *);exact⟨fun r hr=>by have hr:r<1:=hr;rcases(show r=0 by omega)with h;subst h;exact⟨rfl,rfl,rfl,rfl,rfl,rfl,rfl,rfl,rfl,rfl,trivial⟩⟩)⟩,
⟨⟨(by(try dsimp only at *);decide)⟩,
(by(try dsimp only at *);exact rr)⟩,trivial⟩,
fun g8=>have h8:=dT g8;⟨fun g9=>have h9:=dT g9;⟨fun g10=>have h10:=dT g10;⟨⟨(by(try dsimp only at *);omega),
(by(try dsimp only at *);omega)⟩,
(by(try dsimp only at *);omega),
fun h11=>⟨(default),trivial,
⟨⟨rfl,rfl⟩,trivial⟩,
⟨⟨rl,rr⟩,trivial⟩,
(by(try dsimp only at *);exact beq_self_eq_true exW.toList),trivial⟩,
fun h13=>⟨(by(try dsimp only at *);grind),trivial⟩⟩,
fun g14=>have h14:=dF g14;⟨(by(try dsimp only at *);omega),trivial⟩⟩,
fun g15=>have h15:=dF g15;⟨(by(try dsimp only at *);omega),trivial⟩⟩,
fun g16=>have h16:=dF g16;⟨(by(try dsimp only at *);omega),trivial⟩⟩⟩)
theorem wakes_good:Good Tryd.prog 6 wakesC/\FnOk Tryd.prog 6:=good_of tok conWk (fn:=Tryd.f6) rfl (by decide+kernel) (fun _=>rfl) wakes_keeps
end Go.Sym