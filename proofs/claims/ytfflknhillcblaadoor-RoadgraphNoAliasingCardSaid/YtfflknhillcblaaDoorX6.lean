import Derived.Test.YtfflknhillcblaaDoorX5
import Derived.Test.YtfflknhillcblaaDoorG4
import Derived.Test.YtfflknhillcblaaDoorXD
namespace Go.Sym
set_option linter.unusedVariables false
set_option linter.unusedSimpArgs false
open Go.Proofs
set_option maxRecDepth 100000
set_option maxHeartbeats 4000000
structure LLX where
 a:List Int
 b:List Int
def sameC:CT where
 X:=LLX
 pre:=fun x=>x.a.length<=1073741824
 args:=fun x=>[.sl 100000 0 x.a.length,.sl 100001 0 x.b.length]
 g0:=fun x=>[(100000,.rows .bor k1 x.a.length (encL encI x.a)),(100001,.rows .bor k1 x.b.length (encL encI x.b))]
 res:=fun x=>.b (decide (x.a=x.b))
 g1:=fun _=>[]
def sameI (x:LLX) (id:Nat):Option Inv:=match id with
 |0=>some { X:=Nat,ok:=fun k=>k<=x.a.length/\x.a.take k=x.b.take k,fr:=fun k=>[(5,.i .i64 k)],hp:=fun _=>[],me:=fun k=>x.a.length-k }
 |_=>none
theorem same_step {a b:List Int} {k:Nat} (hl:¬ (a.length:Int)≠b.length) (hk:(k:Int)<a.length) (h:¬ a.getD (0+(k:Int).toNat) default≠b.getD (0+(k:Int).toNat) default) (ht:k<=a.length/\a.take k=b.take k):a.take (k+1)=b.take (k+1):=by
 rw[nat0]at h
 rw[take_succ_getD (d:=default) (by omega),take_succ_getD (d:=default) (by omega),ht.2]
 have:a.getD k default=b.getD k default:=by omega
 rw[this]
set_option maxRecDepth 100000 in
theorem same_keeps:Keeps cfgN0 Tryd.f15 sameC sameI:=Eq.mp (show((∀ x1:LLX,((x1.a.length<=(1073741824:Nat))->(((decide ((x1.a.length:Int)≠(x1.b.length:Int))=true)->((false=decide (x1.a=x1.b))/\True))/\((decide ((x1.a.length:Int)≠(x1.b.length:Int))=false)->(∃ x5:Nat,((((x5<=x1.a.length)/\(List.take x5 x1.a=List.take x5 x1.b))/\(((0=(x5:Int))/\((decide ((x1.a.length:Int)≠(x1.b.length:Int))=decide ((x1.a.length:Int)≠(x1.b.length:Int)))/\(((x1.b.length:Int)=(x1.b.length:Int))/\((0=0/\x1.b.length=x1.b.length)/\(((x1.a.length:Int)=(x1.a.length:Int))/\((0=0/\x1.a.length=x1.a.length)/\((0=0/\x1.a.length=x1.a.length)/\((0=0/\x1.b.length=x1.b.length)/\True))))))))/\(((RLe x1.a.length x1.a.length)/\(RI x1.a.length x1.a x1.a))/\(((RLe x1.b.length x1.b.length)/\(RI x1.b.length x1.b x1.b))/\True))))/\(∀ x6:Nat,((x6<=x1.a.length/\List.take x6 x1.a=List.take x6 x1.b)->(((decide ((x6:Int)<(x1.a.length:Int))=true)->((((0:Int)<=(x6:Int))/\((x6:Int)<(x1.a.length:Int)))/\((0+Int.toNat (x6:Int)<x1.a.length)/\((((0:Int)<=(x6:Int))/\((x6:Int)<(x1.b.length:Int)))/\((0+Int.toNat (x6:Int)<x1.b.length)/\(((decide (x1.a.getD (0+Int.toNat (x6:Int)) default≠x1.b.getD (0+Int.toNat (x6:Int)) default)=true)->((false=decide (x1.a=x1.b))/\True))/\((decide (x1.a.getD (0+Int.toNat (x6:Int)) default≠x1.b.getD (0+Int.toNat (x6:Int)) default)=false)->((((-9223372036854775808:Int)<=(x6:Int)+1)/\((x6:Int)+1<=(9223372036854775807:Int)))/\(∃ x11:Nat,((x1.a.length-x11<x1.a.length-x6)/\(((x11<=x1.a.length)/\(List.take x11 x1.a=List.take x11 x1.b))/\((((x6:Int)+1=(x11:Int))/\((decide ((x1.a.length:Int)≠(x1.b.length:Int))=decide ((x1.a.length:Int)≠(x1.b.length:Int)))/\(((x1.b.length:Int)=(x1.b.length:Int))/\((0=0/\x1.b.length=x1.b.length)/\(((x1.a.length:Int)=(x1.a.length:Int))/\((0=0/\x1.a.length=x1.a.length)/\((0=0/\x1.a.length=x1.a.length)/\((0=0/\x1.b.length=x1.b.length)/\True))))))))/\(((RLe x1.a.length x1.a.length)/\(RI x1.a.length x1.a x1.a))/\(((RLe x1.b.length x1.b.length)/\(RI x1.b.length x1.b x1.b))/\True))))))))))))))/\((decide ((x6:Int)<(x1.a.length:Int))=false)->((true=decide (x1.a=x1.b))/\True))))))))))))=(Keeps cfgN0 Tryd.f15 sameC sameI) by kernel_rfl) (fun x1=>fun h2=>⟨fun g3=>have h3:=dT g3;⟨(by grind),trivial⟩,
fun g4=>have h4:=dF g4;⟨((0:Nat)),
⟨⟨(by(try dsimp only at *);omega),
(by(try dsimp only at *);grind)⟩,
⟨(by(try dsimp only at *);omega),rfl,rfl,
⟨rfl,rfl⟩,rfl,
⟨rfl,rfl⟩,
⟨rfl,rfl⟩,
⟨rfl,rfl⟩,trivial⟩,
⟨rl,rr⟩,
⟨rl,rr⟩,trivial⟩,
fun x6=>fun h7=>⟨fun g8=>have h8:=dT g8;⟨⟨(by(try dsimp only at *);omega),
(by(try dsimp only at *);omega)⟩,
(by(try dsimp only at *);omega),
⟨(by(try dsimp only at *);omega),
(by(try dsimp only at *);omega)⟩,
(by(try dsimp only at *);omega),
fun g9=>have h9:=dT g9;⟨(by(try dsimp only at *);grind),trivial⟩,
fun g10=>have h10:=dF g10;⟨⟨(by(try dsimp only at *);omega),
(by(try dsimp only at *);omega)⟩,
(x6+(1:Nat)),
(by(try dsimp only at *);omega),
⟨(by(try dsimp only at *);omega),
(by(try dsimp only at *);exact same_step (by assumption) (by assumption) (by assumption) (by assumption))⟩,
⟨(by(try dsimp only at *);omega),rfl,rfl,
⟨rfl,rfl⟩,rfl,
⟨rfl,rfl⟩,
⟨rfl,rfl⟩,
⟨rfl,rfl⟩,trivial⟩,
⟨rl,rr⟩,
⟨rl,rr⟩,trivial⟩⟩,
fun g12=>have h12:=dF g12;⟨(by(try dsimp only at *);grind),trivial⟩⟩⟩⟩)
theorem same_good:Good Tryd.prog 15 sameC/\FnOk Tryd.prog 15:=good_of tok conN0 (fn:=Tryd.f15) rfl (by decide+kernel) (fun _=>rfl) same_keeps
def newYC:CT where
 X:=NewX
 pre:=fun x=>errN x=0
 args:=newC.args
 g0:=newC.g0
 res:=fun x=>.tup [.p 1 0 0,.i .i64 0]
 g1:=fun x=>[(1,.rows .own kG 1 (encG x.g))]
theorem den_p1 {ρ:Env} {l:Nat} {v:Value} (h:Den ρ (.q l 1) v):Den ρ (.p l 0 0) v:=by
 simp only[Den]at h ⊢
 rcases h with⟨q,_⟩|⟨pl,_,q1,q2⟩
 ·cases q
 ·exact⟨pl,q1,q2⟩
theorem newY_good:Good Tryd.prog 35 newYC/\FnOk Tryd.prog 35:=by
 refine⟨good_say (ct:=newC) (ct':=newYC) (fun x=>x) new_good.1 (fun x h=>trivial) (fun _=>rfl) (fun _=>rfl) (fun x h=>?_) (fun x h ρ v hd=>?_) (fun _=>rfl),new_good.2⟩
 ·have e:szN x=1:=if_pos h
  show [(1,Blk.rows .own kG (szN x) (encG x.g))]=_
  rw[e];rfl
 ·have e:szN x=1:=if_pos h
  have hd:Den ρ (.tup [.q 1 (szN x),.i .i64 (errN x)]) v:=hd
  rw[e,h]at hd
  simp only[Den]at hd
  show Den ρ (.tup [.p 1 0 0,.i .i64 0]) v
  simp only[Den]
  obtain⟨vs,h1,h2⟩:=hd
  obtain⟨u,r,h3,h4,h5⟩:=h2
  exact⟨vs,h1,u,r,h3,den_p1 h4,h5⟩
def exE:List Ed:=[⟨0,1,2⟩,⟨1,0,2⟩,⟨1,2,9⟩,⟨2,3,4611686018427387904⟩]
def exG:Gr:=⟨4,exE⟩
def exR:List Nat:=ofW (reachQ exG (elemsZ (ofW [0] 1))) (reachQ exG (elemsZ (ofW [0] 1))).length
theorem ex_g:G12 exG:=⟨by decide,gok (x:=⟨4,exE⟩) (by decide) (by decide) (by decide) (by decide+kernel)⟩
theorem ex_c:(compsL exG).length=3/\elemsZ ((compsL exG).getD 0 default)=[0,1]/\elemsZ ((compsL exG).getD 2 default)=[3]:=by decide+kernel
def wkC:CT where
 X:=Unit
 pre:=fun _=>True
 args:=fun _=>[]
 g0:=fun _=>[]
 res:=fun _=>.b true
 g1:=fun _=>[]
def cfgWk:Cfg:=⟨T,[],[(35,.one newYC),(24,.one coC),(20,.one ofC),(19,.one reachC),(21,.one listC),(15,.one sameC)],noInv,10,{}⟩
theorem conWk:ConOk Tryd.prog cfgWk:=ConL.ok (.cons (ConL.one newY_good) (.cons (ConL.one co_good) (.cons (ConL.one of_good) (.cons (ConL.one reach_good) (.cons (ConL.one list_good) (.cons (ConL.one same_good) .nil))))))
set_option maxRecDepth 100000 in
theorem wk_keeps:Keeps cfgWk Tryd.f10 wkC noIv:=Eq.mp (show((∀ x1:Unit,(True->(((True/\(True/\(True/\True)))/\((True/\(True/\(True/\True)))/\((True/\(True/\(True/\True)))/\((True/\(True/\(True/\True)))/\True))))/\(∃ x3:NewX,((errN x3=0)/\((4=x3.n/\((0=0/\((4:Nat)=x3.es.length))/\True))/\((((RLe x3.es.length 4)/\(RowsEq [.int .i64,.int .i64,.int .i64] x3.es.length (litRows ((D.i 0::D.i 1::D.i 2::@List.nil D)::(D.i 1::D.i 0::D.i 2::@List.nil D)::(D.i 1::D.i 2::D.i 9::@List.nil D)::(D.i 2::D.i 3::D.i 4611686018427387904::@List.nil D)::@List.nil (List D))) (encL encE x3.es)))/\True)/\(((decide ((0:Int)≠(0:Int))=false)->(∃ x5:Gr,((G12 x5)/\(((0=0/\0=0)/\True)/\(((RLe 1 1/\(RowsEq [.sl [.int .i64,.int .i64,.int .i64],.sl [.sl [.int .i64]],.sl [.sl [.int .i64]]] 1 (encG (NewX.g x3)) (encG x5)))/\True)/\(((True/\True)/\True)/\(∃ x6:List Int,((x6.length<=(1048576:Nat))/\(((0=0/\((1:Nat)=x6.length))/\True)/\((((RLe x6.length 1)/\(RowsEq [.int .i64] x6.length (litRows ((D.i 0::@List.nil D)::@List.nil (List D))) (encL encI x6)))/\True)/\(∃ x7:RLx,((RLok x7)/\(((0=0/\0=0)/\(((szW (ofW x6 x6.length)=szW x7.ws)/\True)/\True))/\(((RLe 1 1/\(RowsEq [.sl [.int .i64,.int .i64,.int .i64],.sl [.sl [.int .i64]],.sl [.sl [.int .i64]]] 1 (encG (NewX.g x3)) (encG x7.g)))/\(((RLe (szW x7.ws) (szW (ofW x6 x6.length)))/\(RowsEq [.int .u64] (szW x7.ws) (encL encW (ofW x6 x6.length)) (encL encW x7.ws)))/\True))/\(∃ x8:List Nat,((WOk x8)/\((((szW (ofW (reachQ x7.g (elemsZ x7.ws)) (reachQ x7.g (elemsZ x7.ws)).length)=szW x8)/\True)/\True)/\((((RLe (szW x8) (szW (ofW (reachQ x7.g (elemsZ x7.ws)) (reachQ x7.g (elemsZ x7.ws)).length)))/\(RowsEq [.int .u64] (szW x8) (encL encW (ofW (reachQ x7.g (elemsZ x7.ws)) (reachQ x7.g (elemsZ x7.ws)).length)) (encL encW x8)))/\True)/\(((True/\True)/\((True/\True)/\((True/\True)/\True)))/\(∃ x9:LLX,((x9.a.length<=(1073741824:Nat))/\(((0=0/\((elemsW x8).length=x9.a.length))/\((0=0/\((3:Nat)=x9.b.length))/\True))/\((((RLe x9.a.length (elemsW x8).length)/\(RI x9.a.length (elemsZ x8) x9.a))/\(((RLe x9.b.length 3)/\(RowsEq [.int .i64] x9.b.length (litRows ((D.i 0::@List.nil D)::(D.i 1::@List.nil D)::(D.i 2::@List.nil D)::@List.nil (List D))) (encL encI x9.b)))/\True))/\(((decide (x9.a=x9.b)=true)->(((decide ((↑(compsL x5).length:Int)=3)=true)->((((0:Int)<=(0:Int))/\(0<(↑(compsL x5).length:Int)))/\((0+Int.toNat 0<(compsL x5).length)/\(∃ x12:List Nat,((WOk x12)/\((((szW ((compsL x5).getD (0+Int.toNat (0:Int)) default)=szW x12)/\True)/\True)/\((((RLe (szW x12) (szW ((compsL x5).getD (0+Int.toNat (0:Int)) default)))/\(RowsEq [.int .u64] (szW x12) (D.toF (D.l (szW ((compsL x5).getD (0+Int.toNat (0:Int)) default)) (encL encW ((compsL x5).getD (0+Int.toNat (0:Int)) default)))) (encL encW x12)))/\True)/\(((True/\True)/\((True/\True)/\True))/\(∃ x13:LLX,((x13.a.length<=(1073741824:Nat))/\(((0=0/\((elemsW x12).length=x13.a.length))/\((0=0/\((2:Nat)=x13.b.length))/\True))/\((((RLe x13.a.length (elemsW x12).length)/\(RI x13.a.length (elemsZ x12) x13.a))/\(((RLe x13.b.length 2)/\(RowsEq [.int .i64] x13.b.length (litRows ((D.i 0::@List.nil D)::(D.i 1::@List.nil D)::@List.nil (List D))) (encL encI x13.b)))/\True))/\(((decide (x13.a=x13.b)=true)->((((0:Int)<=(2:Int))/\(2<(↑(compsL x5).length:Int)))/\((0+Int.toNat 2<(compsL x5).length)/\(∃ x15:List Nat,((WOk x15)/\((((szW ((compsL x5).getD (0+Int.toNat (2:Int)) default)=szW x15)/\True)/\True)/\((((RLe (szW x15) (szW ((compsL x5).getD (0+Int.toNat (2:Int)) default)))/\(RowsEq [.int .u64] (szW x15) (D.toF (D.l (szW ((compsL x5).getD (0+Int.toNat (2:Int)) default)) (encL encW ((compsL x5).getD (0+Int.toNat (2:Int)) default)))) (encL encW x15)))/\True)/\(((True/\True)/\True)/\(∃ x16:LLX,((x16.a.length<=(1073741824:Nat))/\(((0=0/\((elemsW x15).length=x16.a.length))/\((0=0/\((1:Nat)=x16.b.length))/\True))/\((((RLe x16.a.length (elemsW x15).length)/\(RI x16.a.length (elemsZ x15) x16.a))/\(((RLe x16.b.length 1)/\(RowsEq [.int .i64] x16.b.length (litRows ((D.i 3::@List.nil D)::@List.nil (List D))) (encL encI x16.b)))/\True))/\((decide (x16.a=x16.b)=true)/\True)))))))))))))/\((decide (x13.a=x13.b)=false)->(false=true/\True)))))))))))))))/\((decide ((↑(compsL x5).length:Int)=3)=false)->(false=true/\True))))/\((decide (x9.a=x9.b)=false)->(false=true/\True))))))))))))))))))))))))))/\((decide ((0:Int)≠(0:Int))=true)->(false=true/\True)))))))))))=(Keeps cfgWk Tryd.f10 wkC noIv) by kernel_rfl) (fun x1=>fun h2=>⟨⟨⟨trivial,
 trivial,trivial,trivial⟩,
⟨trivial,trivial,trivial,trivial⟩,
⟨trivial,trivial,trivial,trivial⟩,
⟨trivial,trivial,trivial,trivial⟩,trivial⟩,
({ n:=(4:Int),es:=exE:NewX }),
(by(try dsimp only at *);rfl),
⟨rfl,
⟨rfl,
(by(try dsimp only at *);rfl)⟩,trivial⟩,
⟨⟨⟨(by(try dsimp only at *);exact Nat.le_refl _)⟩,
(by(try dsimp only at *);exact⟨fun r hr=>by have hr:r<4:=hr;rcases(show r=0∨r=1∨r=2∨r=3 by omega)with h|h|h|h <;>subst h <;>exact⟨rfl,rfl,rfl,trivial⟩⟩)⟩,trivial⟩,
fun g4=>have h4:=dF g4;⟨(exG),
(by(try dsimp only at *);exact ex_g),
⟨⟨rfl,rfl⟩,trivial⟩,
⟨⟨rl,
(by(try dsimp only at *);exact rr)⟩,trivial⟩,
⟨⟨trivial,trivial⟩,trivial⟩,
((0:Int)::@List.nil Int),
(by(try dsimp only at *);grind),
⟨⟨rfl,
(by(try dsimp only at *);grind)⟩,trivial⟩,
⟨⟨⟨(by(try dsimp only at *);grind)⟩,
(by(try dsimp only at *);exact⟨fun r hr=>by have hr:r<1:=hr;rw[show r=0 by omega];exact⟨rfl,trivial⟩⟩)⟩,trivial⟩,
({ g:=exG,ws:=ofW ((0:Int)::@List.nil Int) (1:Nat):RLx }),
(by(try dsimp only at *);exact⟨ex_g.g,ofW_ok _ _⟩),
⟨⟨rfl,rfl⟩,
⟨(by(try dsimp only at *);grind),trivial⟩,trivial⟩,
⟨⟨rl,
(by(try dsimp only at *);exact rr)⟩,
⟨⟨(by(try dsimp only at *);grind)⟩,
(by(try dsimp only at *);exact rr)⟩,trivial⟩,
(exR),
(by(try dsimp only at *);exact ofW_ok _ _),
⟨⟨(by(try dsimp only at *);rfl),trivial⟩,trivial⟩,
⟨⟨⟨(by(try dsimp only at *);exact Nat.le_refl _)⟩,
(by(try dsimp only at *);exact rr)⟩,trivial⟩,
⟨⟨trivial,trivial⟩,
⟨trivial,trivial⟩,
⟨trivial,trivial⟩,trivial⟩,
({ a:=(0:Int)::(1:Int)::(2:Int)::@List.nil Int,b:=(0:Int)::(1:Int)::(2:Int)::@List.nil Int:LLX }),
(by(try dsimp only at *);grind),
⟨⟨rfl,
(by(try dsimp only at *);rfl)⟩,
⟨rfl,
(by(try dsimp only at *);grind)⟩,trivial⟩,
⟨⟨⟨(by(try dsimp only at *);decide)⟩,
(by(try dsimp only at *);exact rr)⟩,
⟨⟨(by(try dsimp only at *);grind)⟩,
(by(try dsimp only at *);exact⟨fun r hr=>by have hr:r<3:=hr;rcases(show r=0∨r=1∨r=2 by omega)with h|h|h <;>subst h <;>exact⟨rfl,trivial⟩⟩)⟩,trivial⟩,
fun g10=>have h10:=dT g10;⟨fun g11=>have h11:=dT g11;⟨⟨(by(try dsimp only at *);omega),
(by(try dsimp only at *);omega)⟩,
(by(try dsimp only at *);omega),
(List.getD (compsL exG) (0:Nat) default),
(by(try dsimp only at *);exact ofW_ok _ _),
⟨⟨(by(try dsimp only at *);grind),trivial⟩,trivial⟩,
⟨⟨⟨(by(try dsimp only at *);grind)⟩,
(by(try dsimp only at *);exact rr)⟩,trivial⟩,
⟨⟨trivial,trivial⟩,
⟨trivial,trivial⟩,trivial⟩,
({ a:=(0:Int)::(1:Int)::@List.nil Int,b:=(0:Int)::(1:Int)::@List.nil Int:LLX }),
(by(try dsimp only at *);grind),
⟨⟨rfl,
(by(try dsimp only at *);rfl)⟩,
⟨rfl,
(by(try dsimp only at *);grind)⟩,trivial⟩,
⟨⟨⟨(by(try dsimp only at *);exact Nat.le_refl _)⟩,
(by(try dsimp only at *);exact rr)⟩,
⟨⟨(by(try dsimp only at *);grind)⟩,
(by(try dsimp only at *);exact⟨fun r hr=>by have hr:r<2:=hr;rcases(show r=0∨r=1 by omega)with h|h <;>subst h <;>exact⟨rfl,trivial⟩⟩)⟩,trivial⟩,
fun g14=>have h14:=dT g14;⟨⟨(by(try dsimp only at *);omega),
(by(try dsimp only at *);omega)⟩,
(by(try dsimp only at *);omega),
(List.getD (compsL exG) (2:Nat) default),
(by(try dsimp only at *);exact ofW_ok _ _),
⟨⟨(by(try dsimp only at *);grind),trivial⟩,trivial⟩,
⟨⟨⟨(by(try dsimp only at *);grind)⟩,
(by(try dsimp only at *);exact rr)⟩,trivial⟩,
⟨⟨trivial,trivial⟩,trivial⟩,
({ a:=(3:Int)::@List.nil Int,b:=(3:Int)::@List.nil Int:LLX }),
(by(try dsimp only at *);grind),
⟨⟨rfl,
(by(try dsimp only at *);rfl)⟩,
⟨rfl,
(by(try dsimp only at *);grind)⟩,trivial⟩,
⟨⟨⟨(by(try dsimp only at *);exact Nat.le_refl _)⟩,
(by(try dsimp only at *);exact rr)⟩,
⟨⟨(by(try dsimp only at *);grind)⟩,
(by(try dsimp only at *);exact⟨fun r hr=>by have hr:r<1:=hr;rw[show r=0 by omega];exact⟨rfl,trivial⟩⟩)⟩,trivial⟩,
(by(try dsimp only at *);assumption),trivial⟩,
fun g17=>have h17:=dF g17;⟨(by(try dsimp only at *);grind),trivial⟩⟩,
fun g18=>have h18:=dF g18;⟨(by(try dsimp only at *);(have:=ex_c.1;omega)),trivial⟩⟩,
fun g19=>have h19:=dF g19;⟨(by(try dsimp only at *);grind),trivial⟩⟩,
fun g20=>have h20:=dT g20;⟨(by(try dsimp only at *);omega),trivial⟩⟩)
theorem wk_good:Good Tryd.prog 10 wkC/\FnOk Tryd.prog 10:=good_of tok conWk (fn:=Tryd.f10) rfl (by decide+kernel) (fun _=>rfl) wk_keeps
end Go.Sym