import Derived.Test.YtpommejalaechaaDoorW6
import Derived.Test.YtpommejalaechaaDoorW7
import Derived.Test.YtpommejalaechaaDoorXD
namespace Go.Sym
open Go.Proofs
set_option maxRecDepth 100000
set_option maxHeartbeats 4000000
abbrev RG (a b:Gr):Prop:=RowsEq kG 1 (encG a) (encG b)
abbrev RB (n:Nat) (a b:List Bool):Prop:=RowsEq kB n (encL encBo a) (encL encBo b)
def exE:List Ed:=[⟨0,1,5⟩,⟨1,2,5⟩]
def exG:Gr:=⟨3,exE⟩
def e0:MS:=⟨exG,[5,5],[false,false,false],[],[],true⟩
def e1:MS:=addM e0 0
def e2:MS:=tmM e1 2
def e3:MS:=addM e2 1
def e4:MS:=tmM e3 2
def e5:MS:=setM e4 1 4611686018427387904
def exW:List Nat:=ofW (wiL e5.dI 9) (wiL e5.dI 9).length
theorem ex_1:addE e0 0=0/\tmD e1 2=10/\tmS e1 2=0/\addE e2 1=0/\tmD e3 2=5/\tmS e3 2=1:=by decide+kernel
theorem ex_2:setN e4 1 4611686018427387904=1/\setE e4 1 4611686018427387904=0/\(faL e5.dI).1=4611686018427387904/\(faL e5.dI).2=2:=by decide+kernel
theorem e0_ok:MSok e0:=by
 have g:GOk exG:=gok (x:=⟨3,exE⟩) (by decide) (by decide) (by decide) (by decide)
 refine⟨g,by decide,rfl,fun i hi=>?_,rfl,by decide,by decide,fun q=>by cases q⟩
 have hi:i<2:=hi
 rcases(show i=0∨i=1 by omega)with h|h <;>subst h <;>exact .inr ⟨by decide,by decide⟩
theorem tmM_ok {x:MS} (h:MSok x) (v:Int):MSok (tmM x v):=by
 unfold tmM;split
 ·exact mup_ok h
 ·exact h
theorem e1_ok:MSok e1:=addM_ok e0_ok 0
theorem e2_ok:MSok e2:=tmM_ok e1_ok 2
theorem e3_ok:MSok e3:=addM_ok e2_ok 1
theorem e4_ok:MSok e4:=tmM_ok e3_ok 2
theorem e5_ok:MSok e5:=setM_ok e4_ok 1 _
def niC (x:MS):List SV:=[.p 100001 0 0,.sl 100002 0 x.g.es.length,.sl 100003 0 x.g.n,.ns,.ns,.b x.od]
def addNC:CT where
 X:=MNx
 pre:=fun x=>x.m.src.length=x.m.g.n
 args:=fun x=>[.p 100000 0 0,.i .i64 x.v]
 g0:=fun x=>[(100000,.one .own (niC x.m)),(100001,.rows .bor kG 1 (encG x.m.g)),(100002,.rows .bor k1 x.m.g.es.length (encL encI x.m.ts)),(100003,.rows .own kB x.m.g.n (encL encBo x.m.src))]
 res:=fun x=>.i .i64 (addE x.m x.v)
 g1:=fun x=>[(100000,.one .own (niC ⟨x.m.g,x.m.ts,x.m.src,[],[],(addM x.m x.v).od⟩)),(100003,.rows .own kB x.m.g.n (encL encBo (addM x.m x.v).src))]
set_option maxRecDepth 100000 in
theorem addN_keeps:Keeps cfgJ4 Tryd.f12 addNC noIv:=Eq.mp (show((∀ x1:MNx,(x1.m.src.length=x1.m.g.n->(∃ x3:MNx,(True/\(((0=0/\0=0)/\(x1.v=x3.v/\True))/\((((0=0/\0=0)/\((0=0/\x1.m.g.es.length=x3.m.g.es.length)/\((0=0/\x1.m.g.n=x3.m.g.n)/\((True/\(0=0/\(x3.m.dist.length=(0:Nat))))/\((True/\(0=0/\(x3.m.so.length=(0:Nat))))/\(x1.m.od=x3.m.od/\True))))))/\((RLe 1 1/\(RG x1.m.g x3.m.g))/\(((RLe x3.m.g.es.length x1.m.g.es.length)/\(RI x3.m.g.es.length x1.m.ts x3.m.ts))/\(((RLe x3.m.g.n x1.m.g.n)/\(RB x3.m.g.n x1.m.src x3.m.src))/\((x3.m.dist.length=(0:Nat))/\((x3.m.so.length=(0:Nat))/\True))))))/\((((!inN1 x3.m x3.v)=true)->(((1:Int)=addE x1.m x1.v)/\(((0=0/\0=0)/\((0=0/\x1.m.g.es.length=x1.m.g.es.length)/\((0=0/\x1.m.g.n=x1.m.g.n)/\(True/\(True/\((x1.m.od=(addM x1.m x1.v).od)/\True))))))/\(((RLe x1.m.g.n x1.m.g.n)/\(RB x1.m.g.n x1.m.src (addM x1.m x1.v).src))/\True))))/\(((!inN1 x3.m x3.v)=false)->((((0:Int)<=x1.v)/\(x1.v<(x1.m.g.n:Int)))/\((0+Int.toNat x1.v<x1.m.g.n)/\(((x1.m.src.getD (0+Int.toNat x1.v) default=true)->(((5:Int)=addE x1.m x1.v)/\(((0=0/\0=0)/\((0=0/\x1.m.g.es.length=x1.m.g.es.length)/\((0=0/\x1.m.g.n=x1.m.g.n)/\(True/\(True/\((x1.m.od=(addM x1.m x1.v).od)/\True))))))/\(((RLe x1.m.g.n x1.m.g.n)/\(RB x1.m.g.n x1.m.src (addM x1.m x1.v).src))/\True))))/\((x1.m.src.getD (0+Int.toNat x1.v) default=false)->((((0:Int)<=x1.v)/\(x1.v<(x1.m.g.n:Int)))/\(((0+Int.toNat x1.v<x1.m.g.n)/\(True/\True))/\(((0:Int)=addE x1.m x1.v)/\(((0=0/\0=0)/\((0=0/\x1.m.g.es.length=x1.m.g.es.length)/\((0=0/\x1.m.g.n=x1.m.g.n)/\(True/\(True/\((true=(addM x1.m x1.v).od)/\True))))))/\(((RLe x1.m.g.n x1.m.g.n)/\(RowsEq (Kd.bool::[]) x1.m.g.n (setRow (encL encBo x1.m.src) (0+Int.toNat x1.v) 0 (D.b true::@List.nil D)) (encL encBo (addM x1.m x1.v).src)))/\True))))))))))))))))))=(Keeps cfgJ4 Tryd.f12 addNC noIv) by kernel_rfl) (fun x1=>fun h2=>⟨({ m:={ g:=MS.g (MNx.m x1),ts:=MS.ts (MNx.m x1),src:=MS.src (MNx.m x1),dist:=@List.nil Int,so:=@List.nil Int,od:=MS.od (MNx.m x1):MS },v:=MNx.v x1:MNx }),trivial,
⟨⟨rfl,rfl⟩,rfl,trivial⟩,
⟨⟨⟨rfl,rfl⟩,
⟨rfl,rfl⟩,
⟨rfl,rfl⟩,
⟨trivial,rfl,
(by(try dsimp only at *);grind)⟩,
⟨trivial,rfl,
(by(try dsimp only at *);grind)⟩,rfl,trivial⟩,
⟨rl,rr⟩,
⟨rl,rr⟩,
⟨rl,rr⟩,
(by(try dsimp only at *);grind),
(by(try dsimp only at *);grind),trivial⟩,
fun h4=>⟨(by(try dsimp only at *);(((try simp only[Nat.zero_add]at *);have e:=(add_1 (x:=x1.m) (v:=x1.v) ‹_›);first|exact e.2.symm|(rw[e.1];done)|(rw[e.1];exact Nat.le_refl _)|(rw[e.1];exact rr)|(rw[e.1];exact rows_setB (by have q:=inN1_yes ‹_›;omega))))),
⟨⟨rfl,rfl⟩,
⟨rfl,rfl⟩,
⟨rfl,rfl⟩,trivial,trivial,
(by(try dsimp only at *);(((try simp only[Nat.zero_add]at *);have e:=(add_1 (x:=x1.m) (v:=x1.v) ‹_›);first|exact e.2.symm|(rw[e.1];done)|(rw[e.1];exact Nat.le_refl _)|(rw[e.1];exact rr)|(rw[e.1];exact rows_setB (by have q:=inN1_yes ‹_›;omega))))),trivial⟩,
⟨rl,
(by(try dsimp only at *);(((try simp only[Nat.zero_add]at *);have e:=(add_1 (x:=x1.m) (v:=x1.v) ‹_›);first|exact e.2.symm|(rw[e.1];done)|(rw[e.1];exact Nat.le_refl _)|(rw[e.1];exact rr)|(rw[e.1];exact rows_setB (by have q:=inN1_yes ‹_›;omega)))))⟩,trivial⟩,
fun h5=>⟨⟨(by(try dsimp only at *);(have q:=inN1_yes (x:=x1.m) (v:=x1.v) h5;omega)),
(by(try dsimp only at *);(have q:=inN1_yes (x:=x1.m) (v:=x1.v) h5;omega))⟩,
(by(try dsimp only at *);(have q:=inN1_yes (x:=x1.m) (v:=x1.v) h5;omega)),
fun h6=>⟨(by(try dsimp only at *);(((try simp only[Nat.zero_add]at *);have e:=(add_2 (x:=x1.m) (v:=x1.v) ‹_› ‹_›);first|exact e.2.symm|(rw[e.1];done)|(rw[e.1];exact Nat.le_refl _)|(rw[e.1];exact rr)|(rw[e.1];exact rows_setB (by have q:=inN1_yes ‹_›;omega))))),
⟨⟨rfl,rfl⟩,
⟨rfl,rfl⟩,
⟨rfl,rfl⟩,trivial,trivial,
(by(try dsimp only at *);(((try simp only[Nat.zero_add]at *);have e:=(add_2 (x:=x1.m) (v:=x1.v) ‹_› ‹_›);first|exact e.2.symm|(rw[e.1];done)|(rw[e.1];exact Nat.le_refl _)|(rw[e.1];exact rr)|(rw[e.1];exact rows_setB (by have q:=inN1_yes ‹_›;omega))))),trivial⟩,
⟨rl,
(by(try dsimp only at *);(((try simp only[Nat.zero_add]at *);have e:=(add_2 (x:=x1.m) (v:=x1.v) ‹_› ‹_›);first|exact e.2.symm|(rw[e.1];done)|(rw[e.1];exact Nat.le_refl _)|(rw[e.1];exact rr)|(rw[e.1];exact rows_setB (by have q:=inN1_yes ‹_›;omega)))))⟩,trivial⟩,
fun h7=>⟨⟨(by(try dsimp only at *);(have q:=inN1_yes (x:=x1.m) (v:=x1.v) h5;omega)),
(by(try dsimp only at *);(have q:=inN1_yes (x:=x1.m) (v:=x1.v) h5;omega))⟩,
⟨(by(try dsimp only at *);(have q:=inN1_yes (x:=x1.m) (v:=x1.v) h5;omega)),trivial,trivial⟩,
(by(try dsimp only at *);(((try simp only[Nat.zero_add]at *);have e:=(add_3 (x:=x1.m) (v:=x1.v) ‹_› ‹_›);first|exact e.2.symm|(rw[e.1];done)|(rw[e.1];exact Nat.le_refl _)|(rw[e.1];exact rr)|(rw[e.1];exact rows_setB (by have q:=inN1_yes ‹_›;omega))))),
⟨⟨rfl,rfl⟩,
⟨rfl,rfl⟩,
⟨rfl,rfl⟩,trivial,trivial,
(by(try dsimp only at *);(((try simp only[Nat.zero_add]at *);have e:=(add_3 (x:=x1.m) (v:=x1.v) ‹_› ‹_›);first|exact e.2.symm|(rw[e.1];done)|(rw[e.1];exact Nat.le_refl _)|(rw[e.1];exact rr)|(rw[e.1];exact rows_setB (by have q:=inN1_yes ‹_›;omega))))),trivial⟩,
⟨rl,
(by
       (rw[(add_3 (x:=x1.m) (v:=x1.v) h5 (by simpa using h7)).1];simp only[Nat.zero_add];exact rows_setB (by have q:=inN1_yes (x:=x1.m) (v:=x1.v) h5;omega)))⟩,trivial⟩⟩⟩)
theorem addN_good:Good Tryd.prog 12 addNC/\FnOk Tryd.prog 12:=good_of tok conJ4 (fn:=Tryd.f12) rfl (by decide+kernel) (fun _=>rfl) addN_keeps
def selN:List SV->Hp->Bool:=fun args G=>match args with
 | .p l _ _::_=>(match G l with
  |some (.one _ cs)=>(match cs with
   | [_,_,_,.ns,_,_]=>true
   |_=>false)
  |_=>false)
 |_=>false
def awC:CT where
 X:=Unit
 pre:=fun _=>True
 args:=fun _=>[]
 g0:=fun _=>[]
 res:=fun _=>.b true
 g1:=fun _=>[]
def cfgAw:Cfg:=⟨T,[],[(17,.one (netYC .own)),(18,.one newIC),(12,.two selN (.one addNC) (.one addSC)),(11,.one timC),(16,.one setTC),(23,.one farC),(20,.one wiC),(27,.one strC)],noInv,14,{}⟩
theorem conAw:ConOk Tryd.prog cfgAw:=ConL.ok (.cons (ConL.one netYo_good) (.cons (ConL.one newI_good) (.cons (ConL.two (ConL.one addN_good) (ConL.one addS_good)) (.cons (ConL.one tim_good) (.cons (ConL.one setT_good) (.cons (ConL.one far_good) (.cons (ConL.one wi_good) (.cons (ConL.one str_good) .nil))))))))
set_option maxRecDepth 100000 in
theorem aw_keeps:Keeps cfgAw Tryd.f9 awC noIv:=Eq.mp (show((∀ x1:Unit,(True->(((True/\(True/\(True/\True)))/\((True/\(True/\(True/\True)))/\True))/\(∃ x3:NewX,((rightB x3=true)/\(((3=x3.n/\((0=0/\((2:Nat)=x3.es.length))/\True))/\True)/\((((RLe x3.es.length 2)/\(RowsEq [.int .i64,.int .i64,.int .i64] x3.es.length (litRows ((D.i 0::D.i 1::D.i 5::@List.nil D)::(D.i 1::D.i 2::D.i 5::@List.nil D)::@List.nil (List D))) (encL encE x3.es)))/\True)/\(((True/\True)/\((True/\True)/\True))/\(∃ x4:NIx,((GOk x4.g)/\(((0=0/\0=0)/\((0=0/\((2:Nat)=x4.ts.length))/\True))/\(((RLe 1 1/\(RG (NewX.g x3) x4.g))/\(((RLe x4.ts.length 2)/\(RowsEq [.int .i64] x4.ts.length (litRows ((D.i 5::@List.nil D)::(D.i 5::@List.nil D)::@List.nil (List D))) (encL encI x4.ts)))/\True))/\(((decide ((0:Int)≠(0:Int))=false)->(∃ x6:MNx,(x6.m.src.length=x6.m.g.n/\(((0=0/\0=0)/\(0=x6.v/\True))/\((((0=0/\0=0)/\((0=0/\x4.g.es.length=x6.m.g.es.length)/\((0=0/\x4.g.n=x6.m.g.n)/\(True/\(True/\(true=x6.m.od/\True))))))/\((RLe 1 1/\(RG (NewX.g x3) x6.m.g))/\(((RLe x6.m.g.es.length x4.g.es.length)/\(RI x6.m.g.es.length (ttL x4.ts x4.g.es.length) x6.m.ts))/\(((RLe x6.m.g.n x4.g.n)/\(RB x6.m.g.n (List.replicate x4.g.n false) x6.m.src))/\True))))/\(((decide (addE x6.m x6.v≠(0:Int))=true)->(false=true/\True))/\((decide (addE x6.m x6.v≠(0:Int))=false)->(∃ x9:MNx,((MSok x9.m)/\(((0=0/\0=0)/\(2=x9.v/\True))/\((((0=0/\0=0)/\((0=0/\x6.m.g.es.length=x9.m.g.es.length)/\((0=0/\x6.m.g.n=x9.m.g.n)/\((True/\(0=0/\(x9.m.dist.length=(0:Nat))))/\((True/\(0=0/\(x9.m.so.length=(0:Nat))))/\(((addM x6.m x6.v).od=x9.m.od)/\True))))))/\((RLe 1 1/\(RG (NewX.g x3) x9.m.g))/\(((RLe x9.m.g.es.length x4.g.es.length)/\(RI x9.m.g.es.length (ttL x4.ts x4.g.es.length) x9.m.ts))/\(((RLe x9.m.g.n x6.m.g.n)/\(RB x9.m.g.n (addM x6.m x6.v).src x9.m.src))/\((x9.m.dist.length=(0:Nat))/\((x9.m.so.length=(0:Nat))/\True))))))/\(((decide (tmD x9.m x9.v≠(10:Int))=false)->(((decide (tmS x9.m x9.v≠(0:Int))=false)->(∃ x12:MNx,(x12.m.src.length=x12.m.g.n/\(((0=0/\0=0)/\(1=x12.v/\True))/\((((0=0/\0=0)/\((0=0/\x9.m.g.es.length=x12.m.g.es.length)/\((0=0/\x9.m.g.n=x12.m.g.n)/\((0=0/\((tmM x9.m x9.v).dist.length=x12.m.dist.length))/\((0=0/\((tmM x9.m x9.v).so.length=x12.m.so.length))/\(((tmM x9.m x9.v).od=x12.m.od)/\True))))))/\((RLe 1 1/\(RG (NewX.g x3) x12.m.g))/\(((RLe x12.m.g.es.length x4.g.es.length)/\(RI x12.m.g.es.length (ttL x4.ts x4.g.es.length) x12.m.ts))/\(((RLe x12.m.g.n x6.m.g.n)/\(RB x12.m.g.n (addM x6.m x6.v).src x12.m.src))/\(((RLe x12.m.dist.length (tmM x9.m x9.v).dist.length)/\(RI x12.m.dist.length (tmM x9.m x9.v).dist x12.m.dist))/\(((RLe x12.m.so.length (tmM x9.m x9.v).so.length)/\(RI x12.m.so.length (tmM x9.m x9.v).so x12.m.so))/\True))))))/\(((decide (addE x12.m x12.v≠(0:Int))=true)->(false=true/\True))/\((decide (addE x12.m x12.v≠(0:Int))=false)->(∃ x15:MNx,((MSok x15.m)/\(((0=0/\0=0)/\(2=x15.v/\True))/\((((0=0/\0=0)/\((0=0/\((addM x12.m x12.v).g.es.length=x15.m.g.es.length))/\((0=0/\((addM x12.m x12.v).g.n=x15.m.g.n))/\((0=0/\((addM x12.m x12.v).dist.length=x15.m.dist.length))/\((0=0/\((addM x12.m x12.v).so.length=x15.m.so.length))/\(((addM x12.m x12.v).od=x15.m.od)/\True))))))/\((RLe 1 1/\(RG (NewX.g x3) x15.m.g))/\(((RLe x15.m.g.es.length x4.g.es.length)/\(RI x15.m.g.es.length (ttL x4.ts x4.g.es.length) x15.m.ts))/\(((RLe x15.m.g.n (addM x12.m x12.v).g.n)/\(RB x15.m.g.n (addM x12.m x12.v).src x15.m.src))/\(((RLe x15.m.dist.length (tmM x9.m x9.v).dist.length)/\(RI x15.m.dist.length (tmM x9.m x9.v).dist x15.m.dist))/\(((RLe x15.m.so.length (tmM x9.m x9.v).so.length)/\(RI x15.m.so.length (tmM x9.m x9.v).so x15.m.so))/\True))))))/\(∃ x16:METx,((MSok x16.m)/\(((0=0/\0=0)/\(1=x16.e/\(4611686018427387904=x16.t/\True)))/\((((0=0/\0=0)/\((0=0/\x15.m.g.es.length=x16.m.g.es.length)/\((0=0/\x15.m.g.n=x16.m.g.n)/\((0=0/\((tmM x15.m x15.v).dist.length=x16.m.dist.length))/\((0=0/\((tmM x15.m x15.v).so.length=x16.m.so.length))/\(((tmM x15.m x15.v).od=x16.m.od)/\True))))))/\((RLe 1 1/\(RG (NewX.g x3) x16.m.g))/\(((RLe x16.m.g.es.length x4.g.es.length)/\(RI x16.m.g.es.length (ttL x4.ts x4.g.es.length) x16.m.ts))/\(((RLe x16.m.g.n (addM x12.m x12.v).g.n)/\(RB x16.m.g.n (addM x12.m x12.v).src x16.m.src))/\(((RLe x16.m.dist.length (tmM x15.m x15.v).dist.length)/\(RI x16.m.dist.length (tmM x15.m x15.v).dist x16.m.dist))/\(((RLe x16.m.so.length (tmM x15.m x15.v).so.length)/\(RI x16.m.so.length (tmM x15.m x15.v).so x16.m.so))/\True))))))/\(∃ x17:MS,((MSok x17)/\(((0=0/\0=0)/\True)/\((((0=0/\0=0)/\((0=0/\x16.m.g.es.length=x17.g.es.length)/\((0=0/\x16.m.g.n=x17.g.n)/\((0=0/\((setM x16.m x16.e x16.t).dist.length=x17.dist.length))/\((0=0/\((setM x16.m x16.e x16.t).so.length=x17.so.length))/\(((setM x16.m x16.e x16.t).od=x17.od)/\True))))))/\((RLe 1 1/\(RG (NewX.g x3) x17.g))/\(((RLe x17.g.es.length x16.m.g.es.length)/\(RI x17.g.es.length (setM x16.m x16.e x16.t).ts x17.ts))/\(((RLe x17.g.n (addM x12.m x12.v).g.n)/\(RB x17.g.n (addM x12.m x12.v).src x17.src))/\(((RLe x17.dist.length (setM x16.m x16.e x16.t).dist.length)/\(RI x17.dist.length (setM x16.m x16.e x16.t).dist x17.dist))/\(((RLe x17.so.length (setM x16.m x16.e x16.t).so.length)/\(RI x17.so.length (setM x16.m x16.e x16.t).so x17.so))/\True))))))/\(((decide (tmD x15.m x15.v=(5:Int))=true)->(((decide (tmS x15.m x15.v=(1:Int))=true)->(((decide (setN x16.m x16.e x16.t=(1:Int))=true)->(((decide (setE x16.m x16.e x16.t=(0:Int))=true)->(((decide (Prod.fst (faL (MS.dI x17))=(4611686018427387904:Int))=true)->(((decide (Prod.snd (faL (MS.dI x17))=(2:Int))=true)->(∃ x24:MNx,((MSok x24.m)/\(((0=0/\0=0)/\(9=x24.v/\True))/\((((0=0/\0=0)/\((0=0/\x17.g.es.length=x24.m.g.es.length)/\((0=0/\x17.g.n=x24.m.g.n)/\((0=0/\x17.g.n=x24.m.dist.length)/\((0=0/\x17.g.n=x24.m.so.length)/\(false=x24.m.od/\True))))))/\((RLe 1 1/\(RG (NewX.g x3) x24.m.g))/\(((RLe x24.m.g.es.length x16.m.g.es.length)/\(RI x24.m.g.es.length (setM x16.m x16.e x16.t).ts x24.m.ts))/\(((RLe x24.m.g.n (addM x12.m x12.v).g.n)/\(RB x24.m.g.n (addM x12.m x12.v).src x24.m.src))/\(((RLe x24.m.dist.length x17.g.n)/\(RI x24.m.dist.length (MS.dI x17) x24.m.dist))/\(((RLe x24.m.so.length x17.g.n)/\(RI x24.m.so.length (soF x17 (MS.dI x17)) x24.m.so))/\True))))))/\(∃ x25:List Nat,(((WOk x25)/\(elemsZ x25=0::(1:Int)::@List.nil Int))/\((((szW (ofW (wiL (MS.dI x24.m) x24.v) (wiL (MS.dI x24.m) x24.v).length)=szW x25)/\True)/\True)/\((((RLe (szW x25) (szW (ofW (wiL (MS.dI x24.m) x24.v) (wiL (MS.dI x24.m) x24.v).length)))/\(RowsEq [.int .u64] (szW x25) (encL encW (ofW (wiL (MS.dI x24.m) x24.v) (wiL (MS.dI x24.m) x24.v).length)) (encL encW x25)))/\True)/\(((ByteArray.toList t01==ByteArray.toList (ByteArray.mk (List.toArray ((48:UInt8)::(45:UInt8)::(49:UInt8)::@List.nil UInt8))))=true)/\True))))))))))/\((decide (Prod.snd (faL (MS.dI x17))=(2:Int))=false)->(false=true/\True))))/\((decide (Prod.fst (faL (MS.dI x17))=(4611686018427387904:Int))=false)->(false=true/\True))))/\((decide (setE x16.m x16.e x16.t=(0:Int))=false)->(false=true/\True))))/\((decide (setN x16.m x16.e x16.t=(1:Int))=false)->(false=true/\True))))/\((decide (tmS x15.m x15.v=(1:Int))=false)->(false=true/\True))))/\((decide (tmD x15.m x15.v=(5:Int))=false)->(false=true/\True))))))))))))))))))))))/\((decide (tmS x9.m x9.v≠(0:Int))=true)->(false=true/\True))))/\((decide (tmD x9.m x9.v≠(10:Int))=true)->(false=true/\True))))))))))))))/\((decide ((0:Int)≠(0:Int))=true)->(false=true/\True))))))))))))))))=(Keeps cfgAw Tryd.f9 awC noIv) by kernel_rfl) (fun x1=>fun h2=>⟨⟨⟨trivial,
 trivial,trivial,trivial⟩,
⟨trivial,trivial,trivial,trivial⟩,trivial⟩,
({ n:=(3:Int),es:=exE:NewX }),
(by(try dsimp only at *);rfl),
⟨⟨rfl,
⟨rfl,
(by(try dsimp only at *);rfl)⟩,trivial⟩,trivial⟩,
⟨⟨⟨(by(try dsimp only at *);exact Nat.le_refl _)⟩,
(by(try dsimp only at *);exact⟨fun r hr=>by have hr:r<2:=hr;rcases(show r=0∨r=1 by omega)with h|h <;>subst h <;>exact⟨rfl,rfl,rfl,trivial⟩⟩)⟩,trivial⟩,
⟨⟨trivial,trivial⟩,
⟨trivial,trivial⟩,trivial⟩,
({ g:=exG,ts:=(5:Int)::(5:Int)::@List.nil Int:NIx }),
(by(try dsimp only at *);exact(gok (x:=⟨3,exE⟩) (by decide) (by decide) (by decide) (by decide))),
⟨⟨rfl,rfl⟩,
⟨rfl,
(by(try dsimp only at *);grind)⟩,trivial⟩,
⟨⟨rl,
(by(try dsimp only at *);exact rr)⟩,
⟨⟨(by(try dsimp only at *);grind)⟩,
(by(try dsimp only at *);exact⟨fun r hr=>by have hr:r<2:=hr;rcases(show r=0∨r=1 by omega)with h|h <;>subst h <;>exact⟨rfl,trivial⟩⟩)⟩,trivial⟩,
fun g5=>have h5:=dF g5;⟨({ m:=e0,v:=(0:Int):MNx }),
(by(try dsimp only at *);rfl),
⟨⟨rfl,rfl⟩,rfl,trivial⟩,
⟨⟨⟨rfl,rfl⟩,
⟨rfl,
(by(try dsimp only at *);rfl)⟩,
⟨rfl,
(by(try dsimp only at *);rfl)⟩,trivial,trivial,
(by(try dsimp only at *);rfl),trivial⟩,
⟨rl,
(by(try dsimp only at *);exact rr)⟩,
⟨⟨(by(try dsimp only at *);exact Nat.le_refl _)⟩,
(by(try dsimp only at *);exact rr)⟩,
⟨⟨(by(try dsimp only at *);exact Nat.le_refl _)⟩,
(by(try dsimp only at *);exact rr)⟩,trivial⟩,
fun g7=>have h7:=dT g7;⟨(by(try dsimp only at *);assumption),trivial⟩,
fun g8=>have h8:=dF g8;⟨({ m:=e1,v:=(2:Int):MNx }),
(by(try dsimp only at *);exact e1_ok),
⟨⟨rfl,rfl⟩,rfl,trivial⟩,
⟨⟨⟨rfl,rfl⟩,
⟨rfl,
(by(try dsimp only at *);rfl)⟩,
⟨rfl,
(by(try dsimp only at *);rfl)⟩,
⟨trivial,rfl,
(by(try dsimp only at *);rfl)⟩,
⟨trivial,rfl,
(by(try dsimp only at *);rfl)⟩,
(by(try dsimp only at *);rfl),trivial⟩,
⟨rl,
(by(try dsimp only at *);exact rr)⟩,
⟨⟨(by(try dsimp only at *);exact Nat.le_refl _)⟩,
(by(try dsimp only at *);exact rr)⟩,
⟨⟨(by(try dsimp only at *);exact Nat.le_refl _)⟩,
(by(try dsimp only at *);exact rr)⟩,
(by(try dsimp only at *);rfl),
(by(try dsimp only at *);rfl),trivial⟩,
fun g10=>have h10:=dF g10;⟨fun g11=>have h11:=dF g11;⟨({ m:=e2,v:=(1:Int):MNx }),
(by(try dsimp only at *);rfl),
⟨⟨rfl,rfl⟩,rfl,trivial⟩,
⟨⟨⟨rfl,rfl⟩,
⟨rfl,
(by(try dsimp only at *);rfl)⟩,
⟨rfl,
(by(try dsimp only at *);rfl)⟩,
⟨rfl,
(by(try dsimp only at *);rfl)⟩,
⟨rfl,
(by(try dsimp only at *);rfl)⟩,
(by(try dsimp only at *);assumption),trivial⟩,
⟨rl,
(by(try dsimp only at *);exact rr)⟩,
⟨⟨(by(try dsimp only at *);exact Nat.le_refl _)⟩,
(by(try dsimp only at *);exact rr)⟩,
⟨⟨(by(try dsimp only at *);exact Nat.le_refl _)⟩,
(by(try dsimp only at *);exact rr)⟩,
⟨⟨(by(try dsimp only at *);exact Nat.le_refl _)⟩,
(by(try dsimp only at *);exact rr)⟩,
⟨⟨(by(try dsimp only at *);exact Nat.le_refl _)⟩,
(by(try dsimp only at *);exact rr)⟩,trivial⟩,
fun g13=>have h13:=dT g13;⟨(by(try dsimp only at *);assumption),trivial⟩,
fun g14=>have h14:=dF g14;⟨({ m:=e3,v:=(2:Int):MNx }),
(by(try dsimp only at *);exact e3_ok),
⟨⟨rfl,rfl⟩,rfl,trivial⟩,
⟨⟨⟨rfl,rfl⟩,
⟨rfl,
(by(try dsimp only at *);rfl)⟩,
⟨rfl,
(by(try dsimp only at *);rfl)⟩,
⟨rfl,
(by(try dsimp only at *);rfl)⟩,
⟨rfl,
(by(try dsimp only at *);rfl)⟩,
(by(try dsimp only at *);rfl),trivial⟩,
⟨rl,
(by(try dsimp only at *);exact rr)⟩,
⟨⟨(by(try dsimp only at *);exact Nat.le_refl _)⟩,
(by(try dsimp only at *);exact rr)⟩,
⟨⟨(by(try dsimp only at *);exact Nat.le_refl _)⟩,
(by(try dsimp only at *);exact rr)⟩,
⟨⟨(by(try dsimp only at *);exact Nat.le_refl _)⟩,
(by(try dsimp only at *);exact rr)⟩,
⟨⟨(by(try dsimp only at *);exact Nat.le_refl _)⟩,
(by(try dsimp only at *);exact rr)⟩,trivial⟩,
({ m:=e4,e:=(1:Int),t:=(4611686018427387904:Int):METx }),
(by(try dsimp only at *);exact e4_ok),
⟨⟨rfl,rfl⟩,rfl,rfl,trivial⟩,
⟨⟨⟨rfl,rfl⟩,
⟨rfl,
(by(try dsimp only at *);rfl)⟩,
⟨rfl,
(by(try dsimp only at *);rfl)⟩,
⟨rfl,
(by(try dsimp only at *);rfl)⟩,
⟨rfl,
(by(try dsimp only at *);rfl)⟩,
(by(try dsimp only at *);assumption),trivial⟩,
⟨rl,
(by(try dsimp only at *);exact rr)⟩,
⟨⟨(by(try dsimp only at *);exact Nat.le_refl _)⟩,
(by(try dsimp only at *);exact rr)⟩,
⟨⟨(by(try dsimp only at *);exact Nat.le_refl _)⟩,
(by(try dsimp only at *);exact rr)⟩,
⟨⟨(by(try dsimp only at *);exact Nat.le_refl _)⟩,
(by(try dsimp only at *);exact rr)⟩,
⟨⟨(by(try dsimp only at *);exact Nat.le_refl _)⟩,
(by(try dsimp only at *);exact rr)⟩,trivial⟩,
(e5),
(by(try dsimp only at *);exact e5_ok),
⟨⟨rfl,rfl⟩,trivial⟩,
⟨⟨⟨rfl,rfl⟩,
⟨rfl,
(by(try dsimp only at *);rfl)⟩,
⟨rfl,
(by(try dsimp only at *);rfl)⟩,
⟨rfl,
(by(try dsimp only at *);rfl)⟩,
⟨rfl,
(by(try dsimp only at *);rfl)⟩,
(by(try dsimp only at *);assumption),trivial⟩,
⟨rl,
(by(try dsimp only at *);exact rr)⟩,
⟨⟨(by(try dsimp only at *);exact Nat.le_refl _)⟩,
(by(try dsimp only at *);exact rr)⟩,
⟨⟨(by(try dsimp only at *);exact Nat.le_refl _)⟩,
(by(try dsimp only at *);exact rr)⟩,
⟨⟨(by(try dsimp only at *);exact Nat.le_refl _)⟩,
(by(try dsimp only at *);exact rr)⟩,
⟨⟨(by(try dsimp only at *);exact Nat.le_refl _)⟩,
(by(try dsimp only at *);exact rr)⟩,trivial⟩,
fun g18=>have h18:=dT g18;⟨fun g19=>have h19:=dT g19;⟨fun g20=>have h20:=dT g20;⟨fun g21=>have h21:=dT g21;⟨fun g22=>have h22:=dT g22;⟨fun g23=>have h23:=dT g23;⟨({ m:=MS.up e5,v:=(9:Int):MNx }),
(by(try dsimp only at *);exact e5_ok),
⟨⟨rfl,rfl⟩,rfl,trivial⟩,
⟨⟨⟨rfl,rfl⟩,
⟨rfl,
(by(try dsimp only at *);rfl)⟩,
⟨rfl,
(by(try dsimp only at *);rfl)⟩,
⟨rfl,
(by(try dsimp only at *);rfl)⟩,
⟨rfl,
(by(try dsimp only at *);rfl)⟩,
(by(try dsimp only at *);assumption),trivial⟩,
⟨rl,
(by(try dsimp only at *);exact rr)⟩,
⟨⟨(by(try dsimp only at *);exact Nat.le_refl _)⟩,
(by(try dsimp only at *);exact rr)⟩,
⟨⟨(by(try dsimp only at *);exact Nat.le_refl _)⟩,
(by(try dsimp only at *);exact rr)⟩,
⟨⟨(by(try dsimp only at *);exact Nat.le_refl _)⟩,
(by(try dsimp only at *);exact rr)⟩,
⟨⟨(by(try dsimp only at *);exact Nat.le_refl _)⟩,
(by(try dsimp only at *);exact rr)⟩,trivial⟩,
(exW),
⟨(by(try dsimp only at *);exact ofW_ok _ _),
(by(try dsimp only at *);rfl)⟩,
⟨⟨(by(try dsimp only at *);rfl),trivial⟩,trivial⟩,
⟨⟨⟨(by(try dsimp only at *);exact Nat.le_refl _)⟩,
(by(try dsimp only at *);exact rr)⟩,trivial⟩,
(by(try dsimp only at *);exact beq_self_eq_true t01.toList),trivial⟩,
fun g26=>have h26:=dF g26;⟨(by(try dsimp only at *);exact absurd ex_2.2.2.2 ‹_›),trivial⟩⟩,
fun g27=>have h27:=dF g27;⟨(by(try dsimp only at *);exact absurd ex_2.2.2.1 ‹_›),trivial⟩⟩,
fun g28=>have h28:=dF g28;⟨(by(try dsimp only at *);exact absurd ex_1.1 ‹_›),trivial⟩⟩,
fun g29=>have h29:=dF g29;⟨(by(try dsimp only at *);exact absurd ex_1.2.2.2.2.2 ‹_›),trivial⟩⟩,
fun g30=>have h30:=dF g30;⟨(by(try dsimp only at *);exact absurd ex_1.2.2.2.2.2 ‹_›),trivial⟩⟩,
fun g31=>have h31:=dF g31;⟨(by(try dsimp only at *);exact absurd ex_1.2.2.2.2.1 ‹_›),trivial⟩⟩⟩,
fun g32=>have h32:=dT g32;⟨(by(try dsimp only at *);assumption),trivial⟩⟩,
fun g33=>have h33:=dT g33;⟨(by(try dsimp only at *);assumption),trivial⟩⟩⟩,
fun g34=>have h34:=dT g34;⟨(by(try dsimp only at *);omega),trivial⟩⟩)
theorem aw_good:Good Tryd.prog 9 awC/\FnOk Tryd.prog 9:=good_of tok conAw (fn:=Tryd.f9) rfl (by decide+kernel) (fun _=>rfl) aw_keeps
end Go.Sym
namespace Go.Sym
open Go.Proofs
set_option maxRecDepth 100000
structure LX where
 p:PLX
 a:Int
 b:Int
def LX.m (x:LX):MS:=plM x.p
def law10 (ar:LX->List SV) (b:Bool):CT:=⟨LX,fun x=>True/\plOk x.p=b,fun x=>plA x.p::ar x,fun x=>plH x.p,fun _=>.b true,fun _=>[]⟩
def CN10:List (Nat × Con):=[(8,.one plNC),(9,.one awC)]
def cfgLn:Cfg:=⟨T,[],CN10,noInv,20,{}⟩
theorem conLn:ConOk Tryd.prog cfgLn:=ConL.ok (.cons (ConL.one plN_good) (.cons (ConL.one aw_good) .nil))
structure SD where
 k:Nat
 dist:List Int
 so:List Int
 od:Bool
def yS (m:MS) (s:SD):MS:=⟨m.g,m.ts,m.src,s.dist,s.so,s.od⟩
def sD (k:Nat) (y:MS):SD:=⟨k,y.dist,y.so,y.od⟩
def lyB (s:Nat) (m:MS) (d:SD):List (Nat × Blk):=[(s+2000,.one .own [.p s 0 0,.sl (s+4000) 0 m.g.es.length,.sl (s+6000) 0 m.g.n,.sl 195 0 d.dist.length,.sl 196 0 d.so.length,.b d.od]),(s+4000,.rows .own k1 m.g.es.length (encL encI m.ts)),(s+6000,.rows .own kB m.g.n (encL encBo m.src)),
 (195,.rows .own k1 d.dist.length (encL encI d.dist)),(196,.rows .own k1 d.so.length (encL encI d.so))]
structure Alk (y m:MS):Prop where
 ok:MSok y
 g:y.g=m.g
 ts:y.ts=m.ts
 src:y.src=m.src
theorem Alk.rfl' {m:MS} (h:MSok m):Alk m m:=⟨h,rfl,rfl,rfl⟩
theorem Alk.dI {y m:MS} (h:Alk y m):y.dI=m.dI:=by unfold MS.dI;rw[h.g,h.ts,h.src]
theorem Alk.n {y m:MS} (h:Alk y m):y.g.n=m.g.n:=by rw[h.g]
theorem Alk.e {y m:MS} (h:Alk y m):y.g.es.length=m.g.es.length:=by rw[h.g]
theorem Alk.tm {y m:MS} (h:Alk y m) (v:Int):Alk (tmM y v) m:=by
 refine⟨tmM_ok h.ok v,?_,?_,?_⟩ <;>unfold tmM <;>split <;>first|exact h.g|exact h.ts|exact h.src
theorem Alk.d {y m:MS} (h:Alk y m) {v:Nat} (hv:v<m.g.n):tmD y v=m.dI.getD v default:=by
 unfold tmD
 have:inN1 y v=true:=decide_eq_true ⟨by omega,by rw[h.n];omega⟩
 rw[if_pos this,h.dI,Int.toNat_natCast]
theorem lm_ok {x:LX} (h:True/\plOk x.p=true):MSok x.m/\x.m.g=plG x.p/\((x.m.g.n:Nat):Int)=x.p.n:=by
 have:=plAt_ok h.2 x.p.acts.length
 exact⟨this.1,this.2,pm_n h.2 _⟩
theorem lm_l {x:LX} (h:True/\plOk x.p=true):x.m.g.es.length=x.p.es.length/\x.m.ts.length=x.m.g.es.length/\x.m.g.n<=12/\FXok (rF x.m):=⟨(pm_g h.2 _).1,(lm_ok h).1.ts,(lm_ok h).1.n,(lm_ok h).1.fx⟩
theorem yS_alk {m:MS} {s:SD} (h:MSok (yS m s)):Alk (yS m s) m:=⟨h,rfl,rfl,rfl⟩
theorem yS_of {y m:MS} (h:Alk y m) (k:Nat):yS m (sD k y)=y:=by
 obtain⟨_,h1,h2,h3⟩:=h
 unfold yS sD;rw[<- h1,<- h2,<- h3]
theorem yS_ok {y m:MS} (h:Alk y m) (k:Nat):MSok (yS m (sD k y)):=by rw[yS_of h];exact h.ok
theorem yS_tm {m:MS} {s:SD} (h:MSok (yS m s)) (v:Int) (k:Nat):MSok (yS m (sD k (tmM (yS m s) v))):=yS_ok ((yS_alk h).tm v) k
end Go.Sym
namespace Go.Sym
set_option linter.unusedVariables false
theorem findF_alk {y m:MS} (h:Alk y m) (d so:List Int) (v:Nat):findF y d so v=findF m d so v:=by
 have e:stepSo y d so v=stepSo m d so v:=by funext s i;unfold stepSo;rw[h.g,h.ts]
 unfold findF inN;rw[e,h.src,h.g]
theorem soF_alk {y m:MS} (h:Alk y m) (d:List Int):soF y d=soF m d:=by
 unfold soF
 congr 1
 funext so v
 rw[findF_alk h]
theorem Alk.s {y m:MS} (h:Alk y m) {v:Nat} (hv:v<m.g.n):tmS y v=(soF m m.dI).getD v default:=by
 unfold tmS
 have:inN1 y v=true:=decide_eq_true ⟨by omega,by rw[h.n];omega⟩
 rw[if_pos this,soF_alk h,h.dI,Int.toNat_natCast]
theorem swp_memI {l:List Int} {j:Nat} (h:j<l.length) (h1:1<=j) {x:Int} (hx:x∈l):x∈swp l j:=by
 obtain⟨i,hi,rfl⟩:=List.getElem_of_mem hx
 have g:∀ {k:Nat} (hk:k<l.length),l.getD k default=l[k]:=fun hk=>by rw[List.getD_eq_getElem?_getD,List.getElem?_eq_getElem hk];rfl
 unfold swp
 have hl:((l.set j (l.getD (j-1) default)).set (j-1) (l.getD j default)).length=l.length:=by simp
 by_cases a:i=j
 ·subst a
  have e:((l.set i (l.getD (i-1) default)).set (i-1) (l.getD i default))[i-1]'(by rw[hl];omega)=l[i]:=by
   rw[List.getElem_set_self,g hi]
  rw[<- e];exact List.getElem_mem _
 ·by_cases b:i=j-1
  ·subst b
   have e:((l.set j (l.getD (j-1) default)).set (j-1) (l.getD j default))[j]'(by rw[hl];exact h)=l[j-1]:=by
    rw[List.getElem_set_ne (by omega),List.getElem_set_self,g hi]
   rw[<- e];exact List.getElem_mem _
  ·have e:((l.set j (l.getD (j-1) default)).set (j-1) (l.getD j default))[i]'(by rw[hl];exact hi)=l[i]:=by
    rw[List.getElem_set_ne (by omega),List.getElem_set_ne (by omega)]
   rw[<- e];exact List.getElem_mem _
theorem bubF_memI (lt:Int->Int->Bool):∀(j:Nat) (l:List Int),j<l.length->∀ x∈l,x∈bubF lt j l
 |0,l,_,x,hx=>hx
 |j+1,l,h,x,hx=>by
  unfold bubF
  split
  ·exact bubF_memI lt j _ (by rw[swp_len];omega) x (swp_memI h (by omega) hx)
  ·exact hx
theorem insAt_memI (lt:Int->Int->Bool) (l:List Int):∀(i:Nat),i<=l.length->∀ x∈l,x∈insAt lt l i
 |0,_,x,hx=>hx
 |1,_,x,hx=>hx
 |i+2,h,x,hx=>by
  rw[insAt_succ lt l (by omega:1<=i+1)]
  exact bubF_memI lt (i+1) _ (by rw[insAt_len];omega) x (insAt_memI lt l (i+1) (by omega) x hx)
theorem insF_memI {lt:Int->Int->Bool} {l:List Int} {x:Int} (h:x∈l):x∈insF lt l:=insAt_memI lt l l.length (Nat.le_refl _) x h
theorem fold_keep {m:MS} {d:List Int} {v:Nat}:∀(l:List Int) (s:List Int),(∀ x∈l,x.toNat≠v)->(l.foldl (fun so v=>so.set v.toNat (findF m d so v.toNat)) s).getD v default=s.getD v default
 | [],s,_=>rfl
 |b::l,s,hn=>by
  rw[List.foldl_cons,fold_keep l _ (fun x hx=>hn x (List.mem_cons_of_mem _ hx))]
  rw[List.getD_eq_getElem?_getD,List.getElem?_set_ne (hn b (by simp)),List.getD_eq_getElem?_getD]
theorem so_get {m:MS} {d:List Int}:∀(l:List Int) (so:List Int) (v:Nat),so.length=d.length->v<d.length->(∃ x∈l,x.toNat=v)->∃ so':List Int,(l.foldl (fun so v=>so.set v.toNat (findF m d so v.toNat)) so).getD v default=findF m d so' v
 | [],so,v,_,_,h=>by obtain⟨x,hx,_⟩:=h;cases hx
 |a::l,so,v,hl,hv,h=>by
  rw[List.foldl_cons]
  by_cases q:∃ x∈l,x.toNat=v
  ·exact so_get l _ v (by rw[List.length_set];exact hl) hv q
  ·have ha:a.toNat=v:=by
    obtain⟨x,hx,e⟩:=h
    rcases List.mem_cons.1 hx with rfl|hx
    ·exact e
    ·exact absurd ⟨x,hx,e⟩ q
   refine⟨so,?_⟩
   rw[fold_keep l _ (fun x hx e=>q ⟨x,hx,e⟩),ha,List.getD_eq_getElem?_getD,List.getElem?_set_self (by omega)]
   rfl
theorem ndL_mem {d:List Int} {v:Nat} (hv:v<d.length) (h:d.getD v default≠4611686018427387904):(v:Int)∈ordL d:=by
 refine insF_memI ?_
 unfold ndL ndAt
 exact List.mem_map.2 ⟨v,List.mem_filter.2 ⟨List.mem_range.2 hv,decide_eq_true h⟩,rfl⟩
theorem so_at {m:MS} {d:List Int} {v:Nat} (hv:v<d.length) (h:d.getD v default≠4611686018427387904):∃ so':List Int,(soF m d).getD v default=findF m d so' v:=
 so_get (ordL d) _ v (by simp) hv ⟨v,ndL_mem hv h,by omega⟩
theorem dI_sol {m:MS} (h:MSok m):Sol (netG m.g (ttL m.ts m.g.es.length) true) (fun v=>isSrc (srcL m.src) v=true) m.dI:=distF_sol (netG_ok h.g (wsOk_tt m.g m.ts) true) _
theorem isSrc_i {l:List Int} {v:Nat}:isSrc l v=true↔(v:Int)∈l:=by
 unfold isSrc;rw[List.any_eq_true]
 constructor
 ·rintro⟨x,hx,e⟩;rw[beq_iff_eq]at e;exact e▸hx
 ·intro h;exact⟨_,h,by simp⟩
theorem src_self {m:MS} (h:MSok m) {s:Int} (hs:s∈srcL m.src):0<=s/\s<m.g.n/\m.dI.getD s.toNat default=0/\(soF m m.dI).getD s.toNat default=s:=by
 have hm:=srcL_mem.1 hs
 have hn:=h.src
 have hv:s.toNat<m.g.n:=by omega
 have e:((s.toNat:Nat):Int)=s:=by omega
 have h0:m.dI.getD s.toNat default=0:=(dI_sol h).src s.toNat hv (isSrc_i.2 (by rw[e];exact hs))
 refine⟨hm.1,by omega,h0,?_⟩
 obtain⟨so',q⟩:=so_at (m:=m) (by rw[h.dlen];exact hv) (by rw[h0];decide)
 rw[q];unfold findF;rw[if_pos hm.2.2,e]
end Go.Sym
namespace Go.Sym
set_option linter.unusedVariables false
set_option linter.unusedSimpArgs false
open Go.Proofs
set_option maxRecDepth 100000
set_option maxHeartbeats 4000000
def arT (x:LX):List SV:=[]
set_option maxRecDepth 100000 in
theorem tr_no:Keeps cfgLn Tryd.f3 (law10 arT false) noIv:=Eq.mp (show((∀ x1:LX,((True/\plOk x1.p=false)->(∃ x3:PLX,((plOk x3=false)/\(((x1.p.n=x3.n/\((0=0/\x1.p.es.length=x3.es.length)/\((0=0/\x1.p.ts.length=x3.ts.length)/\((0=0/\x1.p.acts.length=x3.acts.length)/\True))))/\True)/\((((RLe x3.es.length x1.p.es.length)/\(RowsEq [.int .i64,.int .i64,.int .i64] x3.es.length (encL encE x1.p.es) (encL encE x3.es)))/\(((RLe x3.ts.length x1.p.ts.length)/\(RI x3.ts.length x1.p.ts x3.ts))/\(((RLe x3.acts.length x1.p.acts.length)/\(RowsEq [.int .i64,.int .i64,.int .i64] x3.acts.length (encL encA x1.p.acts) (encL encA x3.acts)))/\True)))/\(∃ x4:Unit,(True/\(True/\(True/\(true=true/\True))))))))))))=(Keeps cfgLn Tryd.f3 (law10 arT false) noIv) by kernel_rfl) (fun x1=>fun h2=>⟨(LX.p x1),
(by(try dsimp only at *);grind),
⟨⟨rfl,
⟨rfl,rfl⟩,
⟨rfl,rfl⟩,
⟨rfl,rfl⟩,trivial⟩,trivial⟩,
⟨⟨rl,rr⟩,
⟨rl,rr⟩,
⟨rl,rr⟩,trivial⟩,
(default),trivial,trivial,trivial,rfl,trivial⟩)
def LX.src (x:LX):List Int:=srcL x.m.src
def trI (x:LX) (id:Nat):Option Inv:=match id with
 | 0 => some { X := SD, ok := fun s => s.k <= x.src.length /\ MSok (yS x.m s), fr := fun s => [(31, .i .i64 s.k), (3, .p 2018 0 0)], hp := fun s => lyB 18 x.m s, me := fun s => x.src.length - s.k,
               inn:=fun s id=>match id with
                |100047=>some (cutT 47 false)
                |_=>none }
 | 2 => some { X := SD, ok := fun s => s.k <= x.p.es.length /\ MSok (yS x.m s), fr := fun s => [(53, .i .i64 s.k), (3, .p 2018 0 0)], hp := fun s => lyB 18 x.m s, me := fun s => x.p.es.length - s.k,
               inn:=fun s id=>match id with
                |100092=>some (cutT 92 false)
                |_=>none }
 |_=>none
def CT10l:List (Nat × Con):=[(8,.one plYC),(9,.one awC),(11,.one timC),(10,.one srcsC)]
def cfgTi:Cfg:=⟨T,[],CT10l,noInv,17,{}⟩
theorem conTi:ConOk Tryd.prog cfgTi:=ConL.ok (.cons (ConL.one plY_good) (.cons (ConL.one aw_good) (.cons (ConL.one tim_good) (.cons (ConL.one srcs_good) .nil))))
theorem src_at {x:LX} {k:Nat} (hk:(k:Int)<x.src.length):x.src.getD k default∈srcL x.m.src:=by
 rw[List.getD_eq_getElem?_getD,List.getElem?_eq_getElem (by omega)];exact List.getElem_mem _
theorem tr_s {x:LX} (h:True/\plOk x.p=true) {s:SD} (hs:MSok (yS x.m s)) {k:Nat} (hk:(k:Int)<x.src.length):tmD (yS x.m s) (x.src.getD k default)=0/\tmS (yS x.m s) (x.src.getD k default)=x.src.getD k default:=by
 obtain⟨a,b,c,d⟩:=src_self (lm_ok h).1 (src_at hk)
 have e:(((x.src.getD k default).toNat:Nat):Int)=x.src.getD k default:=by omega
 have A:=yS_alk hs
 have h1:=A.d (v:=(x.src.getD k default).toNat) (by omega)
 have h2:=A.s (v:=(x.src.getD k default).toNat) (by omega)
 rw[e]at h1 h2
 exact⟨h1.trans c,h2.trans d⟩
def tY (x:LX) (s:SD):MS:=yS x.m (sD s.k (tmM (yS x.m s) (x.p.es.getD s.k default).f))
theorem tY_ok {x:LX} {s:SD} (h:MSok (yS x.m s)):MSok (tY x s):=yS_tm h _ _
structure TEx (x:LX) (s:SD):Prop where
 f:0<=(x.p.es.getD s.k default).f/\(x.p.es.getD s.k default).f<x.m.g.n
 lt:s.k<x.m.g.es.length
 d0:0<=tmD (yS x.m s) (x.p.es.getD s.k default).f/\tmD (yS x.m s) (x.p.es.getD s.k default).f<=4611686018427387904
 w:x.m.ts.getD s.k default=4611686018427387904∨(1<=x.m.ts.getD s.k default/\x.m.ts.getD s.k default<=1048576)
 tri:x.m.ts.getD s.k default<4611686018427387904->tmD (yS x.m s) (x.p.es.getD s.k default).f<4611686018427387904->tmD (tY x s) (x.p.es.getD s.k default).t<=tmD (yS x.m s) (x.p.es.getD s.k default).f+x.m.ts.getD s.k default
theorem tex {x:LX} (h:True/\plOk x.p=true) {s:SD} (hs:MSok (yS x.m s)) (hk:(s.k:Int)<x.p.es.length):TEx x s:=by
 obtain⟨hm,hg,hn⟩:=lm_ok h
 have hes:x.m.g.es=x.p.es:=congrArg Gr.es hg
 have hlt:s.k<x.m.g.es.length:=by rw[hes];omega
 have e:=hm.g.e s.k hlt
 unfold edOk at e
 rw[hes]at e
 have A:=yS_alk hs
 have B:Alk (tY x s) x.m:=yS_alk (tY_ok hs)
 have ef:(((x.p.es.getD s.k default).f.toNat:Nat):Int)=(x.p.es.getD s.k default).f:=by omega
 have et:(((x.p.es.getD s.k default).t.toNat:Nat):Int)=(x.p.es.getD s.k default).t:=by omega
 have h1:=A.d (v:=(x.p.es.getD s.k default).f.toNat) (by omega)
 have h2:=B.d (v:=(x.p.es.getD s.k default).t.toNat) (by omega)
 rw[ef]at h1
 rw[et]at h2
 have w:=hm.tv s.k (by rw[hm.ts];exact hlt)
 refine⟨by omega,hlt,by rw[h1];exact hm.drng (by omega),w,fun a b=>?_⟩
 rw[h1]at b ⊢
 rw[h2]
 have S:=dI_sol hm
 have ew:(netG x.m.g (ttL x.m.ts x.m.g.es.length) true).w s.k=x.m.ts.getD s.k default:=by
  show(ttL x.m.ts x.m.g.es.length).getD s.k default=_
  rw[ttL_at hlt,tt_yes ⟨by rw[hm.ts];exact hlt,by omega⟩]
 have c:=S.clo s.k hlt (by rw[ew];exact a) (by show at0 x.m.dI (x.m.g.es.getD s.k default).f.toNat<INF;rw[hes];exact b)
 rw[ew]at c
 have c:at0 x.m.dI (x.m.g.es.getD s.k default).t.toNat<=at0 x.m.dI (x.m.g.es.getD s.k default).f.toNat+_:=c
 rw[hes]at c
 exact c
set_option maxRecDepth 100000 in
theorem tr_yes:Keeps cfgTi Tryd.f3 (law10 arT true) trI:=Eq.mp (show((∀ x1:LX,((True/\plOk x1.p=true)->(∃ x3:PLX,((plOk x3=true)/\(((x1.p.n=x3.n/\((0=0/\x1.p.es.length=x3.es.length)/\((0=0/\x1.p.ts.length=x3.ts.length)/\((0=0/\x1.p.acts.length=x3.acts.length)/\True))))/\True)/\((((RLe x3.es.length x1.p.es.length)/\(RowsEq [.int .i64,.int .i64,.int .i64] x3.es.length (encL encE x1.p.es) (encL encE x3.es)))/\(((RLe x3.ts.length x1.p.ts.length)/\(RI x3.ts.length x1.p.ts x3.ts))/\(((RLe x3.acts.length x1.p.acts.length)/\(RowsEq [.int .i64,.int .i64,.int .i64] x3.acts.length (encL encA x1.p.acts) (encL encA x3.acts)))/\True)))/\(∃ x4:MS,((x4.src.length=x4.g.n/\(x4.g.n<=(12:Nat)))/\(((0=0/\0=0)/\True)/\((((0=0/\0=0)/\((0=0/\((plM x3).g.es.length=x4.g.es.length))/\((0=0/\((plM x3).g.n=x4.g.n))/\((0=0/\((plM x3).dist.length=x4.dist.length))/\((0=0/\((plM x3).so.length=x4.so.length))/\(((plM x3).od=x4.od)/\True))))))/\((RLe 1 1/\(RG (plM x3).g x4.g))/\(((RLe x4.g.es.length (plM x3).g.es.length)/\(RI x4.g.es.length (plM x3).ts x4.ts))/\(((RLe x4.g.n (plM x3).g.n)/\(RB x4.g.n (plM x3).src x4.src))/\(((RLe x4.dist.length (plM x3).dist.length)/\(RI x4.dist.length (plM x3).dist x4.dist))/\(((RLe x4.so.length (plM x3).so.length)/\(RI x4.so.length (plM x3).so x4.so))/\True))))))/\(∃ x5:SD,((((x5.k<=(LX.src x1).length)/\(MSok (yS (LX.m x1) x5)))/\(((0=(x5.k:Int))/\((0=0/\0=0)/\(((↑(srcL x4.src).length:Int)=(↑(srcL x4.src).length:Int))/\((0=0/\((srcL x4.src).length=(srcL x4.src).length))/\(true=true/\((0=0/\0=0)/\(((0=0/\0=0)/\((x3.n=x3.n/\((0=0/\((plM x3).g.es.length=(plM x3).g.es.length))/\((0=0/\((plM x3).g.es.length=(plM x3).g.es.length))/\((0=0/\((srcL (plM x3).src).length=(srcL (plM x3).src).length))/\True))))/\(true=true/\True)))/\((0=0/\0=0)/\((x1.p.n=x1.p.n/\((0=0/\x1.p.es.length=x1.p.es.length)/\((0=0/\x1.p.ts.length=x1.p.ts.length)/\((0=0/\x1.p.acts.length=x1.p.acts.length)/\True))))/\True)))))))))/\(((0=0/\0=0)/\((0=0/\((plM x3).g.es.length=(LX.m x1).g.es.length))/\((0=0/\((plM x3).g.n=(LX.m x1).g.n))/\((0=0/\((plM x3).dist.length=x5.dist.length))/\((0=0/\((plM x3).so.length=x5.so.length))/\(((plM x3).od=x5.od)/\True))))))/\(((RLe (LX.m x1).g.es.length (plM x3).g.es.length)/\(RowsEq [.int .i64] (LX.m x1).g.es.length (encL encI (plM x3).ts) (encL encI (LX.m x1).ts)))/\(((RLe (LX.m x1).g.n (plM x3).g.n)/\(RowsEq (Kd.bool::[]) (LX.m x1).g.n (encL encBo (plM x3).src) (encL encBo (LX.m x1).src)))/\(((RLe x5.dist.length (plM x3).dist.length)/\(RI x5.dist.length (plM x3).dist x5.dist))/\(((RLe x5.so.length (plM x3).so.length)/\(RI x5.so.length (plM x3).so x5.so))/\(((RLe (srcL x4.src).length (srcL x4.src).length)/\(RowsEq [.int .i64] (srcL x4.src).length (encL encI (srcL x4.src)) (encL encI (srcL x4.src))))/\((x3.n=x3.n/\((0=0/\((plM x3).g.es.length=(plM x3).g.es.length))/\((0=0/\((plM x3).g.es.length=(plM x3).g.es.length))/\((0=0/\((srcL (plM x3).src).length=(srcL (plM x3).src).length))/\True))))/\((RLe 1 1/\(RG (plM x3).g (plM x3).g))/\(((RLe (plM x3).g.es.length (plM x3).g.es.length)/\(RowsEq [.int .i64] (plM x3).g.es.length (encL encI (plM x3).ts) (encL encI (plM x3).ts)))/\(((RLe (srcL (plM x3).src).length (srcL (plM x3).src).length)/\(RowsEq [.int .i64] (srcL (plM x3).src).length (encL encI (srcL (plM x3).src)) (encL encI (srcL (plM x3).src))))/\((x1.p.n=x1.p.n/\((0=0/\x1.p.es.length=x1.p.es.length)/\((0=0/\x1.p.ts.length=x1.p.ts.length)/\((0=0/\x1.p.acts.length=x1.p.acts.length)/\True))))/\(((RLe x1.p.es.length x1.p.es.length)/\(RowsEq [.int .i64,.int .i64,.int .i64] x1.p.es.length (encL encE x1.p.es) (encL encE x1.p.es)))/\(((RLe x1.p.ts.length x1.p.ts.length)/\(RI x1.p.ts.length x1.p.ts x1.p.ts))/\(((RLe x1.p.acts.length x1.p.acts.length)/\(RowsEq [.int .i64,.int .i64,.int .i64] x1.p.acts.length (encL encA x1.p.acts) (encL encA x1.p.acts)))/\True))))))))))))))))/\(∀ x6:SD,((x6.k<=(LX.src x1).length/\MSok (yS (LX.m x1) x6))->(((decide ((x6.k:Int)<(↑(srcL x4.src).length:Int))=true)->((((0:Int)<=(x6.k:Int))/\((x6.k:Int)<(↑(srcL x4.src).length:Int)))/\((0+Int.toNat (x6.k:Int)<(srcL x4.src).length)/\(∃ x9:MNx,((MSok x9.m)/\(((0=0/\0=0)/\(((srcL x4.src).getD (0+Int.toNat (x6.k:Int)) default=x9.v)/\True))/\((((0=0/\0=0)/\((0=0/\((LX.m x1).g.es.length=x9.m.g.es.length))/\((0=0/\((LX.m x1).g.n=x9.m.g.n))/\((0=0/\x6.dist.length=x9.m.dist.length)/\((0=0/\x6.so.length=x9.m.so.length)/\(x6.od=x9.m.od/\True))))))/\((RLe 1 1/\(RG (plM x3).g x9.m.g))/\(((RLe x9.m.g.es.length (LX.m x1).g.es.length)/\(RI x9.m.g.es.length (LX.m x1).ts x9.m.ts))/\(((RLe x9.m.g.n (LX.m x1).g.n)/\(RB x9.m.g.n (LX.m x1).src x9.m.src))/\(((RLe x9.m.dist.length x6.dist.length)/\(RI x9.m.dist.length x6.dist x9.m.dist))/\(((RLe x9.m.so.length x6.so.length)/\(RI x9.m.so.length x6.so x9.m.so))/\True))))))/\((((decide (tmD x9.m x9.v≠(0:Int))=false)->(∃ x11:Unit,(True/\((decide (tmS x9.m x9.v≠(srcL x4.src).getD (0+Int.toNat (x6.k:Int)) default)=false)/\True))))/\((decide (tmD x9.m x9.v≠(0:Int))=true)->(∃ x13:Unit,(True/\(true=false/\True)))))/\(∀ x14:Unit,(True->((((-9223372036854775808:Int)<=(x6.k:Int)+1)/\((x6.k:Int)+1<=(9223372036854775807:Int)))/\(∃ x16:SD,(((LX.src x1).length-x16.k<(LX.src x1).length-x6.k)/\(((x16.k<=(LX.src x1).length)/\(MSok (yS (LX.m x1) x16)))/\((((x6.k:Int)+1=(x16.k:Int))/\((0=0/\0=0)/\(((↑(srcL x4.src).length:Int)=(↑(srcL x4.src).length:Int))/\((0=0/\((srcL x4.src).length=(srcL x4.src).length))/\(true=true/\((0=0/\0=0)/\(((0=0/\0=0)/\((x3.n=x3.n/\((0=0/\((plM x3).g.es.length=(plM x3).g.es.length))/\((0=0/\((plM x3).g.es.length=(plM x3).g.es.length))/\((0=0/\((srcL (plM x3).src).length=(srcL (plM x3).src).length))/\True))))/\(true=true/\True)))/\((0=0/\0=0)/\((x1.p.n=x1.p.n/\((0=0/\x1.p.es.length=x1.p.es.length)/\((0=0/\x1.p.ts.length=x1.p.ts.length)/\((0=0/\x1.p.acts.length=x1.p.acts.length)/\True))))/\True)))))))))/\(((0=0/\0=0)/\((0=0/\(x9.m.g.es.length=(LX.m x1).g.es.length))/\((0=0/\(x9.m.g.n=(LX.m x1).g.n))/\((0=0/\((tmM x9.m x9.v).dist.length=x16.dist.length))/\((0=0/\((tmM x9.m x9.v).so.length=x16.so.length))/\(((tmM x9.m x9.v).od=x16.od)/\True))))))/\(((RLe (LX.m x1).g.es.length (LX.m x1).g.es.length)/\(RowsEq [.int .i64] (LX.m x1).g.es.length (encL encI (LX.m x1).ts) (encL encI (LX.m x1).ts)))/\(((RLe (LX.m x1).g.n (LX.m x1).g.n)/\(RowsEq (Kd.bool::[]) (LX.m x1).g.n (encL encBo (LX.m x1).src) (encL encBo (LX.m x1).src)))/\(((RLe x16.dist.length (tmM x9.m x9.v).dist.length)/\(RI x16.dist.length (tmM x9.m x9.v).dist x16.dist))/\(((RLe x16.so.length (tmM x9.m x9.v).so.length)/\(RI x16.so.length (tmM x9.m x9.v).so x16.so))/\(((RLe (srcL x4.src).length (srcL x4.src).length)/\(RowsEq [.int .i64] (srcL x4.src).length (encL encI (srcL x4.src)) (encL encI (srcL x4.src))))/\((x3.n=x3.n/\((0=0/\((plM x3).g.es.length=(plM x3).g.es.length))/\((0=0/\((plM x3).g.es.length=(plM x3).g.es.length))/\((0=0/\((srcL (plM x3).src).length=(srcL (plM x3).src).length))/\True))))/\((RLe 1 1/\(RG (plM x3).g (plM x3).g))/\(((RLe (plM x3).g.es.length (plM x3).g.es.length)/\(RowsEq [.int .i64] (plM x3).g.es.length (encL encI (plM x3).ts) (encL encI (plM x3).ts)))/\(((RLe (srcL (plM x3).src).length (srcL (plM x3).src).length)/\(RowsEq [.int .i64] (srcL (plM x3).src).length (encL encI (srcL (plM x3).src)) (encL encI (srcL (plM x3).src))))/\((x1.p.n=x1.p.n/\((0=0/\x1.p.es.length=x1.p.es.length)/\((0=0/\x1.p.ts.length=x1.p.ts.length)/\((0=0/\x1.p.acts.length=x1.p.acts.length)/\True))))/\(((RLe x1.p.es.length x1.p.es.length)/\(RowsEq [.int .i64,.int .i64,.int .i64] x1.p.es.length (encL encE x1.p.es) (encL encE x1.p.es)))/\(((RLe x1.p.ts.length x1.p.ts.length)/\(RI x1.p.ts.length x1.p.ts x1.p.ts))/\(((RLe x1.p.acts.length x1.p.acts.length)/\(RowsEq [.int .i64,.int .i64,.int .i64] x1.p.acts.length (encL encA x1.p.acts) (encL encA x1.p.acts)))/\True)))))))))))))))))))))))))))))/\((decide ((x6.k:Int)<(↑(srcL x4.src).length:Int))=false)->(∃ x18:SD,((((x18.k<=x1.p.es.length)/\(MSok (yS (LX.m x1) x18)))/\(((0=(x18.k:Int))/\((0=0/\0=0)/\(((x1.p.es.length:Int)=(x1.p.es.length:Int))/\((0=0/\x1.p.es.length=x1.p.es.length)/\(true=true/\((0=0/\0=0)/\(((0=0/\0=0)/\((x3.n=x3.n/\((0=0/\((plM x3).g.es.length=(plM x3).g.es.length))/\((0=0/\((plM x3).g.es.length=(plM x3).g.es.length))/\((0=0/\((srcL (plM x3).src).length=(srcL (plM x3).src).length))/\True))))/\(true=true/\True)))/\((0=0/\0=0)/\((x1.p.n=x1.p.n/\((0=0/\x1.p.es.length=x1.p.es.length)/\((0=0/\x1.p.ts.length=x1.p.ts.length)/\((0=0/\x1.p.acts.length=x1.p.acts.length)/\True))))/\True)))))))))/\(((0=0/\0=0)/\((0=0/\((LX.m x1).g.es.length=(LX.m x1).g.es.length))/\((0=0/\((LX.m x1).g.n=(LX.m x1).g.n))/\((0=0/\x6.dist.length=x18.dist.length)/\((0=0/\x6.so.length=x18.so.length)/\(x6.od=x18.od/\True))))))/\(((RLe (LX.m x1).g.es.length (LX.m x1).g.es.length)/\(RowsEq [.int .i64] (LX.m x1).g.es.length (encL encI (LX.m x1).ts) (encL encI (LX.m x1).ts)))/\(((RLe (LX.m x1).g.n (LX.m x1).g.n)/\(RowsEq (Kd.bool::[]) (LX.m x1).g.n (encL encBo (LX.m x1).src) (encL encBo (LX.m x1).src)))/\(((RLe x18.dist.length x6.dist.length)/\(RI x18.dist.length x6.dist x18.dist))/\(((RLe x18.so.length x6.so.length)/\(RI x18.so.length x6.so x18.so))/\(((RLe (srcL x4.src).length (srcL x4.src).length)/\(RowsEq [.int .i64] (srcL x4.src).length (encL encI (srcL x4.src)) (encL encI (srcL x4.src))))/\((x3.n=x3.n/\((0=0/\((plM x3).g.es.length=(plM x3).g.es.length))/\((0=0/\((plM x3).g.es.length=(plM x3).g.es.length))/\((0=0/\((srcL (plM x3).src).length=(srcL (plM x3).src).length))/\True))))/\((RLe 1 1/\(RG (plM x3).g (plM x3).g))/\(((RLe (plM x3).g.es.length (plM x3).g.es.length)/\(RowsEq [.int .i64] (plM x3).g.es.length (encL encI (plM x3).ts) (encL encI (plM x3).ts)))/\(((RLe (srcL (plM x3).src).length (srcL (plM x3).src).length)/\(RowsEq [.int .i64] (srcL (plM x3).src).length (encL encI (srcL (plM x3).src)) (encL encI (srcL (plM x3).src))))/\((x1.p.n=x1.p.n/\((0=0/\x1.p.es.length=x1.p.es.length)/\((0=0/\x1.p.ts.length=x1.p.ts.length)/\((0=0/\x1.p.acts.length=x1.p.acts.length)/\True))))/\(((RLe x1.p.es.length x1.p.es.length)/\(RowsEq [.int .i64,.int .i64,.int .i64] x1.p.es.length (encL encE x1.p.es) (encL encE x1.p.es)))/\(((RLe x1.p.ts.length x1.p.ts.length)/\(RI x1.p.ts.length x1.p.ts x1.p.ts))/\(((RLe x1.p.acts.length x1.p.acts.length)/\(RowsEq [.int .i64,.int .i64,.int .i64] x1.p.acts.length (encL encA x1.p.acts) (encL encA x1.p.acts)))/\True))))))))))))))))/\(∀ x19:SD,((x19.k<=x1.p.es.length/\MSok (yS (LX.m x1) x19))->(((decide ((x19.k:Int)<(x1.p.es.length:Int))=true)->((((0:Int)<=(x19.k:Int))/\((x19.k:Int)<(x1.p.es.length:Int)))/\((0+Int.toNat (x19.k:Int)<x1.p.es.length)/\(∃ x22:MNx,((MSok x22.m)/\(((0=0/\0=0)/\(((x1.p.es.getD (0+Int.toNat (x19.k:Int)) default).f=x22.v)/\True))/\((((0=0/\0=0)/\((0=0/\((LX.m x1).g.es.length=x22.m.g.es.length))/\((0=0/\((LX.m x1).g.n=x22.m.g.n))/\((0=0/\x19.dist.length=x22.m.dist.length)/\((0=0/\x19.so.length=x22.m.so.length)/\(x19.od=x22.m.od/\True))))))/\((RLe 1 1/\(RG (plM x3).g x22.m.g))/\(((RLe x22.m.g.es.length (LX.m x1).g.es.length)/\(RI x22.m.g.es.length (LX.m x1).ts x22.m.ts))/\(((RLe x22.m.g.n (LX.m x1).g.n)/\(RB x22.m.g.n (LX.m x1).src x22.m.src))/\(((RLe x22.m.dist.length x19.dist.length)/\(RI x22.m.dist.length x19.dist x22.m.dist))/\(((RLe x22.m.so.length x19.so.length)/\(RI x22.m.so.length x19.so x22.m.so))/\True))))))/\(∃ x23:MNx,((MSok x23.m)/\(((0=0/\0=0)/\(((x1.p.es.getD (0+Int.toNat (x19.k:Int)) default).t=x23.v)/\True))/\((((0=0/\0=0)/\((0=0/\x22.m.g.es.length=x23.m.g.es.length)/\((0=0/\x22.m.g.n=x23.m.g.n)/\((0=0/\((tmM x22.m x22.v).dist.length=x23.m.dist.length))/\((0=0/\((tmM x22.m x22.v).so.length=x23.m.so.length))/\(((tmM x22.m x22.v).od=x23.m.od)/\True))))))/\((RLe 1 1/\(RG (plM x3).g x23.m.g))/\(((RLe x23.m.g.es.length (LX.m x1).g.es.length)/\(RI x23.m.g.es.length (LX.m x1).ts x23.m.ts))/\(((RLe x23.m.g.n (LX.m x1).g.n)/\(RB x23.m.g.n (LX.m x1).src x23.m.src))/\(((RLe x23.m.dist.length (tmM x22.m x22.v).dist.length)/\(RI x23.m.dist.length (tmM x22.m x22.v).dist x23.m.dist))/\(((RLe x23.m.so.length (tmM x22.m x22.v).so.length)/\(RI x23.m.so.length (tmM x22.m x22.v).so x23.m.so))/\True))))))/\(((((0:Int)<=(x19.k:Int))/\((x19.k:Int)<(↑(plM x3).g.es.length:Int)))/\((0+Int.toNat (x19.k:Int)<(plM x3).g.es.length)/\(((decide ((plM x3).ts.getD (0+Int.toNat (x19.k:Int)) default<4611686018427387904)=true)->(((decide (tmD x22.m x22.v<(4611686018427387904:Int))=true)->((((0:Int)<=(x19.k:Int))/\((x19.k:Int)<(↑(plM x3).g.es.length:Int)))/\((0+Int.toNat (x19.k:Int)<(plM x3).g.es.length)/\((((-9223372036854775808:Int)<=tmD x22.m x22.v+(plM x3).ts.getD (0+Int.toNat (x19.k:Int)) default)/\(tmD x22.m x22.v+(plM x3).ts.getD (0+Int.toNat (x19.k:Int)) default<=(9223372036854775807:Int)))/\(∃ x26:Unit,(True/\((decide (tmD x22.m x22.v+(plM x3).ts.getD (0+Int.toNat (x19.k:Int)) default<tmD x23.m x23.v)=false)/\True)))))))/\((decide (tmD x22.m x22.v<(4611686018427387904:Int))=false)->(∃ x28:Unit,(True/\(false=false/\True))))))/\((decide ((plM x3).ts.getD (0+Int.toNat (x19.k:Int)) default<4611686018427387904)=false)->(∃ x30:Unit,(True/\(false=false/\True)))))))/\(∀ x31:Unit,(True->((((-9223372036854775808:Int)<=(x19.k:Int)+1)/\((x19.k:Int)+1<=(9223372036854775807:Int)))/\(∃ x33:SD,((x1.p.es.length-x33.k<x1.p.es.length-x19.k)/\(((x33.k<=x1.p.es.length)/\(MSok (yS (LX.m x1) x33)))/\((((x19.k:Int)+1=(x33.k:Int))/\((0=0/\0=0)/\(((x1.p.es.length:Int)=(x1.p.es.length:Int))/\((0=0/\x1.p.es.length=x1.p.es.length)/\(true=true/\((0=0/\0=0)/\(((0=0/\0=0)/\((x3.n=x3.n/\((0=0/\((plM x3).g.es.length=(plM x3).g.es.length))/\((0=0/\((plM x3).g.es.length=(plM x3).g.es.length))/\((0=0/\((srcL (plM x3).src).length=(srcL (plM x3).src).length))/\True))))/\(true=true/\True)))/\((0=0/\0=0)/\((x1.p.n=x1.p.n/\((0=0/\x1.p.es.length=x1.p.es.length)/\((0=0/\x1.p.ts.length=x1.p.ts.length)/\((0=0/\x1.p.acts.length=x1.p.acts.length)/\True))))/\True)))))))))/\(((0=0/\0=0)/\((0=0/\(x23.m.g.es.length=(LX.m x1).g.es.length))/\((0=0/\(x23.m.g.n=(LX.m x1).g.n))/\((0=0/\((tmM x23.m x23.v).dist.length=x33.dist.length))/\((0=0/\((tmM x23.m x23.v).so.length=x33.so.length))/\(((tmM x23.m x23.v).od=x33.od)/\True))))))/\(((RLe (LX.m x1).g.es.length (LX.m x1).g.es.length)/\(RowsEq [.int .i64] (LX.m x1).g.es.length (encL encI (LX.m x1).ts) (encL encI (LX.m x1).ts)))/\(((RLe (LX.m x1).g.n (LX.m x1).g.n)/\(RowsEq (Kd.bool::[]) (LX.m x1).g.n (encL encBo (LX.m x1).src) (encL encBo (LX.m x1).src)))/\(((RLe x33.dist.length (tmM x23.m x23.v).dist.length)/\(RI x33.dist.length (tmM x23.m x23.v).dist x33.dist))/\(((RLe x33.so.length (tmM x23.m x23.v).so.length)/\(RI x33.so.length (tmM x23.m x23.v).so x33.so))/\(((RLe (srcL x4.src).length (srcL x4.src).length)/\(RowsEq [.int .i64] (srcL x4.src).length (encL encI (srcL x4.src)) (encL encI (srcL x4.src))))/\((x3.n=x3.n/\((0=0/\((plM x3).g.es.length=(plM x3).g.es.length))/\((0=0/\((plM x3).g.es.length=(plM x3).g.es.length))/\((0=0/\((srcL (plM x3).src).length=(srcL (plM x3).src).length))/\True))))/\((RLe 1 1/\(RG (plM x3).g (plM x3).g))/\(((RLe (plM x3).g.es.length (plM x3).g.es.length)/\(RowsEq [.int .i64] (plM x3).g.es.length (encL encI (plM x3).ts) (encL encI (plM x3).ts)))/\(((RLe (srcL (plM x3).src).length (srcL (plM x3).src).length)/\(RowsEq [.int .i64] (srcL (plM x3).src).length (encL encI (srcL (plM x3).src)) (encL encI (srcL (plM x3).src))))/\((x1.p.n=x1.p.n/\((0=0/\x1.p.es.length=x1.p.es.length)/\((0=0/\x1.p.ts.length=x1.p.ts.length)/\((0=0/\x1.p.acts.length=x1.p.acts.length)/\True))))/\(((RLe x1.p.es.length x1.p.es.length)/\(RowsEq [.int .i64,.int .i64,.int .i64] x1.p.es.length (encL encE x1.p.es) (encL encE x1.p.es)))/\(((RLe x1.p.ts.length x1.p.ts.length)/\(RI x1.p.ts.length x1.p.ts x1.p.ts))/\(((RLe x1.p.acts.length x1.p.acts.length)/\(RowsEq [.int .i64,.int .i64,.int .i64] x1.p.acts.length (encL encA x1.p.acts) (encL encA x1.p.acts)))/\True)))))))))))))))))))))))))))))))))/\((decide ((x19.k:Int)<(x1.p.es.length:Int))=false)->(∃ x35:Unit,(True/\(True/\(True/\(true=true/\True))))))))))))))))))))))))))))=(Keeps cfgTi Tryd.f3 (law10 arT true) trI) by kernel_rfl) (fun x1=>fun h2=>⟨(LX.p x1),
(by(try dsimp only at *);grind),
⟨⟨rfl,
⟨rfl,rfl⟩,
⟨rfl,rfl⟩,
⟨rfl,rfl⟩,trivial⟩,trivial⟩,
⟨⟨rl,rr⟩,
⟨rl,rr⟩,
⟨rl,rr⟩,trivial⟩,
(LX.m x1),
⟨(by(try dsimp only at *);exact(lm_ok h2).1.src),
(by(try dsimp only at *);exact(lm_l h2).2.2.1)⟩,
⟨⟨rfl,rfl⟩,trivial⟩,
⟨⟨⟨rfl,rfl⟩,
⟨rfl,
(by(try dsimp only at *);rfl)⟩,
⟨rfl,
(by(try dsimp only at *);rfl)⟩,
⟨rfl,
(by(try dsimp only at *);rfl)⟩,
⟨rfl,
(by(try dsimp only at *);rfl)⟩,
(by(try dsimp only at *);rfl),trivial⟩,
⟨rl,
(by(try dsimp only at *);exact rr)⟩,
⟨⟨(by(try dsimp only at *);exact Nat.le_refl _)⟩,
(by(try dsimp only at *);exact rr)⟩,
⟨⟨(by(try dsimp only at *);exact Nat.le_refl _)⟩,
(by(try dsimp only at *);exact rr)⟩,
⟨⟨(by(try dsimp only at *);exact Nat.le_refl _)⟩,
(by(try dsimp only at *);exact rr)⟩,
⟨⟨(by(try dsimp only at *);exact Nat.le_refl _)⟩,
(by(try dsimp only at *);exact rr)⟩,trivial⟩,
({ k:=(0:Nat),dist:=MS.dist (plM (LX.p x1)),so:=MS.so (plM (LX.p x1)),od:=MS.od (plM (LX.p x1)):SD }),
⟨⟨(by(try dsimp only at *);omega),
(by(try dsimp only at *);exact(lm_ok h2).1)⟩,
⟨(by(try dsimp only at *);omega),
⟨rfl,rfl⟩,rfl,
⟨rfl,rfl⟩,rfl,
⟨rfl,rfl⟩,
⟨⟨rfl,rfl⟩,
⟨rfl,
⟨rfl,rfl⟩,
⟨rfl,rfl⟩,
⟨rfl,rfl⟩,trivial⟩,rfl,trivial⟩,
⟨rfl,rfl⟩,
⟨rfl,
⟨rfl,rfl⟩,
⟨rfl,rfl⟩,
⟨rfl,rfl⟩,trivial⟩,trivial⟩,
⟨⟨rfl,rfl⟩,
⟨rfl,
(by(try dsimp only at *);rfl)⟩,
⟨rfl,
(by(try dsimp only at *);rfl)⟩,
⟨rfl,rfl⟩,
⟨rfl,rfl⟩,rfl,trivial⟩,
⟨⟨(by(try dsimp only at *);exact Nat.le_refl _)⟩,
(by(try dsimp only at *);exact rr)⟩,
⟨⟨(by(try dsimp only at *);exact Nat.le_refl _)⟩,
(by(try dsimp only at *);exact rr)⟩,
⟨rl,rr⟩,
⟨rl,rr⟩,
⟨rl,rr⟩,
⟨rfl,
⟨rfl,rfl⟩,
⟨rfl,rfl⟩,
⟨rfl,rfl⟩,trivial⟩,
⟨rl,rr⟩,
⟨rl,rr⟩,
⟨rl,rr⟩,
⟨rfl,
⟨rfl,rfl⟩,
⟨rfl,rfl⟩,
⟨rfl,rfl⟩,trivial⟩,
⟨rl,rr⟩,
⟨rl,rr⟩,
⟨rl,rr⟩,trivial⟩,
fun x6=>fun h7=>⟨fun g8=>have h8:=dT g8;⟨⟨(by(try dsimp only at *);omega),
(by(try dsimp only at *);omega)⟩,
(by(try dsimp only at *);omega),
({ m:=yS (LX.m x1) x6,v:=List.getD (LX.src x1) (SD.k x6) default:MNx }),
(by(try dsimp only at *);grind),
⟨⟨rfl,rfl⟩,
(by(try dsimp only at *);(simp only[nat0]at *;rfl)),trivial⟩,
⟨⟨⟨rfl,rfl⟩,
⟨rfl,
(by(try dsimp only at *);rfl)⟩,
⟨rfl,
(by(try dsimp only at *);rfl)⟩,
⟨rfl,
(by(try dsimp only at *);rfl)⟩,
⟨rfl,
(by(try dsimp only at *);rfl)⟩,
(by(try dsimp only at *);rfl),trivial⟩,
⟨rl,
(by(try dsimp only at *);exact rr)⟩,
⟨⟨(by(try dsimp only at *);exact Nat.le_refl _)⟩,
(by(try dsimp only at *);exact rr)⟩,
⟨⟨(by(try dsimp only at *);exact Nat.le_refl _)⟩,
(by(try dsimp only at *);exact rr)⟩,
⟨⟨(by(try dsimp only at *);exact Nat.le_refl _)⟩,
(by(try dsimp only at *);exact rr)⟩,
⟨⟨(by(try dsimp only at *);exact Nat.le_refl _)⟩,
(by(try dsimp only at *);exact rr)⟩,trivial⟩,
⟨fun g10=>have h10:=dF g10;⟨(default),trivial,
(by(try dsimp only at *);exact decide_eq_false (fun q=>q (by simp only[nat0];exact(tr_s h2 h7.2 h8).2))),trivial⟩,
fun g12=>have h12:=dT g12;⟨(default),trivial,
(by(try dsimp only at *);(have:=(tr_s h2 h7.2 h8).1;exact absurd this ‹_›)),trivial⟩⟩,
fun x14=>fun h15=>⟨⟨(by(try dsimp only at *);omega),
(by(try dsimp only at *);(have:x1.src.length<=12:=Nat.le_trans (srcL_len _) (by rw[(lm_ok h2).1.src];exact(lm_l h2).2.2.1);have:(x6.k:Int)<x1.src.length:=h8;first|omega|(show x1.src.length-(x6.k+1)<x1.src.length-x6.k;omega)|(show x6.k+1<=x1.src.length;omega)))⟩,
(sD (SD.k x6+(1:Nat)) (tmM (yS (LX.m x1) x6) (List.getD (LX.src x1) (SD.k x6) default))),
(by(try dsimp only at *);(have:x1.src.length<=12:=Nat.le_trans (srcL_len _) (by rw[(lm_ok h2).1.src];exact(lm_l h2).2.2.1);have:(x6.k:Int)<x1.src.length:=h8;first|omega|(show x1.src.length-(x6.k+1)<x1.src.length-x6.k;omega)|(show x6.k+1<=x1.src.length;omega))),
⟨(by(try dsimp only at *);(have:x1.src.length<=12:=Nat.le_trans (srcL_len _) (by rw[(lm_ok h2).1.src];exact(lm_l h2).2.2.1);have:(x6.k:Int)<x1.src.length:=h8;first|omega|(show x1.src.length-(x6.k+1)<x1.src.length-x6.k;omega)|(show x6.k+1<=x1.src.length;omega))),
(by(try dsimp only at *);exact yS_tm h7.2 _ _)⟩,
⟨(by(try dsimp only at *);rfl),
⟨rfl,rfl⟩,rfl,
⟨rfl,rfl⟩,rfl,
⟨rfl,rfl⟩,
⟨⟨rfl,rfl⟩,
⟨rfl,
⟨rfl,rfl⟩,
⟨rfl,rfl⟩,
⟨rfl,rfl⟩,trivial⟩,rfl,trivial⟩,
⟨rfl,rfl⟩,
⟨rfl,
⟨rfl,rfl⟩,
⟨rfl,rfl⟩,
⟨rfl,rfl⟩,trivial⟩,trivial⟩,
⟨⟨rfl,rfl⟩,
⟨rfl,
(by(try dsimp only at *);rfl)⟩,
⟨rfl,
(by(try dsimp only at *);rfl)⟩,
⟨rfl,
(by(try dsimp only at *);rfl)⟩,
⟨rfl,
(by(try dsimp only at *);rfl)⟩,
(by(try dsimp only at *);rfl),trivial⟩,
⟨rl,rr⟩,
⟨rl,rr⟩,
⟨⟨(by(try dsimp only at *);exact Nat.le_refl _)⟩,
(by(try dsimp only at *);exact rr)⟩,
⟨⟨(by(try dsimp only at *);exact Nat.le_refl _)⟩,
(by(try dsimp only at *);exact rr)⟩,
⟨rl,rr⟩,
⟨rfl,
⟨rfl,rfl⟩,
⟨rfl,rfl⟩,
⟨rfl,rfl⟩,trivial⟩,
⟨rl,rr⟩,
⟨rl,rr⟩,
⟨rl,rr⟩,
⟨rfl,
⟨rfl,rfl⟩,
⟨rfl,rfl⟩,
⟨rfl,rfl⟩,trivial⟩,
⟨rl,rr⟩,
⟨rl,rr⟩,
⟨rl,rr⟩,trivial⟩⟩,
fun g17=>have h17:=dF g17;⟨({ k:=(0:Nat),dist:=SD.dist x6,so:=SD.so x6,od:=SD.od x6:SD }),
⟨⟨(by(try dsimp only at *);omega),
(by(try dsimp only at *);exact h7.2)⟩,
⟨(by(try dsimp only at *);omega),
⟨rfl,rfl⟩,rfl,
⟨rfl,rfl⟩,rfl,
⟨rfl,rfl⟩,
⟨⟨rfl,rfl⟩,
⟨rfl,
⟨rfl,rfl⟩,
⟨rfl,rfl⟩,
⟨rfl,rfl⟩,trivial⟩,rfl,trivial⟩,
⟨rfl,rfl⟩,
⟨rfl,
⟨rfl,rfl⟩,
⟨rfl,rfl⟩,
⟨rfl,rfl⟩,trivial⟩,trivial⟩,
⟨⟨rfl,rfl⟩,
⟨rfl,rfl⟩,
⟨rfl,rfl⟩,
⟨rfl,rfl⟩,
⟨rfl,rfl⟩,rfl,trivial⟩,
⟨rl,rr⟩,
⟨rl,rr⟩,
⟨rl,rr⟩,
⟨rl,rr⟩,
⟨rl,rr⟩,
⟨rfl,
⟨rfl,rfl⟩,
⟨rfl,rfl⟩,
⟨rfl,rfl⟩,trivial⟩,
⟨rl,rr⟩,
⟨rl,rr⟩,
⟨rl,rr⟩,
⟨rfl,
⟨rfl,rfl⟩,
⟨rfl,rfl⟩,
⟨rfl,rfl⟩,trivial⟩,
⟨rl,rr⟩,
⟨rl,rr⟩,
⟨rl,rr⟩,trivial⟩,
fun x19=>fun h20=>⟨fun g21=>have h21:=dT g21;⟨⟨(by(try dsimp only at *);omega),
(by(try dsimp only at *);omega)⟩,
(by(try dsimp only at *);omega),
({ m:=yS (LX.m x1) x19,v:=Ed.f (List.getD (PLX.es (LX.p x1)) (SD.k x19) default):MNx }),
(by(try dsimp only at *);grind),
⟨⟨rfl,rfl⟩,
(by(try dsimp only at *);grind),trivial⟩,
⟨⟨⟨rfl,rfl⟩,
⟨rfl,
(by(try dsimp only at *);rfl)⟩,
⟨rfl,
(by(try dsimp only at *);rfl)⟩,
⟨rfl,
(by(try dsimp only at *);rfl)⟩,
⟨rfl,
(by(try dsimp only at *);rfl)⟩,
(by(try dsimp only at *);rfl),trivial⟩,
⟨rl,
(by(try dsimp only at *);exact rr)⟩,
⟨⟨(by(try dsimp only at *);exact Nat.le_refl _)⟩,
(by(try dsimp only at *);exact rr)⟩,
⟨⟨(by(try dsimp only at *);exact Nat.le_refl _)⟩,
(by(try dsimp only at *);exact rr)⟩,
⟨⟨(by(try dsimp only at *);exact Nat.le_refl _)⟩,
(by(try dsimp only at *);exact rr)⟩,
⟨⟨(by(try dsimp only at *);exact Nat.le_refl _)⟩,
(by(try dsimp only at *);exact rr)⟩,trivial⟩,
({ m:=tY x1 x19,v:=Ed.t (List.getD (PLX.es (LX.p x1)) (SD.k x19) default):MNx }),
(by(try dsimp only at *);exact tY_ok h20.2),
⟨⟨rfl,rfl⟩,
(by(try dsimp only at *);grind),trivial⟩,
⟨⟨⟨rfl,rfl⟩,
⟨rfl,
(by(try dsimp only at *);rfl)⟩,
⟨rfl,
(by(try dsimp only at *);rfl)⟩,
⟨rfl,
(by(try dsimp only at *);rfl)⟩,
⟨rfl,
(by(try dsimp only at *);rfl)⟩,
(by(try dsimp only at *);rfl),trivial⟩,
⟨rl,
(by(try dsimp only at *);exact rr)⟩,
⟨⟨(by(try dsimp only at *);exact Nat.le_refl _)⟩,
(by(try dsimp only at *);exact rr)⟩,
⟨⟨(by(try dsimp only at *);exact Nat.le_refl _)⟩,
(by(try dsimp only at *);exact rr)⟩,
⟨⟨(by(try dsimp only at *);exact Nat.le_refl _)⟩,
(by(try dsimp only at *);exact rr)⟩,
⟨⟨(by(try dsimp only at *);exact Nat.le_refl _)⟩,
(by(try dsimp only at *);exact rr)⟩,trivial⟩,
⟨⟨(by(try dsimp only at *);omega),
(by(try dsimp only at *);(have q5:(plM x1.p).g.es.length=x1.p.es.length:=(lm_l h2).1;omega))⟩,
(by(try dsimp only at *);(have q5:(plM x1.p).g.es.length=x1.p.es.length:=(lm_l h2).1;omega)),
fun g24=>have h24:=dT g24;⟨fun g25=>have h25:=dT g25;⟨⟨(by(try dsimp only at *);omega),
(by(try dsimp only at *);(have q5:(plM x1.p).g.es.length=x1.p.es.length:=(lm_l h2).1;omega))⟩,
(by(try dsimp only at *);(have q5:(plM x1.p).g.es.length=x1.p.es.length:=(lm_l h2).1;omega)),
⟨(by
       (have F:=tex h2 h20.2 h21;have q3:=F.d0;have q4:=F.w;show -9223372036854775808<=tmD (yS x1.m x19) (x1.p.es.getD x19.k default).f+x1.m.ts.getD (0+((x19.k:Nat):Int).toNat) default;rw[nat0];omega)),
(by(try dsimp only at *);omega)⟩,
(default),trivial,
(by
       (have F:=tex h2 h20.2 h21;exact decide_eq_false (fun q=>absurd (F.tri (by rw[nat0]at h24;exact h24) h25) (by rw[nat0]at q;exact Int.not_le.2 q)))),trivial⟩,
fun g27=>have h27:=dF g27;⟨(default),trivial,rfl,trivial⟩⟩,
fun g29=>have h29:=dF g29;⟨(default),trivial,rfl,trivial⟩⟩,
fun x31=>fun h32=>⟨⟨(by(try dsimp only at *);omega),
(by(try dsimp only at *);(have:=(pl_n h2.2).2.2.1;omega))⟩,
(sD (SD.k x19+(1:Nat)) (tmM (tY x1 x19) (Ed.t (List.getD (PLX.es (LX.p x1)) (SD.k x19) default)))),
(by(try dsimp only at *);(show x1.p.es.length-(x19.k+1)<x1.p.es.length-x19.k;omega)),
⟨(by(try dsimp only at *);(show x19.k+1<=x1.p.es.length;omega)),
(by(try dsimp only at *);exact yS_tm (tY_ok h20.2) _ _)⟩,
⟨(by(try dsimp only at *);rfl),
⟨rfl,rfl⟩,rfl,
⟨rfl,rfl⟩,rfl,
⟨rfl,rfl⟩,
⟨⟨rfl,rfl⟩,
⟨rfl,
⟨rfl,rfl⟩,
⟨rfl,rfl⟩,
⟨rfl,rfl⟩,trivial⟩,rfl,trivial⟩,
⟨rfl,rfl⟩,
⟨rfl,
⟨rfl,rfl⟩,
⟨rfl,rfl⟩,
⟨rfl,rfl⟩,trivial⟩,trivial⟩,
⟨⟨rfl,rfl⟩,
⟨rfl,
(by(try dsimp only at *);rfl)⟩,
⟨rfl,
(by(try dsimp only at *);rfl)⟩,
⟨rfl,
(by(try dsimp only at *);rfl)⟩,
⟨rfl,
(by(try dsimp only at *);rfl)⟩,
(by(try dsimp only at *);rfl),trivial⟩,
⟨rl,rr⟩,
⟨rl,rr⟩,
⟨⟨(by(try dsimp only at *);exact Nat.le_refl _)⟩,
(by(try dsimp only at *);exact rr)⟩,
⟨⟨(by(try dsimp only at *);exact Nat.le_refl _)⟩,
(by(try dsimp only at *);exact rr)⟩,
⟨rl,rr⟩,
⟨rfl,
⟨rfl,rfl⟩,
⟨rfl,rfl⟩,
⟨rfl,rfl⟩,trivial⟩,
⟨rl,rr⟩,
⟨rl,rr⟩,
⟨rl,rr⟩,
⟨rfl,
⟨rfl,rfl⟩,
⟨rfl,rfl⟩,
⟨rfl,rfl⟩,trivial⟩,
⟨rl,rr⟩,
⟨rl,rr⟩,
⟨rl,rr⟩,trivial⟩⟩,
fun g34=>have h34:=dF g34;⟨(default),trivial,trivial,trivial,rfl,trivial⟩⟩⟩⟩⟩)
theorem trN_good:Good Tryd.prog 3 (law10 arT false)/\FnOk Tryd.prog 3:=good_of tok conLn (fn:=Tryd.f3) rfl (by decide+kernel) (fun _=>rfl) tr_no
theorem trY_good:Good Tryd.prog 3 (law10 arT true)/\FnOk Tryd.prog 3:=good_of tok conTi (fn:=Tryd.f3) rfl (by decide+kernel) (fun _=>rfl) tr_yes
theorem tr_good:Good Tryd.prog 3 ⟨LX,fun _=>True,fun x=>plA x.p::arT x,fun x=>plH x.p,fun _=>.b true,fun _=>[]⟩:=both_b (X:=LX) (t:=fun x:LX=>plOk x.p) trY_good.1 trN_good.1
end Go.Sym