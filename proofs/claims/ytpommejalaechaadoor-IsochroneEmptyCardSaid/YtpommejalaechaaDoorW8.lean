import Derived.Test.YtpommejalaechaaDoorW6
import Derived.Test.YtpommejalaechaaDoorW7
import Derived.Test.YtpommejalaechaaDoorXD
namespace Go.Sym
open Go.Proofs
set_option maxRecDepth 100000
set_option maxHeartbeats 4000000
abbrev RG (a b:Gr):Prop:=RowsEq kG 1 (encG a) (encG b)
abbrev RB (n:Nat) (a b:List Bool):Prop:=RowsEq kB n (encL encBo a) (encL encBo b)
def exE:List Ed:=[⟨0,1,5⟩,⟨1,2,5⟩]
def exG:Gr:=⟨3,exE⟩
def e0:MS:=⟨exG,[5,5],[false,false,false],[],[],true⟩
def e1:MS:=addM e0 0
def e2:MS:=tmM e1 2
def e3:MS:=addM e2 1
def e4:MS:=tmM e3 2
def e5:MS:=setM e4 1 4611686018427387904
def exW:List Nat:=ofW (wiL e5.dI 9) (wiL e5.dI 9).length
theorem ex_1:addE e0 0=0/\tmD e1 2=10/\tmS e1 2=0/\addE e2 1=0/\tmD e3 2=5/\tmS e3 2=1:=by decide+kernel
theorem ex_2:setN e4 1 4611686018427387904=1/\setE e4 1 4611686018427387904=0/\(faL e5.dI).1=4611686018427387904/\(faL e5.dI).2=2:=by decide+kernel
theorem e0_ok:MSok e0:=by
 have g:GOk exG:=gok (x:=⟨3,exE⟩) (by decide) (by decide) (by decide) (by decide)
 refine⟨g,by decide,rfl,fun i hi=>?_,rfl,by decide,by decide,fun q=>by cases q⟩
 have hi:i<2:=hi
 rcases(show i=0∨i=1 by omega)with h|h <;>subst h <;>exact .inr ⟨by decide,by decide⟩
theorem tmM_ok {x:MS} (h:MSok x) (v:Int):MSok (tmM x v):=by
 unfold tmM;split
 ·exact mup_ok h
 ·exact h
theorem e1_ok:MSok e1:=addM_ok e0_ok 0
theorem e2_ok:MSok e2:=tmM_ok e1_ok 2
theorem e3_ok:MSok e3:=addM_ok e2_ok 1
theorem e4_ok:MSok e4:=tmM_ok e3_ok 2
theorem e5_ok:MSok e5:=setM_ok e4_ok 1 _
def niC (x:MS):List SV:=[.p 100001 0 0,.sl 100002 0 x.g.es.length,.sl 100003 0 x.g.n,.ns,.ns,.b x.od]
def addNC:CT where
 X:=MNx
 pre:=fun x=>x.m.src.length=x.m.g.n
 args:=fun x=>[.p 100000 0 0,.i .i64 x.v]
 g0:=fun x=>[(100000,.one .own (niC x.m)),(100001,.rows .bor kG 1 (encG x.m.g)),(100002,.rows .bor k1 x.m.g.es.length (encL encI x.m.ts)),(100003,.rows .own kB x.m.g.n (encL encBo x.m.src))]
 res:=fun x=>.i .i64 (addE x.m x.v)
 g1:=fun x=>[(100000,.one .own (niC ⟨x.m.g,x.m.ts,x.m.src,[],[],(addM x.m x.v).od⟩)),(100003,.rows .own kB x.m.g.n (encL encBo (addM x.m x.v).src))]
set_option maxRecDepth 100000 in
theorem addN_keeps:Keeps cfgJ4 Tryd.f12 addNC noIv:=Eq.mp (show((∀ x1:MNx,(x1.m.src.length=x1.m.g.n->(∃ x3:MNx,(True/\(((0=0/\0=0)/\(x1.v=x3.v/\True))/\((((0=0/\0=0)/\((0=0/\x1.m.g.es.length=x3.m.g.es.length)/\((0=0/\x1.m.g.n=x3.m.g.n)/\((True/\(0=0/\(x3.m.dist.length=(0:Nat))))/\((True/\(0=0/\(x3.m.so.length=(0:Nat))))/\(x1.m.od=x3.m.od/\True))))))/\((RLe 1 1/\(RG x1.m.g x3.m.g))/\(((RLe x3.m.g.es.length x1.m.g.es.length)/\(RI x3.m.g.es.length x1.m.ts x3.m.ts))/\(((RLe x3.m.g.n x1.m.g.n)/\(RB x3.m.g.n x1.m.src x3.m.src))/\((x3.m.dist.length=(0:Nat))/\((x3.m.so.length=(0:Nat))/\True))))))/\((((!inN1 x3.m x3.v)=true)->(((1:Int)=addE x1.m x1.v)/\(((0=0/\0=0)/\((0=0/\x1.m.g.es.length=x1.m.g.es.length)/\((0=0/\x1.m.g.n=x1.m.g.n)/\(True/\(True/\((x1.m.od=(addM x1.m x1.v).od)/\True))))))/\(((RLe x1.m.g.n x1.m.g.n)/\(RB x1.m.g.n x1.m.src (addM x1.m x1.v).src))/\True))))/\(((!inN1 x3.m x3.v)=false)->((((0:Int)<=x1.v)/\(x1.v<(x1.m.g.n:Int)))/\((0+Int.toNat x1.v<x1.m.g.n)/\(((x1.m.src.getD (0+Int.toNat x1.v) default=true)->(((5:Int)=addE x1.m x1.v)/\(((0=0/\0=0)/\((0=0/\x1.m.g.es.length=x1.m.g.es.length)/\((0=0/\x1.m.g.n=x1.m.g.n)/\(True/\(True/\((x1.m.od=(addM x1.m x1.v).od)/\True))))))/\(((RLe x1.m.g.n x1.m.g.n)/\(RB x1.m.g.n x1.m.src (addM x1.m x1.v).src))/\True))))/\((x1.m.src.getD (0+Int.toNat x1.v) default=false)->((((0:Int)<=x1.v)/\(x1.v<(x1.m.g.n:Int)))/\(((0+Int.toNat x1.v<x1.m.g.n)/\(True/\True))/\(((0:Int)=addE x1.m x1.v)/\(((0=0/\0=0)/\((0=0/\x1.m.g.es.length=x1.m.g.es.length)/\((0=0/\x1.m.g.n=x1.m.g.n)/\(True/\(True/\((true=(addM x1.m x1.v).od)/\True))))))/\(((RLe x1.m.g.n x1.m.g.n)/\(RowsEq (Kd.bool::[]) x1.m.g.n (setRow (encL encBo x1.m.src) (0+Int.toNat x1.v) 0 (D.b true::@List.nil D)) (encL encBo (addM x1.m x1.v).src)))/\True))))))))))))))))))=(Keeps cfgJ4 Tryd.f12 addNC noIv) by kernel_rfl) (fun x1=>fun h2=>⟨({ m:={ g:=MS.g (MNx.m x1),ts:=MS.ts (MNx.m x1),src:=MS.src (MNx.m x1),dist:=@List.nil Int,so:=@List.nil Int,od:=MS.od (MNx.m x1):MS },v:=MNx.v x1:MNx }),trivial,
⟨⟨rfl,rfl⟩,rfl,trivial⟩,
⟨⟨⟨rfl,rfl⟩,
⟨rfl,rfl⟩,
⟨rfl,rfl⟩,
⟨trivial,rfl,
(by grind)⟩,
⟨trivial,rfl,
(by grind)⟩,rfl,trivial⟩,
⟨rl,rr⟩,
⟨rl,rr⟩,
⟨rl,rr⟩,
(by grind),
(by grind),trivial⟩,
fun h4=>⟨((add_1 (x:=x1.m) (v:=x1.v) ‹_›).2.symm),
⟨⟨rfl,rfl⟩,
⟨rfl,rfl⟩,
⟨rfl,rfl⟩,trivial,trivial,
(by rw[(add_1 (x:=x1.m) (v:=x1.v) ‹_›).1]),trivial⟩,
⟨rl,
(by rw[(add_1 (x:=x1.m) (v:=x1.v) ‹_›).1];exact rr)⟩,trivial⟩,
fun h5=>⟨⟨(by have q:=inN1_yes (x:=x1.m) (v:=x1.v) h5;omega),
(by have q:=inN1_yes (x:=x1.m) (v:=x1.v) h5;omega)⟩,
(by have q:=inN1_yes (x:=x1.m) (v:=x1.v) h5;omega),
fun h6=>⟨(by(try simp only[Nat.zero_add]at *);have e:=add_2 (x:=x1.m) (v:=x1.v) ‹_› ‹_›;exact e.2.symm),
⟨⟨rfl,rfl⟩,
⟨rfl,rfl⟩,
⟨rfl,rfl⟩,trivial,trivial,
(by(try simp only[Nat.zero_add]at *);have e:=add_2 (x:=x1.m) (v:=x1.v) ‹_› ‹_›;(rw[e.1];done)),trivial⟩,
⟨rl,
(by(try simp only[Nat.zero_add]at *);have e:=add_2 (x:=x1.m) (v:=x1.v) ‹_› ‹_›;(rw[e.1];exact rr))⟩,trivial⟩,
fun h7=>⟨⟨(by have q:=inN1_yes (x:=x1.m) (v:=x1.v) h5;omega),
(by have q:=inN1_yes (x:=x1.m) (v:=x1.v) h5;omega)⟩,
⟨(by have q:=inN1_yes (x:=x1.m) (v:=x1.v) h5;omega),trivial,trivial⟩,
(by(try simp only[Nat.zero_add]at *);have e:=add_3 (x:=x1.m) (v:=x1.v) ‹_› ‹_›;exact e.2.symm),
⟨⟨rfl,rfl⟩,
⟨rfl,rfl⟩,
⟨rfl,rfl⟩,trivial,trivial,
(by(try simp only[Nat.zero_add]at *);have e:=add_3 (x:=x1.m) (v:=x1.v) ‹_› ‹_›;(rw[e.1];done)),trivial⟩,
⟨rl,
(by rw[(add_3 (x:=x1.m) (v:=x1.v) h5 (by simpa using h7)).1];simp only[Nat.zero_add];exact rows_setB (by have q:=inN1_yes (x:=x1.m) (v:=x1.v) h5;omega))⟩,trivial⟩⟩⟩)
theorem addN_good:Good Tryd.prog 12 addNC/\FnOk Tryd.prog 12:=good_of tok conJ4 (fn:=Tryd.f12) rfl (by decide+kernel) (fun _=>rfl) addN_keeps
def selN:List SV->Hp->Bool:=fun args G=>match args with
 | .p l _ _::_=>(match G l with
  |some (.one _ cs)=>(match cs with
   | [_,_,_,.ns,_,_]=>true
   |_=>false)
  |_=>false)
 |_=>false
def awC:CT where
 X:=Unit
 pre:=fun _=>True
 args:=fun _=>[]
 g0:=fun _=>[]
 res:=fun _=>.b true
 g1:=fun _=>[]
def cfgAw:Cfg:=⟨T,[],[(17,.one (netYC .own)),(18,.one newIC),(12,.two selN (.one addNC) (.one addSC)),(11,.one timC),(16,.one setTC),(23,.one farC),(20,.one wiC),(27,.one strC)],noInv,14,{}⟩
theorem conAw:ConOk Tryd.prog cfgAw:=ConL.ok (.cons (ConL.one netYo_good) (.cons (ConL.one newI_good) (.cons (ConL.two (ConL.one addN_good) (ConL.one addS_good)) (.cons (ConL.one tim_good) (.cons (ConL.one setT_good) (.cons (ConL.one far_good) (.cons (ConL.one wi_good) (.cons (ConL.one str_good) .nil))))))))
set_option maxRecDepth 100000 in
theorem aw_keeps:Keeps cfgAw Tryd.f9 awC noIv:=Eq.mp (show((∀ x1:Unit,(True->(((True/\(True/\(True/\True)))/\((True/\(True/\(True/\True)))/\True))/\(∃ x3:NewX,((rightB x3=true)/\(((3=x3.n/\((0=0/\((2:Nat)=x3.es.length))/\True))/\True)/\((((RLe x3.es.length 2)/\(RowsEq [.int .i64,.int .i64,.int .i64] x3.es.length (litRows ((D.i 0::D.i 1::D.i 5::@List.nil D)::(D.i 1::D.i 2::D.i 5::@List.nil D)::@List.nil (List D))) (encL encE x3.es)))/\True)/\(((True/\True)/\((True/\True)/\True))/\(∃ x4:NIx,((GOk x4.g)/\(((0=0/\0=0)/\((0=0/\((2:Nat)=x4.ts.length))/\True))/\(((RLe 1 1/\(RG (NewX.g x3) x4.g))/\(((RLe x4.ts.length 2)/\(RowsEq [.int .i64] x4.ts.length (litRows ((D.i 5::@List.nil D)::(D.i 5::@List.nil D)::@List.nil (List D))) (encL encI x4.ts)))/\True))/\(((decide ((0:Int)≠(0:Int))=false)->(∃ x6:MNx,(x6.m.src.length=x6.m.g.n/\(((0=0/\0=0)/\(0=x6.v/\True))/\((((0=0/\0=0)/\((0=0/\x4.g.es.length=x6.m.g.es.length)/\((0=0/\x4.g.n=x6.m.g.n)/\(True/\(True/\(true=x6.m.od/\True))))))/\((RLe 1 1/\(RG (NewX.g x3) x6.m.g))/\(((RLe x6.m.g.es.length x4.g.es.length)/\(RI x6.m.g.es.length (ttL x4.ts x4.g.es.length) x6.m.ts))/\(((RLe x6.m.g.n x4.g.n)/\(RB x6.m.g.n (List.replicate x4.g.n false) x6.m.src))/\True))))/\(((decide (addE x6.m x6.v≠(0:Int))=true)->(false=true/\True))/\((decide (addE x6.m x6.v≠(0:Int))=false)->(∃ x9:MNx,((MSok x9.m)/\(((0=0/\0=0)/\(2=x9.v/\True))/\((((0=0/\0=0)/\((0=0/\x6.m.g.es.length=x9.m.g.es.length)/\((0=0/\x6.m.g.n=x9.m.g.n)/\((True/\(0=0/\(x9.m.dist.length=(0:Nat))))/\((True/\(0=0/\(x9.m.so.length=(0:Nat))))/\(((addM x6.m x6.v).od=x9.m.od)/\True))))))/\((RLe 1 1/\(RG (NewX.g x3) x9.m.g))/\(((RLe x9.m.g.es.length x4.g.es.length)/\(RI x9.m.g.es.length (ttL x4.ts x4.g.es.length) x9.m.ts))/\(((RLe x9.m.g.n x6.m.g.n)/\(RB x9.m.g.n (addM x6.m x6.v).src x9.m.src))/\((x9.m.dist.length=(0:Nat))/\((x9.m.so.length=(0:Nat))/\True))))))/\(((decide (tmD x9.m x9.v≠(10:Int))=false)->(((decide (tmS x9.m x9.v≠(0:Int))=false)->(∃ x12:MNx,(x12.m.src.length=x12.m.g.n/\(((0=0/\0=0)/\(1=x12.v/\True))/\((((0=0/\0=0)/\((0=0/\x9.m.g.es.length=x12.m.g.es.length)/\((0=0/\x9.m.g.n=x12.m.g.n)/\((0=0/\((tmM x9.m x9.v).dist.length=x12.m.dist.length))/\((0=0/\((tmM x9.m x9.v).so.length=x12.m.so.length))/\(((tmM x9.m x9.v).od=x12.m.od)/\True))))))/\((RLe 1 1/\(RG (NewX.g x3) x12.m.g))/\(((RLe x12.m.g.es.length x4.g.es.length)/\(RI x12.m.g.es.length (ttL x4.ts x4.g.es.length) x12.m.ts))/\(((RLe x12.m.g.n x6.m.g.n)/\(RB x12.m.g.n (addM x6.m x6.v).src x12.m.src))/\(((RLe x12.m.dist.length (tmM x9.m x9.v).dist.length)/\(RI x12.m.dist.length (tmM x9.m x9.v).dist x12.m.dist))/\(((RLe x12.m.so.length (tmM x9.m x9.v).so.length)/\(RI x12.m.so.length (tmM x9.m x9.v).so x12.m.so))/\True))))))/\(((decide (addE x12.m x12.v≠(0:Int))=true)->(false=true/\True))/\((decide (addE x12.m x12.v≠(0:Int))=false)->(∃ x15:MNx,((MSok x15.m)/\(((0=0/\0=0)/\(2=x15.v/\True))/\((((0=0/\0=0)/\((0=0/\((addM x12.m x12.v).g.es.length=x15.m.g.es.length))/\((0=0/\((addM x12.m x12.v).g.n=x15.m.g.n))/\((0=0/\((addM x12.m x12.v).dist.length=x15.m.dist.length))/\((0=0/\((addM x12.m x12.v).so.length=x15.m.so.length))/\(((addM x12.m x12.v).od=x15.m.od)/\True))))))/\((RLe 1 1/\(RG (NewX.g x3) x15.m.g))/\(((RLe x15.m.g.es.length x4.g.es.length)/\(RI x15.m.g.es.length (ttL x4.ts x4.g.es.length) x15.m.ts))/\(((RLe x15.m.g.n (addM x12.m x12.v).g.n)/\(RB x15.m.g.n (addM x12.m x12.v).src x15.m.src))/\(((RLe x15.m.dist.length (tmM x9.m x9.v).dist.length)/\(RI x15.m.dist.length (tmM x9.m x9.v).dist x15.m.dist))/\(((RLe x15.m.so.length (tmM x9.m x9.v).so.length)/\(RI x15.m.so.length (tmM x9.m x9.v).so x15.m.so))/\True))))))/\(∃ x16:METx,((MSok x16.m)/\(((0=0/\0=0)/\(1=x16.e/\(4611686018427387904=x16.t/\True)))/\((((0=0/\0=0)/\((0=0/\x15.m.g.es.length=x16.m.g.es.length)/\((0=0/\x15.m.g.n=x16.m.g.n)/\((0=0/\((tmM x15.m x15.v).dist.length=x16.m.dist.length))/\((0=0/\((tmM x15.m x15.v).so.length=x16.m.so.length))/\(((tmM x15.m x15.v).od=x16.m.od)/\True))))))/\((RLe 1 1/\(RG (NewX.g x3) x16.m.g))/\(((RLe x16.m.g.es.length x4.g.es.length)/\(RI x16.m.g.es.length (ttL x4.ts x4.g.es.length) x16.m.ts))/\(((RLe x16.m.g.n (addM x12.m x12.v).g.n)/\(RB x16.m.g.n (addM x12.m x12.v).src x16.m.src))/\(((RLe x16.m.dist.length (tmM x15.m x15.v).dist.length)/\(RI x16.m.dist.length (tmM x15.m x15.v).dist x16.m.dist))/\(((RLe x16.m.so.length (tmM x15.m x15.v).so.length)/\(RI x16.m.so.length (tmM x15.m x15.v).so x16.m.so))/\True))))))/\(∃ x17:MS,((MSok x17)/\(((0=0/\0=0)/\True)/\((((0=0/\0=0)/\((0=0/\x16.m.g.es.length=x17.g.es.length)/\((0=0/\x16.m.g.n=x17.g.n)/\((0=0/\((setM x16.m x16.e x16.t).dist.length=x17.dist.length))/\((0=0/\((setM x16.m x16.e x16.t).so.length=x17.so.length))/\(((setM x16.m x16.e x16.t).od=x17.od)/\True))))))/\((RLe 1 1/\(RG (NewX.g x3) x17.g))/\(((RLe x17.g.es.length x16.m.g.es.length)/\(RI x17.g.es.length (setM x16.m x16.e x16.t).ts x17.ts))/\(((RLe x17.g.n (addM x12.m x12.v).g.n)/\(RB x17.g.n (addM x12.m x12.v).src x17.src))/\(((RLe x17.dist.length (setM x16.m x16.e x16.t).dist.length)/\(RI x17.dist.length (setM x16.m x16.e x16.t).dist x17.dist))/\(((RLe x17.so.length (setM x16.m x16.e x16.t).so.length)/\(RI x17.so.length (setM x16.m x16.e x16.t).so x17.so))/\True))))))/\(((decide (tmD x15.m x15.v=(5:Int))=true)->(((decide (tmS x15.m x15.v=(1:Int))=true)->(((decide (setN x16.m x16.e x16.t=(1:Int))=true)->(((decide (setE x16.m x16.e x16.t=(0:Int))=true)->(((decide (Prod.fst (faL (MS.dI x17))=(4611686018427387904:Int))=true)->(((decide (Prod.snd (faL (MS.dI x17))=(2:Int))=true)->(∃ x24:MNx,((MSok x24.m)/\(((0=0/\0=0)/\(9=x24.v/\True))/\((((0=0/\0=0)/\((0=0/\x17.g.es.length=x24.m.g.es.length)/\((0=0/\x17.g.n=x24.m.g.n)/\((0=0/\x17.g.n=x24.m.dist.length)/\((0=0/\x17.g.n=x24.m.so.length)/\(false=x24.m.od/\True))))))/\((RLe 1 1/\(RG (NewX.g x3) x24.m.g))/\(((RLe x24.m.g.es.length x16.m.g.es.length)/\(RI x24.m.g.es.length (setM x16.m x16.e x16.t).ts x24.m.ts))/\(((RLe x24.m.g.n (addM x12.m x12.v).g.n)/\(RB x24.m.g.n (addM x12.m x12.v).src x24.m.src))/\(((RLe x24.m.dist.length x17.g.n)/\(RI x24.m.dist.length (MS.dI x17) x24.m.dist))/\(((RLe x24.m.so.length x17.g.n)/\(RI x24.m.so.length (soF x17 (MS.dI x17)) x24.m.so))/\True))))))/\(∃ x25:List Nat,(((WOk x25)/\(elemsZ x25=0::(1:Int)::@List.nil Int))/\((((szW (ofW (wiL (MS.dI x24.m) x24.v) (wiL (MS.dI x24.m) x24.v).length)=szW x25)/\True)/\True)/\((((RLe (szW x25) (szW (ofW (wiL (MS.dI x24.m) x24.v) (wiL (MS.dI x24.m) x24.v).length)))/\(RowsEq [.int .u64] (szW x25) (encL encW (ofW (wiL (MS.dI x24.m) x24.v) (wiL (MS.dI x24.m) x24.v).length)) (encL encW x25)))/\True)/\(((ByteArray.toList t01==ByteArray.toList (ByteArray.mk (List.toArray ((48:UInt8)::(45:UInt8)::(49:UInt8)::@List.nil UInt8))))=true)/\True))))))))))/\((decide (Prod.snd (faL (MS.dI x17))=(2:Int))=false)->(false=true/\True))))/\((decide (Prod.fst (faL (MS.dI x17))=(4611686018427387904:Int))=false)->(false=true/\True))))/\((decide (setE x16.m x16.e x16.t=(0:Int))=false)->(false=true/\True))))/\((decide (setN x16.m x16.e x16.t=(1:Int))=false)->(false=true/\True))))/\((decide (tmS x15.m x15.v=(1:Int))=false)->(false=true/\True))))/\((decide (tmD x15.m x15.v=(5:Int))=false)->(false=true/\True))))))))))))))))))))))/\((decide (tmS x9.m x9.v≠(0:Int))=true)->(false=true/\True))))/\((decide (tmD x9.m x9.v≠(10:Int))=true)->(false=true/\True))))))))))))))/\((decide ((0:Int)≠(0:Int))=true)->(false=true/\True))))))))))))))))=(Keeps cfgAw Tryd.f9 awC noIv) by kernel_rfl) (fun x1=>fun h2=>⟨⟨⟨trivial,
 trivial,trivial,trivial⟩,
⟨trivial,trivial,trivial,trivial⟩,trivial⟩,
({ n:=(3:Int),es:=exE:NewX }),rfl,
⟨⟨rfl,
⟨rfl,rfl⟩,trivial⟩,trivial⟩,
⟨⟨⟨(Nat.le_refl _)⟩,
(by exact⟨fun r hr=>by have hr:r<2:=hr;rcases(show r=0∨r=1 by omega)with h|h <;>subst h <;>exact⟨rfl,rfl,rfl,trivial⟩⟩)⟩,trivial⟩,
⟨⟨trivial,trivial⟩,
⟨trivial,trivial⟩,trivial⟩,
({ g:=exG,ts:=(5:Int)::(5:Int)::@List.nil Int:NIx }),
((gok (x:=⟨3,exE⟩) (by decide) (by decide) (by decide) (by decide))),
⟨⟨rfl,rfl⟩,
⟨rfl,
(by grind)⟩,trivial⟩,
⟨⟨rl,rr⟩,
⟨⟨(by grind)⟩,
(by exact⟨fun r hr=>by have hr:r<2:=hr;rcases(show r=0∨r=1 by omega)with h|h <;>subst h <;>exact⟨rfl,trivial⟩⟩)⟩,trivial⟩,
fun g5=>have h5:=dF g5;⟨({ m:=e0,v:=(0:Int):MNx }),rfl,
⟨⟨rfl,rfl⟩,rfl,trivial⟩,
⟨⟨⟨rfl,rfl⟩,
⟨rfl,rfl⟩,
⟨rfl,rfl⟩,trivial,trivial,rfl,trivial⟩,
⟨rl,rr⟩,
⟨⟨(Nat.le_refl _)⟩,rr⟩,
⟨⟨(Nat.le_refl _)⟩,rr⟩,trivial⟩,
fun g7=>have h7:=dT g7;⟨(by assumption),trivial⟩,
fun g8=>have h8:=dF g8;⟨({ m:=e1,v:=(2:Int):MNx }),e1_ok,
⟨⟨rfl,rfl⟩,rfl,trivial⟩,
⟨⟨⟨rfl,rfl⟩,
⟨rfl,rfl⟩,
⟨rfl,rfl⟩,
⟨trivial,rfl,rfl⟩,
⟨trivial,rfl,rfl⟩,rfl,trivial⟩,
⟨rl,rr⟩,
⟨⟨(Nat.le_refl _)⟩,rr⟩,
⟨⟨(Nat.le_refl _)⟩,rr⟩,rfl,rfl,trivial⟩,
fun g10=>have h10:=dF g10;⟨fun g11=>have h11:=dF g11;⟨({ m:=e2,v:=(1:Int):MNx }),rfl,
⟨⟨rfl,rfl⟩,rfl,trivial⟩,
⟨⟨⟨rfl,rfl⟩,
⟨rfl,rfl⟩,
⟨rfl,rfl⟩,
⟨rfl,rfl⟩,
⟨rfl,rfl⟩,
(by assumption),trivial⟩,
⟨rl,rr⟩,
⟨⟨(Nat.le_refl _)⟩,rr⟩,
⟨⟨(Nat.le_refl _)⟩,rr⟩,
⟨⟨(Nat.le_refl _)⟩,rr⟩,
⟨⟨(Nat.le_refl _)⟩,rr⟩,trivial⟩,
fun g13=>have h13:=dT g13;⟨(by assumption),trivial⟩,
fun g14=>have h14:=dF g14;⟨({ m:=e3,v:=(2:Int):MNx }),e3_ok,
⟨⟨rfl,rfl⟩,rfl,trivial⟩,
⟨⟨⟨rfl,rfl⟩,
⟨rfl,rfl⟩,
⟨rfl,rfl⟩,
⟨rfl,rfl⟩,
⟨rfl,rfl⟩,rfl,trivial⟩,
⟨rl,rr⟩,
⟨⟨(Nat.le_refl _)⟩,rr⟩,
⟨⟨(Nat.le_refl _)⟩,rr⟩,
⟨⟨(Nat.le_refl _)⟩,rr⟩,
⟨⟨(Nat.le_refl _)⟩,rr⟩,trivial⟩,
({ m:=e4,e:=(1:Int),t:=(4611686018427387904:Int):METx }),e4_ok,
⟨⟨rfl,rfl⟩,rfl,rfl,trivial⟩,
⟨⟨⟨rfl,rfl⟩,
⟨rfl,rfl⟩,
⟨rfl,rfl⟩,
⟨rfl,rfl⟩,
⟨rfl,rfl⟩,
(by assumption),trivial⟩,
⟨rl,rr⟩,
⟨⟨(Nat.le_refl _)⟩,rr⟩,
⟨⟨(Nat.le_refl _)⟩,rr⟩,
⟨⟨(Nat.le_refl _)⟩,rr⟩,
⟨⟨(Nat.le_refl _)⟩,rr⟩,trivial⟩,
(e5),e5_ok,
⟨⟨rfl,rfl⟩,trivial⟩,
⟨⟨⟨rfl,rfl⟩,
⟨rfl,rfl⟩,
⟨rfl,rfl⟩,
⟨rfl,rfl⟩,
⟨rfl,rfl⟩,
(by assumption),trivial⟩,
⟨rl,rr⟩,
⟨⟨(Nat.le_refl _)⟩,rr⟩,
⟨⟨(Nat.le_refl _)⟩,rr⟩,
⟨⟨(Nat.le_refl _)⟩,rr⟩,
⟨⟨(Nat.le_refl _)⟩,rr⟩,trivial⟩,
fun g18=>have h18:=dT g18;⟨fun g19=>have h19:=dT g19;⟨fun g20=>have h20:=dT g20;⟨fun g21=>have h21:=dT g21;⟨fun g22=>have h22:=dT g22;⟨fun g23=>have h23:=dT g23;⟨({ m:=MS.up e5,v:=(9:Int):MNx }),e5_ok,
⟨⟨rfl,rfl⟩,rfl,trivial⟩,
⟨⟨⟨rfl,rfl⟩,
⟨rfl,rfl⟩,
⟨rfl,rfl⟩,
⟨rfl,rfl⟩,
⟨rfl,rfl⟩,
(by assumption),trivial⟩,
⟨rl,rr⟩,
⟨⟨(Nat.le_refl _)⟩,rr⟩,
⟨⟨(Nat.le_refl _)⟩,rr⟩,
⟨⟨(Nat.le_refl _)⟩,rr⟩,
⟨⟨(Nat.le_refl _)⟩,rr⟩,trivial⟩,
(exW),
⟨(ofW_ok _ _),rfl⟩,
⟨⟨rfl,trivial⟩,trivial⟩,
⟨⟨⟨(Nat.le_refl _)⟩,rr⟩,trivial⟩,
(beq_self_eq_true t01.toList),trivial⟩,
fun g26=>have h26:=dF g26;⟨(by exact absurd ex_2.2.2.2 ‹_›),trivial⟩⟩,
fun g27=>have h27:=dF g27;⟨(by exact absurd ex_2.2.2.1 ‹_›),trivial⟩⟩,
fun g28=>have h28:=dF g28;⟨(by exact absurd ex_1.1 ‹_›),trivial⟩⟩,
fun g29=>have h29:=dF g29;⟨(by exact absurd ex_1.2.2.2.2.2 ‹_›),trivial⟩⟩,
fun g30=>have h30:=dF g30;⟨(by exact absurd ex_1.2.2.2.2.2 ‹_›),trivial⟩⟩,
fun g31=>have h31:=dF g31;⟨(by exact absurd ex_1.2.2.2.2.1 ‹_›),trivial⟩⟩⟩,
fun g32=>have h32:=dT g32;⟨(by assumption),trivial⟩⟩,
fun g33=>have h33:=dT g33;⟨(by assumption),trivial⟩⟩⟩,
fun g34=>have h34:=dT g34;⟨(by omega),trivial⟩⟩)
theorem aw_good:Good Tryd.prog 9 awC/\FnOk Tryd.prog 9:=good_of tok conAw (fn:=Tryd.f9) rfl (by decide+kernel) (fun _=>rfl) aw_keeps
end Go.Sym
namespace Go.Sym
open Go.Proofs
set_option maxRecDepth 100000
structure LX where
 p:PLX
 a:Int
 b:Int
def LX.m (x:LX):MS:=plM x.p
def law10 (ar:LX->List SV) (b:Bool):CT:=⟨LX,fun x=>True/\plOk x.p=b,fun x=>plA x.p::ar x,fun x=>plH x.p,fun _=>.b true,fun _=>[]⟩
structure SD where
 k:Nat
 dist:List Int
 so:List Int
 od:Bool
structure Alk (y m:MS):Prop where
 ok:MSok y
 g:y.g=m.g
 ts:y.ts=m.ts
 src:y.src=m.src
theorem Alk.rfl' {m:MS} (h:MSok m):Alk m m:=⟨h,rfl,rfl,rfl⟩
theorem Alk.dI {y m:MS} (h:Alk y m):y.dI=m.dI:=by unfold MS.dI;rw[h.g,h.ts,h.src]
theorem Alk.n {y m:MS} (h:Alk y m):y.g.n=m.g.n:=by rw[h.g]
theorem Alk.e {y m:MS} (h:Alk y m):y.g.es.length=m.g.es.length:=by rw[h.g]
theorem Alk.tm {y m:MS} (h:Alk y m) (v:Int):Alk (tmM y v) m:=by
 refine⟨tmM_ok h.ok v,?_,?_,?_⟩ <;>unfold tmM <;>split <;>first|exact h.g|exact h.ts|exact h.src
theorem Alk.d {y m:MS} (h:Alk y m) {v:Nat} (hv:v<m.g.n):tmD y v=m.dI.getD v default:=by
 unfold tmD
 have:inN1 y v=true:=decide_eq_true ⟨by omega,by rw[h.n];omega⟩
 rw[if_pos this,h.dI,Int.toNat_natCast]
end Go.Sym
namespace Go.Sym
set_option linter.unusedVariables false
theorem findF_alk {y m:MS} (h:Alk y m) (d so:List Int) (v:Nat):findF y d so v=findF m d so v:=by
 have e:stepSo y d so v=stepSo m d so v:=by funext s i;unfold stepSo;rw[h.g,h.ts]
 unfold findF inN;rw[e,h.src,h.g]
theorem soF_alk {y m:MS} (h:Alk y m) (d:List Int):soF y d=soF m d:=by
 unfold soF
 congr 1
 funext so v
 rw[findF_alk h]
theorem Alk.s {y m:MS} (h:Alk y m) {v:Nat} (hv:v<m.g.n):tmS y v=(soF m m.dI).getD v default:=by
 unfold tmS
 have:inN1 y v=true:=decide_eq_true ⟨by omega,by rw[h.n];omega⟩
 rw[if_pos this,soF_alk h,h.dI,Int.toNat_natCast]
theorem fold_keep {m:MS} {d:List Int} {v:Nat}:∀(l:List Int) (s:List Int),(∀ x∈l,x.toNat≠v)->(l.foldl (fun so v=>so.set v.toNat (findF m d so v.toNat)) s).getD v default=s.getD v default
 | [],s,_=>rfl
 |b::l,s,hn=>by
  rw[List.foldl_cons,fold_keep l _ (fun x hx=>hn x (List.mem_cons_of_mem _ hx))]
  rw[List.getD_eq_getElem?_getD,List.getElem?_set_ne (hn b (by simp)),List.getD_eq_getElem?_getD]
theorem dI_sol {m:MS} (h:MSok m):Sol (netG m.g (ttL m.ts m.g.es.length) true) (fun v=>isSrc (srcL m.src) v=true) m.dI:=distF_sol (netG_ok h.g (wsOk_tt m.g m.ts) true) _
theorem isSrc_i {l:List Int} {v:Nat}:isSrc l v=true↔(v:Int)∈l:=by
 unfold isSrc;rw[List.any_eq_true]
 constructor
 ·rintro⟨x,hx,e⟩;rw[beq_iff_eq]at e;exact e▸hx
 ·intro h;exact⟨_,h,by simp⟩
end Go.Sym
namespace Go.Sym
set_option linter.unusedVariables false
set_option linter.unusedSimpArgs false
def tight (m:MS) (d:List Int) (v i:Nat):Prop:=¬ (m.ts.getD i default=4611686018427387904∨d.getD (m.g.es.getD i default).f.toNat default=4611686018427387904)/\d.getD (m.g.es.getD i default).f.toNat default+m.ts.getD i default=d.getD v default
theorem so_far {m:MS} {d:List Int} {v:Nat} (hv:v<d.length) (hi:d.getD v default=4611686018427387904):(soF m d).getD v default= -1:=by
 unfold soF
 rw[fold_keep,List.getD_eq_getElem?_getD,List.getElem?_replicate,if_pos hv];rfl
 intro x hx e
 have h1:=insF_mem hx
 unfold ndL ndAt at h1
 obtain⟨i,h2,rfl⟩:=List.mem_map.1 h1
 have h3:=of_decide_eq_true (List.mem_filter.1 h2).2
 rw[Int.toNat_natCast]at e
 subst e;exact h3 hi
def ndS (m:MS) (s:Int):List Int:=((rF m).s s).d
structure Near (m:MS) (v:Nat) (s:Int):Prop where
 mem:s∈srcL m.src
 at_:(ndS m s).getD v default=m.dI.getD v default
 least:∀ s'∈srcL m.src,(ndS m s').getD v default=m.dI.getD v default->s<=s'
end Go.Sym
namespace Go.Sym
set_option linter.unusedVariables false
set_option linter.unusedSimpArgs false
open Go.Proofs
set_option maxRecDepth 100000
set_option maxHeartbeats 4000000
def newI0C:CT where
 X:=Unit
 pre:=fun _=>True
 args:=fun _=>[.np,.ns]
 g0:=fun _=>[]
 res:=fun _=>.tup [.np,.i .i64 1]
 g1:=fun _=>[]
def newI0I (_:Unit) (id:Nat):Option Inv:=match id with
 |100009=>some (cutT 9 true)
 |_=>none
set_option maxRecDepth 100000 in
theorem newI0_keeps:Keeps cfgN0 Tryd.f18 newI0C newI0I:=Eq.mp (show((∀ x1:Unit,(True->((∃ x3:Unit,(True/\(true=true/\True)))/\(∀ x4:Unit,(True->((True/\(((1:Int)=1)/\True))/\True)))))))=(Keeps cfgN0 Tryd.f18 newI0C newI0I) by kernel_rfl) (fun x1=>fun h2=>⟨⟨(default),trivial,rfl,trivial⟩,
fun x4=>fun h5=>⟨⟨trivial,rfl,trivial⟩,trivial⟩⟩)
theorem newI0_good:Good Tryd.prog 18 newI0C/\FnOk Tryd.prog 18:=good_of tok conN0 (fn:=Tryd.f18) rfl (by decide+kernel) (fun _=>rfl) newI0_keeps
def len0C:CT where
 X:=List Nat
 pre:=fun ws=>szW ws=0
 args:=fun ws=>[setV ws 100000]
 g0:=fun ws=>setH ws .bor 100000
 res:=fun _=>.i .i64 0
 g1:=fun _=>[]
def len0I (_:List Nat) (id:Nat):Option Inv:=match id with
 |100008=>some (cutT 8 false)
 |_=>none
set_option maxRecDepth 100000 in
theorem len0_keeps:Keeps cfgN0 Tryd.f24 len0C len0I:=Eq.mp (show((∀ x1:List Nat,((szW x1=(0:Nat))->((∃ x3:Unit,(True/\(((!decide (szW x1=(0:Nat)))=false)/\True)))/\(∀ x4:Unit,(True->(((0:Int)=0)/\True)))))))=(Keeps cfgN0 Tryd.f24 len0C len0I) by kernel_rfl) (fun x1=>fun h2=>⟨⟨(default),trivial,
(by grind),trivial⟩,
fun x4=>fun h5=>⟨rfl,trivial⟩⟩)
theorem len0_good:Good Tryd.prog 24 len0C/\FnOk Tryd.prog 24:=good_of tok conN0 (fn:=Tryd.f24) rfl (by decide+kernel) (fun _=>rfl) len0_keeps
structure EX where
 p:NewX
 v:Int
def EX.q (x:EX):PLX:=⟨x.p.n,x.p.es,dL x.p.es,[]⟩
def eG (x:EX):Gr:=⟨x.p.n.toNat,x.p.es⟩
def eM (x:EX):MS:=⟨eG x,ttL (dL x.p.es) x.p.es.length,List.replicate x.p.n.toNat false,[],[],true⟩
theorem eq_ok {x:EX} (h:True/\rightB x.p=true):plOk x.q=true:=by
 have r:=right_n h.2
 exact plOk_iff.2 ⟨h.2,by show(dL x.p.es).length<=60;unfold dL;simp;omega,by show 0<=30;omega⟩
theorem eM_ok {x:EX} (h:True/\rightB x.p=true):MSok (eM x):=plS_ok (eq_ok h)
theorem noS_d {m:MS} (h:MSok m) (h0:srcL m.src=[]) {v:Nat} (hv:v<m.g.n):m.dI.getD v default=4611686018427387904:=by
 have D:=dI_sol h
 have r:∀ v,v<m.g.n->at0 (List.replicate m.g.n INF) v=INF:=fun v hv=>by unfold at0;rw[List.getD_eq_getElem?_getD,List.getElem?_replicate,if_pos hv];rfl
 have e:=D.least (netG_ok h.g (wsOk_tt m.g m.ts) true) (e:=List.replicate m.g.n INF) (fun v hv=>by rw[r v hv];exact Int.le_refl _)
  (fun v hv q=>by rw[isSrc_i,h0]at q;cases q) (fun i hi _ q=>absurd q (by rw[r _ ((netG_ok h.g (wsOk_tt m.g m.ts) true).s i hi)];exact Int.lt_irrefl _)) v hv
 rw[r v hv]at e
 have:=D.le v hv
 unfold at0 INF at *;omega
structure NoS (y m:MS):Prop where
 a:Alk y m
 s:srcL m.src=[]
theorem NoS.d {y m:MS} (h:NoS y m) (v:Int):tmD y v=4611686018427387904/\tmS y v= -1:=by
 have h0:srcL y.src=[]:=by rw[h.a.src];exact h.s
 unfold tmD tmS
 split
 ·rename_i q
  have q:=of_decide_eq_true (show decide _=true from q)
  have e:=noS_d h.a.ok h0 (v:=v.toNat) (by omega)
  exact⟨e,so_far (by rw[h.a.ok.dlen];omega) e⟩
 ·exact⟨rfl,rfl⟩
theorem fa_all {d:List Int} {n:Nat} (h:∀ v,v<n->d.getD v default=4611686018427387904):∀ k,k<n->faAt d (k+1)=(4611686018427387904,0)
 |0,hk=>by
  have a:(faAt d 0).1<d.getD 0 default:=by rw[h 0 hk];show(-1:Int)<_;omega
  rw[faAt_yes a,h 0 hk];rfl
 |k+1,hk=>by
  have q:=fa_all h k (by omega)
  rw[faAt_no (by rw[q,h _ hk];decide),q]
theorem NoS.f {y m:MS} (h:NoS y m) (hn:1<=m.g.n):faL y.dI=(4611686018427387904,0):=by
 have h0:srcL y.src=[]:=by rw[h.a.src];exact h.s
 have hl:=h.a.ok.dlen
 have e:=h.a.n
 unfold faL
 rw[hl,show y.g.n=(y.g.n-1)+1 by omega]
 exact fa_all (n:=y.g.n) (fun v hv=>noS_d h.a.ok h0 hv) _ (by omega)
theorem NoS.w {y m:MS} (h:NoS y m) (t:Int):wiL y.dI t=[]:=by
 have h0:srcL y.src=[]:=by rw[h.a.src];exact h.s
 have hl:=h.a.ok.dlen
 unfold wiL wiAt
 rw[List.map_eq_nil_iff,List.filter_eq_nil_iff]
 intro v hv
 have hv:=List.mem_range.1 hv
 rw[noS_d h.a.ok h0 (by omega)]
 intro q;exact(of_decide_eq_true q).2 rfl
theorem NoS.z {y m:MS} (h:NoS y m) (t:Int):szW (ofW (wiL y.dI t) (wiL y.dI t).length)=0:=by rw[h.w];exact szW_zero.2 rfl
theorem NoS.tm {y m:MS} (h:NoS y m) (v:Int):NoS (tmM y v) m:=⟨h.a.tm v,h.s⟩
theorem NoS.up {y m:MS} (h:NoS y m):NoS y.up m:=⟨⟨mup_ok h.a.ok,h.a.g,h.a.ts,h.a.src⟩,h.s⟩
theorem NoS.l {y m:MS} (h:NoS y m):(srcL y.src).length=0:=by rw[h.a.src,h.s];rfl
theorem NoS.r {y m:MS} (h:NoS y m) (v:Int):remB y v=false:=by
 unfold remB
 cases q:inN1 y v with
 |false=>rfl
 |true=>
  have q:=of_decide_eq_true (show decide _=true from q)
  cases r:y.src.getD v.toNat default with
  |false=>rfl
  |true=>
   have hs:=h.a.ok.src
   have w:v∈srcL y.src:=srcL_mem.2 ⟨q.1,by omega,r⟩
   rw[h.a.src,h.s]at w;cases w
theorem eM_no {x:EX} (h:True/\rightB x.p=true):NoS (eM x) (eM x):=⟨Alk.rfl' (eM_ok h),src0 _⟩
def arEm (x:EX):List SV:=[.agg [.i .i64 x.p.n,.sl 100000 0 x.p.es.length],.i .i64 x.v]
def hpEm (x:EX):List (Nat × Blk):=[(100000,.rows .bor kE x.p.es.length (encL encE x.p.es))]
def lawE (b:Bool):CT:=⟨EX,fun x=>True/\rightB x.p=b,arEm,hpEm,fun _=>.b true,fun _=>[]⟩
def cfgEn:Cfg:=⟨T,[],[(17,.one (netQC .bor)),(9,.one awC),(18,.one newI0C)],noInv,20,{}⟩
theorem conEn:ConOk Tryd.prog cfgEn:=ConL.ok (.cons (ConL.one netQb_good) (.cons (ConL.one aw_good) (.cons (ConL.one newI0_good) .nil)))
def emNI (_:EX) (id:Nat):Option Inv:=match id with
 |100027=>some (cutT 27 true)
 |_=>none
theorem en_0 {x:EX} (h:True/\rightB x.p=false):rsz x.p=0:=by unfold rsz;rw[h.2];rfl
set_option maxRecDepth 100000 in
theorem em_no:Keeps cfgEn Tryd.f7 (lawE false) emNI:=Eq.mp (show((∀ x1:EX,((True/\rightB x1.p=false)->(∃ x3:Unit,(True/\((True/\(True/\True))/\(True/\(∃ x4:NewX,(True/\(((x1.p.n=x4.n/\((0=0/\x1.p.es.length=x4.es.length)/\True))/\True)/\((((RLe x4.es.length x1.p.es.length)/\(RowsEq [.int .i64,.int .i64,.int .i64] x4.es.length (encL encE x1.p.es) (encL encE x4.es)))/\True)/\(((decide ((1:Int)≠(1:Int))=true)->(false=true/\True))/\((decide ((1:Int)≠(1:Int))=false)->((∃ x7:Unit,(True/\((decide (rsz x4=(0:Nat))=true)/\True)))/\(∀ x8:Unit,(True->(∃ x10:Unit,(True/\(True/\(True/\(true=true/\True)))))))))))))))))))))=(Keeps cfgEn Tryd.f7 (lawE false) emNI) by kernel_rfl) (fun x1=>fun h2=>⟨(default),trivial,
⟨trivial,trivial,trivial⟩,trivial,
(EX.p x1),trivial,
⟨⟨rfl,
⟨rfl,rfl⟩,trivial⟩,trivial⟩,
⟨⟨rl,rr⟩,trivial⟩,
fun g5=>have h5:=dT g5;⟨(by omega),trivial⟩,
fun g6=>have h6:=dF g6;⟨⟨(default),trivial,
(decide_eq_true (en_0 h2)),trivial⟩,
fun x8=>fun h9=>⟨(default),trivial,trivial,trivial,rfl,trivial⟩⟩⟩)
def selE:List SV->Hp->Bool:=fun args _=>match args with
 | .np::_=>true
 |_=>false
def cfgEm:Cfg:=⟨T,[],[(17,.one (netYC .bor)),(9,.one awC),(18,.two selE (.one newI0C) (.one newIC)),(22,.one rtC),(11,.one timC),(23,.one farC),(10,.one srcsC),(20,.one wiC),(24,.one len0C),(14,.one remSC)],noInv,14,{}⟩
theorem conEm:ConOk Tryd.prog cfgEm:=ConL.ok (.cons (ConL.one netYb_good) (.cons (ConL.one aw_good) (.cons (ConL.two (ConL.one newI0_good) (ConL.one newI_good)) (.cons (ConL.one rt_good) (.cons (ConL.one tim_good) (.cons (ConL.one far_good) (.cons (ConL.one srcs_good) (.cons (ConL.one wi_good) (.cons (ConL.one len0_good) (.cons (ConL.one remS_good) .nil))))))))))
def eM1 (x:EX):MS:=⟨eG x,ttL (dL x.p.es) x.p.es.length,List.replicate x.p.n.toNat false,(tmM (eM x) x.v).dist,(tmM (eM x) x.v).so,(tmM (eM x) x.v).od⟩
def eM2 (x:EX):MS:=⟨eG x,ttL (dL x.p.es) x.p.es.length,List.replicate x.p.n.toNat false,(eM1 x).up.dist,(eM1 x).up.so,(eM1 x).up.od⟩
theorem eM1_is (x:EX):eM1 x=tmM (eM x) x.v:=by unfold eM1 tmM;split <;>rfl
theorem eM1_no {x:EX} (h:True/\rightB x.p=true):NoS (eM1 x) (eM x):=by rw[eM1_is];exact(eM_no h).tm _
theorem eM2_no {x:EX} (h:True/\rightB x.p=true):NoS (eM2 x) (eM x):=(eM1_no h).up
theorem eg_l {x:EX} (h:True/\rightB x.p=true):(eG x).es.length<=40:=(right_n h.2).2.2
theorem e1_l {x:EX} (h:True/\rightB x.p=true):(eM1 x).up.dist.length=(eM1 x).g.n/\(eM1 x).up.so.length=(eM1 x).g.n:=mup_len (eM1_no h).a.ok
theorem e_n {x:EX} (h:True/\rightB x.p=true):1<=(eM x).g.n:=by have:=(right_n h.2).1;show 1<=x.p.n.toNat;omega
theorem dL_len (es:List Ed):(dL es).length=es.length:=by simp[dL]
set_option maxRecDepth 100000 in
theorem em_yes:Keeps cfgEm Tryd.f7 (lawE true) noIv:=Eq.mp (show((∀ x1:EX,((True/\rightB x1.p=true)->(∃ x3:Unit,(True/\((True/\(True/\True))/\(True/\(∃ x4:NewX,((rightB x4=true)/\(((x1.p.n=x4.n/\((0=0/\x1.p.es.length=x4.es.length)/\True))/\True)/\((((RLe x4.es.length x1.p.es.length)/\(RowsEq [.int .i64,.int .i64,.int .i64] x4.es.length (encL encE x1.p.es) (encL encE x4.es)))/\True)/\(((decide ((1:Int)≠(1:Int))=true)->(false=true/\True))/\((decide ((1:Int)≠(1:Int))=false)->(∃ x7:Gr,((x7.es.length<=(16384:Nat))/\(((0=0/\0=0)/\True)/\(((RLe 1 1/\(RowsEq [.sl [.int .i64,.int .i64,.int .i64],.sl [.sl [.int .i64]],.sl [.sl [.int .i64]]] 1 (encG (NewX.g x4)) (encG x7)))/\True)/\(∃ x8:NIx,((GOk x8.g)/\(((0=0/\0=0)/\((0=0/\x7.es.length=x8.ts.length)/\True))/\(((RLe 1 1/\(RowsEq [.sl [.int .i64,.int .i64,.int .i64],.sl [.sl [.int .i64]],.sl [.sl [.int .i64]]] 1 (encG (NewX.g x4)) (encG x8.g)))/\(((RLe x8.ts.length x7.es.length)/\(RI x8.ts.length (dL x7.es) x8.ts))/\True))/\(((decide ((0:Int)≠(0:Int))=false)->(∃ x10:MNx,((MSok x10.m)/\(((0=0/\0=0)/\(x1.v=x10.v/\True))/\((((0=0/\0=0)/\((0=0/\x8.g.es.length=x10.m.g.es.length)/\((0=0/\x8.g.n=x10.m.g.n)/\((True/\(0=0/\(x10.m.dist.length=(0:Nat))))/\((True/\(0=0/\(x10.m.so.length=(0:Nat))))/\(true=x10.m.od/\True))))))/\((RLe 1 1/\(RowsEq [.sl [.int .i64,.int .i64,.int .i64],.sl [.sl [.int .i64]],.sl [.sl [.int .i64]]] 1 (encG (NewX.g x4)) (encG x10.m.g)))/\(((RLe x10.m.g.es.length x8.g.es.length)/\(RI x10.m.g.es.length (ttL x8.ts x8.g.es.length) x10.m.ts))/\(((RLe x10.m.g.n x8.g.n)/\(RowsEq (Kd.bool::[]) x10.m.g.n (encL encBo (List.replicate x8.g.n false)) (encL encBo x10.m.src)))/\((x10.m.dist.length=(0:Nat))/\((x10.m.so.length=(0:Nat))/\True))))))/\(∃ x11:MS,((MSok x11)/\(((0=0/\0=0)/\True)/\((((0=0/\0=0)/\((0=0/\x10.m.g.es.length=x11.g.es.length)/\((0=0/\x10.m.g.n=x11.g.n)/\((0=0/\((tmM x10.m x10.v).dist.length=x11.dist.length))/\((0=0/\((tmM x10.m x10.v).so.length=x11.so.length))/\(((tmM x10.m x10.v).od=x11.od)/\True))))))/\((RLe 1 1/\(RowsEq [.sl [.int .i64,.int .i64,.int .i64],.sl [.sl [.int .i64]],.sl [.sl [.int .i64]]] 1 (encG (NewX.g x4)) (encG x11.g)))/\(((RLe x11.g.es.length x8.g.es.length)/\(RI x11.g.es.length (ttL x8.ts x8.g.es.length) x11.ts))/\(((RLe x11.g.n x8.g.n)/\(RowsEq (Kd.bool::[]) x11.g.n (encL encBo (List.replicate x8.g.n false)) (encL encBo x11.src)))/\(((RLe x11.dist.length (tmM x10.m x10.v).dist.length)/\(RI x11.dist.length (tmM x10.m x10.v).dist x11.dist))/\(((RLe x11.so.length (tmM x10.m x10.v).so.length)/\(RI x11.so.length (tmM x10.m x10.v).so x11.so))/\True))))))/\(((decide (tmD x10.m x10.v=(4611686018427387904:Int))=true)->(((decide (tmS x10.m x10.v=(-1:Int))=true)->(((decide (Prod.fst (faL (MS.dI x11))=(4611686018427387904:Int))=true)->(((decide (Prod.snd (faL (MS.dI x11))=(0:Int))=true)->(∃ x16:MS,((x16.src.length=x16.g.n/\(x16.g.n<=(12:Nat)))/\(((0=0/\0=0)/\True)/\((((0=0/\0=0)/\((0=0/\x11.g.es.length=x16.g.es.length)/\((0=0/\x11.g.n=x16.g.n)/\((0=0/\x11.g.n=x16.dist.length)/\((0=0/\x11.g.n=x16.so.length)/\(false=x16.od/\True))))))/\((RLe 1 1/\(RowsEq [.sl [.int .i64,.int .i64,.int .i64],.sl [.sl [.int .i64]],.sl [.sl [.int .i64]]] 1 (encG (NewX.g x4)) (encG x16.g)))/\(((RLe x16.g.es.length x8.g.es.length)/\(RI x16.g.es.length (ttL x8.ts x8.g.es.length) x16.ts))/\(((RLe x16.g.n x8.g.n)/\(RowsEq (Kd.bool::[]) x16.g.n (encL encBo (List.replicate x8.g.n false)) (encL encBo x16.src)))/\(((RLe x16.dist.length x11.g.n)/\(RI x16.dist.length (MS.dI x11) x16.dist))/\(((RLe x16.so.length x11.g.n)/\(RI x16.so.length (soF x11 (MS.dI x11)) x16.so))/\True))))))/\(((decide ((↑(srcL x16.src).length:Int)=0)=true)->(∃ x18:MNx,((MSok x18.m)/\(((0=0/\0=0)/\(4611686018427387904=x18.v/\True))/\((((0=0/\0=0)/\((0=0/\x11.g.es.length=x18.m.g.es.length)/\((0=0/\x11.g.n=x18.m.g.n)/\((0=0/\x11.g.n=x18.m.dist.length)/\((0=0/\x11.g.n=x18.m.so.length)/\(false=x18.m.od/\True))))))/\((RLe 1 1/\(RowsEq [.sl [.int .i64,.int .i64,.int .i64],.sl [.sl [.int .i64]],.sl [.sl [.int .i64]]] 1 (encG (NewX.g x4)) (encG x18.m.g)))/\(((RLe x18.m.g.es.length x8.g.es.length)/\(RI x18.m.g.es.length (ttL x8.ts x8.g.es.length) x18.m.ts))/\(((RLe x18.m.g.n x8.g.n)/\(RowsEq (Kd.bool::[]) x18.m.g.n (encL encBo (List.replicate x8.g.n false)) (encL encBo x18.m.src)))/\(((RLe x18.m.dist.length x11.g.n)/\(RI x18.m.dist.length (MS.dI x11) x18.m.dist))/\(((RLe x18.m.so.length x11.g.n)/\(RI x18.m.so.length (soF x11 (MS.dI x11)) x18.m.so))/\True))))))/\(∃ x19:List Nat,((szW x19=(0:Nat))/\((((szW (ofW (wiL (MS.dI x18.m) x18.v) (wiL (MS.dI x18.m) x18.v).length)=szW x19)/\True)/\True)/\((((RLe (szW x19) (szW (ofW (wiL (MS.dI x18.m) x18.v) (wiL (MS.dI x18.m) x18.v).length)))/\(RowsEq [.int .u64] (szW x19) (encL encW (ofW (wiL (MS.dI x18.m) x18.v) (wiL (MS.dI x18.m) x18.v).length)) (encL encW x19)))/\True)/\(((decide ((0:Int)=0)=true)->(∃ x21:MNx,(x21.m.src.length=x21.m.g.n/\(((0=0/\0=0)/\(x1.v=x21.v/\True))/\((((0=0/\0=0)/\((0=0/\x18.m.g.es.length=x21.m.g.es.length)/\((0=0/\x18.m.g.n=x21.m.g.n)/\((0=0/\x18.m.g.n=x21.m.dist.length)/\((0=0/\x18.m.g.n=x21.m.so.length)/\(false=x21.m.od/\True))))))/\((RLe 1 1/\(RowsEq [.sl [.int .i64,.int .i64,.int .i64],.sl [.sl [.int .i64]],.sl [.sl [.int .i64]]] 1 (encG (NewX.g x4)) (encG x21.m.g)))/\(((RLe x21.m.g.es.length x8.g.es.length)/\(RI x21.m.g.es.length (ttL x8.ts x8.g.es.length) x21.m.ts))/\(((RLe x21.m.g.n x8.g.n)/\(RowsEq (Kd.bool::[]) x21.m.g.n (encL encBo (List.replicate x8.g.n false)) (encL encBo x21.m.src)))/\(((RLe x21.m.dist.length x18.m.g.n)/\(RI x21.m.dist.length (MS.dI x18.m) x21.m.dist))/\(((RLe x21.m.so.length x18.m.g.n)/\(RI x21.m.so.length (soF x18.m (MS.dI x18.m)) x21.m.so))/\True))))))/\((((!remB x21.m x21.v)=true)->(∃ x23:Unit,(True/\(True/\(True/\(true=true/\True))))))/\(((!remB x21.m x21.v)=false)->(false=true/\True))))))))/\((decide ((0:Int)=0)=false)->(false=true/\True))))))))))))/\((decide ((↑(srcL x16.src).length:Int)=0)=false)->(false=true/\True))))))))/\((decide (Prod.snd (faL (MS.dI x11))=(0:Int))=false)->(false=true/\True))))/\((decide (Prod.fst (faL (MS.dI x11))=(4611686018427387904:Int))=false)->(false=true/\True))))/\((decide (tmS x10.m x10.v=(-1:Int))=false)->(false=true/\True))))/\((decide (tmD x10.m x10.v=(4611686018427387904:Int))=false)->(false=true/\True))))))))))))/\((decide ((0:Int)≠(0:Int))=true)->(false=true/\True))))))))))))))))))))))))=(Keeps cfgEm Tryd.f7 (lawE true) noIv) by kernel_rfl) (fun x1=>fun h2=>⟨(default),
 trivial,
⟨trivial,trivial,trivial⟩,trivial,
(EX.p x1),
(by grind),
⟨⟨rfl,
⟨rfl,rfl⟩,trivial⟩,trivial⟩,
⟨⟨rl,rr⟩,trivial⟩,
fun g5=>have h5:=dT g5;⟨(by omega),trivial⟩,
fun g6=>have h6:=dF g6;⟨(eG x1),
(by have:=eg_l h2;omega),
⟨⟨rfl,rfl⟩,trivial⟩,
⟨⟨rl,rr⟩,trivial⟩,
({ g:=eG x1,ts:=dL (NewX.es (EX.p x1)):NIx }),
((eM_ok h2).g),
⟨⟨rfl,rfl⟩,
⟨rfl,
((dL_len _).symm)⟩,trivial⟩,
⟨⟨rl,rr⟩,
⟨⟨(Nat.le_of_eq (dL_len _))⟩,rr⟩,trivial⟩,
fun g9=>have h9:=dF g9;⟨({ m:=eM x1,v:=EX.v x1:MNx }),
(eM_ok h2),
⟨⟨rfl,rfl⟩,rfl,trivial⟩,
⟨⟨⟨rfl,rfl⟩,
⟨rfl,rfl⟩,
⟨rfl,rfl⟩,
⟨trivial,rfl,rfl⟩,
⟨trivial,rfl,rfl⟩,rfl,trivial⟩,
⟨rl,rr⟩,
⟨⟨(Nat.le_refl _)⟩,rr⟩,
⟨⟨(Nat.le_refl _)⟩,rr⟩,rfl,rfl,trivial⟩,
(eM1 x1),
((eM1_no h2).a.ok),
⟨⟨rfl,rfl⟩,trivial⟩,
⟨⟨⟨rfl,rfl⟩,
⟨rfl,rfl⟩,
⟨rfl,rfl⟩,
⟨rfl,rfl⟩,
⟨rfl,rfl⟩,rfl,trivial⟩,
⟨rl,rr⟩,
⟨⟨(Nat.le_refl _)⟩,rr⟩,
⟨⟨(Nat.le_refl _)⟩,rr⟩,
⟨⟨(Nat.le_refl _)⟩,rr⟩,
⟨⟨(Nat.le_refl _)⟩,rr⟩,trivial⟩,
fun g12=>have h12:=dT g12;⟨fun g13=>have h13:=dT g13;⟨fun g14=>have h14:=dT g14;⟨fun g15=>have h15:=dT g15;⟨(eM2 x1),
⟨((eM1_no h2).up.a.ok.src),
((eM1_no h2).up.a.ok.n)⟩,
⟨⟨rfl,rfl⟩,trivial⟩,
⟨⟨⟨rfl,rfl⟩,
⟨rfl,rfl⟩,
⟨rfl,rfl⟩,
⟨rfl,
((e1_l h2).1.symm)⟩,
⟨rfl,
((e1_l h2).2.symm)⟩,
(by assumption),trivial⟩,
⟨rl,rr⟩,
⟨⟨(Nat.le_refl _)⟩,rr⟩,
⟨⟨(Nat.le_refl _)⟩,rr⟩,
⟨⟨(Nat.le_of_eq (e1_l h2).1)⟩,rr⟩,
⟨⟨(Nat.le_of_eq (e1_l h2).2)⟩,rr⟩,trivial⟩,
fun g17=>have h17:=dT g17;⟨({ m:=eM2 x1,v:=(4611686018427387904:Int):MNx }),
((eM2_no h2).a.ok),
⟨⟨rfl,rfl⟩,rfl,trivial⟩,
⟨⟨⟨rfl,rfl⟩,
⟨rfl,rfl⟩,
⟨rfl,rfl⟩,
⟨rfl,
((e1_l h2).1.symm)⟩,
⟨rfl,
((e1_l h2).2.symm)⟩,
(by assumption),trivial⟩,
⟨rl,rr⟩,
⟨⟨(Nat.le_refl _)⟩,rr⟩,
⟨⟨(Nat.le_refl _)⟩,rr⟩,
⟨⟨(Nat.le_of_eq (e1_l h2).1)⟩,rr⟩,
⟨⟨(Nat.le_of_eq (e1_l h2).2)⟩,rr⟩,trivial⟩,
(ofW (wiL (MS.dI (eM2 x1)) (4611686018427387904:Int)) (List.length (wiL (MS.dI (eM2 x1)) (4611686018427387904:Int)))),
((eM2_no h2).z _),
⟨⟨rfl,trivial⟩,trivial⟩,
⟨⟨rl,rr⟩,trivial⟩,
fun g20=>have h20:=dT g20;⟨({ m:={ g:=eG x1,ts:=MS.ts (eM2 x1),src:=MS.src (eM2 x1),dist:=MS.dist (MS.up (eM2 x1)),so:=MS.so (MS.up (eM2 x1)),od:=MS.od (MS.up (eM2 x1)):MS },v:=EX.v x1:MNx }),
((eM1_no h2).up.a.ok.src),
⟨⟨rfl,rfl⟩,rfl,trivial⟩,
⟨⟨⟨rfl,rfl⟩,
⟨rfl,rfl⟩,
⟨rfl,rfl⟩,
⟨rfl,
((e1_l h2).1.symm)⟩,
⟨rfl,
((e1_l h2).2.symm)⟩,
(by assumption),trivial⟩,
⟨rl,rr⟩,
⟨rl,rr⟩,
⟨rl,rr⟩,
⟨⟨(Nat.le_of_eq (e1_l h2).1)⟩,rr⟩,
⟨⟨(Nat.le_of_eq (e1_l h2).2)⟩,rr⟩,trivial⟩,
fun h22=>⟨(default),trivial,trivial,trivial,rfl,trivial⟩,
fun h24=>⟨(absurd (h24.symm.trans (congrArg not ((eM2_no h2).up.r x1.v))) (by decide)),trivial⟩⟩,
fun g25=>have h25:=dF g25;⟨(by omega),trivial⟩⟩,
fun g26=>have h26:=dF g26;⟨(by exact absurd (show((srcL (eM2 x1).src).length:Int)=0 by have:=(eM2_no h2).l;omega) h26),trivial⟩⟩,
fun g27=>have h27:=dF g27;⟨(absurd (congrArg Prod.snd ((eM1_no h2).f (e_n h2))) h27),trivial⟩⟩,
fun g28=>have h28:=dF g28;⟨(absurd (congrArg Prod.fst ((eM1_no h2).f (e_n h2))) h28),trivial⟩⟩,
fun g29=>have h29:=dF g29;⟨(by exact absurd ((eM_no h2).d _).2 ‹_›),trivial⟩⟩,
fun g30=>have h30:=dF g30;⟨(by exact absurd ((eM_no h2).d _).1 ‹_›),trivial⟩⟩,
fun g31=>have h31:=dT g31;⟨(by omega),trivial⟩⟩⟩)
theorem emN_good:Good Tryd.prog 7 (lawE false)/\FnOk Tryd.prog 7:=good_of tok conEn (fn:=Tryd.f7) rfl (by decide+kernel) (fun _=>rfl) em_no
theorem emY_good:Good Tryd.prog 7 (lawE true)/\FnOk Tryd.prog 7:=good_of tok conEm (fn:=Tryd.f7) rfl (by decide+kernel) (fun _=>rfl) em_yes
theorem em_good:Good Tryd.prog 7 ⟨EX,fun _=>True,arEm,hpEm,fun _=>.b true,fun _=>[]⟩:=both_b (X:=EX) (t:=fun x:EX=>rightB x.p) emY_good.1 emN_good.1
end Go.Sym