import Derived.Test.YtpommejalaechaaDoorW6
import Derived.Test.YtpommejalaechaaDoorW7
import Derived.Test.YtpommejalaechaaDoorXD
namespace Go.Sym
open Go.Proofs
set_option maxRecDepth 100000
set_option maxHeartbeats 4000000
abbrev RG (a b:Gr):Prop:=RowsEq kG 1 (encG a) (encG b)
abbrev RB (n:Nat) (a b:List Bool):Prop:=RowsEq kB n (encL encBo a) (encL encBo b)
def exE:List Ed:=[⟨0,1,5⟩,⟨1,2,5⟩]
def exG:Gr:=⟨3,exE⟩
def e0:MS:=⟨exG,[5,5],[false,false,false],[],[],true⟩
def e1:MS:=addM e0 0
def e2:MS:=tmM e1 2
def e3:MS:=addM e2 1
def e4:MS:=tmM e3 2
def e5:MS:=setM e4 1 4611686018427387904
def exW:List Nat:=ofW (wiL e5.dI 9) (wiL e5.dI 9).length
theorem ex_1:addE e0 0=0/\tmD e1 2=10/\tmS e1 2=0/\addE e2 1=0/\tmD e3 2=5/\tmS e3 2=1:=by decide+kernel
theorem ex_2:setN e4 1 4611686018427387904=1/\setE e4 1 4611686018427387904=0/\(faL e5.dI).1=4611686018427387904/\(faL e5.dI).2=2:=by decide+kernel
theorem e0_ok:MSok e0:=by
 have g:GOk exG:=gok (x:=⟨3,exE⟩) (by decide) (by decide) (by decide) (by decide)
 refine⟨g,by decide,rfl,fun i hi=>?_,rfl,by decide,by decide,fun q=>by cases q⟩
 have hi:i<2:=hi
 rcases(show i=0∨i=1 by omega)with h|h <;>subst h <;>exact .inr ⟨by decide,by decide⟩
theorem tmM_ok {x:MS} (h:MSok x) (v:Int):MSok (tmM x v):=by
 unfold tmM;split
 ·exact mup_ok h
 ·exact h
theorem e1_ok:MSok e1:=addM_ok e0_ok 0
theorem e2_ok:MSok e2:=tmM_ok e1_ok 2
theorem e3_ok:MSok e3:=addM_ok e2_ok 1
theorem e4_ok:MSok e4:=tmM_ok e3_ok 2
theorem e5_ok:MSok e5:=setM_ok e4_ok 1 _
def niC (x:MS):List SV:=[.p 100001 0 0,.sl 100002 0 x.g.es.length,.sl 100003 0 x.g.n,.ns,.ns,.b x.od]
def addNC:CT where
 X:=MNx
 pre:=fun x=>x.m.src.length=x.m.g.n
 args:=fun x=>[.p 100000 0 0,.i .i64 x.v]
 g0:=fun x=>[(100000,.one .own (niC x.m)),(100001,.rows .bor kG 1 (encG x.m.g)),(100002,.rows .bor k1 x.m.g.es.length (encL encI x.m.ts)),(100003,.rows .own kB x.m.g.n (encL encBo x.m.src))]
 res:=fun x=>.i .i64 (addE x.m x.v)
 g1:=fun x=>[(100000,.one .own (niC ⟨x.m.g,x.m.ts,x.m.src,[],[],(addM x.m x.v).od⟩)),(100003,.rows .own kB x.m.g.n (encL encBo (addM x.m x.v).src))]
set_option maxRecDepth 100000 in
theorem addN_keeps:Keeps cfgJ4 Tryd.f12 addNC noIv:=Eq.mp (show((∀ x1:MNx,(x1.m.src.length=x1.m.g.n->(∃ x3:MNx,(True/\(((0=0/\0=0)/\(x1.v=x3.v/\True))/\((((0=0/\0=0)/\((0=0/\x1.m.g.es.length=x3.m.g.es.length)/\((0=0/\x1.m.g.n=x3.m.g.n)/\((True/\(0=0/\(x3.m.dist.length=(0:Nat))))/\((True/\(0=0/\(x3.m.so.length=(0:Nat))))/\(x1.m.od=x3.m.od/\True))))))/\((RLe 1 1/\(RG x1.m.g x3.m.g))/\(((RLe x3.m.g.es.length x1.m.g.es.length)/\(RI x3.m.g.es.length x1.m.ts x3.m.ts))/\(((RLe x3.m.g.n x1.m.g.n)/\(RB x3.m.g.n x1.m.src x3.m.src))/\((x3.m.dist.length=(0:Nat))/\((x3.m.so.length=(0:Nat))/\True))))))/\((((!inN1 x3.m x3.v)=true)->(((1:Int)=addE x1.m x1.v)/\(((0=0/\0=0)/\((0=0/\x1.m.g.es.length=x1.m.g.es.length)/\((0=0/\x1.m.g.n=x1.m.g.n)/\(True/\(True/\((x1.m.od=(addM x1.m x1.v).od)/\True))))))/\(((RLe x1.m.g.n x1.m.g.n)/\(RB x1.m.g.n x1.m.src (addM x1.m x1.v).src))/\True))))/\(((!inN1 x3.m x3.v)=false)->((((0:Int)<=x1.v)/\(x1.v<(x1.m.g.n:Int)))/\((0+Int.toNat x1.v<x1.m.g.n)/\(((x1.m.src.getD (0+Int.toNat x1.v) default=true)->(((5:Int)=addE x1.m x1.v)/\(((0=0/\0=0)/\((0=0/\x1.m.g.es.length=x1.m.g.es.length)/\((0=0/\x1.m.g.n=x1.m.g.n)/\(True/\(True/\((x1.m.od=(addM x1.m x1.v).od)/\True))))))/\(((RLe x1.m.g.n x1.m.g.n)/\(RB x1.m.g.n x1.m.src (addM x1.m x1.v).src))/\True))))/\((x1.m.src.getD (0+Int.toNat x1.v) default=false)->((((0:Int)<=x1.v)/\(x1.v<(x1.m.g.n:Int)))/\(((0+Int.toNat x1.v<x1.m.g.n)/\(True/\True))/\(((0:Int)=addE x1.m x1.v)/\(((0=0/\0=0)/\((0=0/\x1.m.g.es.length=x1.m.g.es.length)/\((0=0/\x1.m.g.n=x1.m.g.n)/\(True/\(True/\((true=(addM x1.m x1.v).od)/\True))))))/\(((RLe x1.m.g.n x1.m.g.n)/\(RowsEq (Kd.bool::[]) x1.m.g.n (setRow (encL encBo x1.m.src) (0+Int.toNat x1.v) 0 (D.b true::@List.nil D)) (encL encBo (addM x1.m x1.v).src)))/\True))))))))))))))))))=(Keeps cfgJ4 Tryd.f12 addNC noIv) by kernel_rfl) (fun x1=>fun h2=>⟨({ m:={ g:=MS.g (MNx.m x1),ts:=MS.ts (MNx.m x1),src:=MS.src (MNx.m x1),dist:=@List.nil Int,so:=@List.nil Int,od:=MS.od (MNx.m x1):MS },v:=MNx.v x1:MNx }),trivial,
⟨⟨rfl,rfl⟩,rfl,trivial⟩,
⟨⟨⟨rfl,rfl⟩,
⟨rfl,rfl⟩,
⟨rfl,rfl⟩,
⟨trivial,rfl,
(by grind)⟩,
⟨trivial,rfl,
(by grind)⟩,rfl,trivial⟩,
⟨rl,rr⟩,
⟨rl,rr⟩,
⟨rl,rr⟩,
(by grind),
(by grind),trivial⟩,
fun h4=>⟨((add_1 (x:=x1.m) (v:=x1.v) ‹_›).2.symm),
⟨⟨rfl,rfl⟩,
⟨rfl,rfl⟩,
⟨rfl,rfl⟩,trivial,trivial,
(by rw[(add_1 (x:=x1.m) (v:=x1.v) ‹_›).1]),trivial⟩,
⟨rl,
(by rw[(add_1 (x:=x1.m) (v:=x1.v) ‹_›).1];exact rr)⟩,trivial⟩,
fun h5=>⟨⟨(by have q:=inN1_yes (x:=x1.m) (v:=x1.v) h5;omega),
(by have q:=inN1_yes (x:=x1.m) (v:=x1.v) h5;omega)⟩,
(by have q:=inN1_yes (x:=x1.m) (v:=x1.v) h5;omega),
fun h6=>⟨(by(try simp only[Nat.zero_add]at *);have e:=add_2 (x:=x1.m) (v:=x1.v) ‹_› ‹_›;exact e.2.symm),
⟨⟨rfl,rfl⟩,
⟨rfl,rfl⟩,
⟨rfl,rfl⟩,trivial,trivial,
(by(try simp only[Nat.zero_add]at *);have e:=add_2 (x:=x1.m) (v:=x1.v) ‹_› ‹_›;(rw[e.1];done)),trivial⟩,
⟨rl,
(by(try simp only[Nat.zero_add]at *);have e:=add_2 (x:=x1.m) (v:=x1.v) ‹_› ‹_›;(rw[e.1];exact rr))⟩,trivial⟩,
fun h7=>⟨⟨(by have q:=inN1_yes (x:=x1.m) (v:=x1.v) h5;omega),
(by have q:=inN1_yes (x:=x1.m) (v:=x1.v) h5;omega)⟩,
⟨(by have q:=inN1_yes (x:=x1.m) (v:=x1.v) h5;omega),trivial,trivial⟩,
(by(try simp only[Nat.zero_add]at *);have e:=add_3 (x:=x1.m) (v:=x1.v) ‹_› ‹_›;exact e.2.symm),
⟨⟨rfl,rfl⟩,
⟨rfl,rfl⟩,
⟨rfl,rfl⟩,trivial,trivial,
(by(try simp only[Nat.zero_add]at *);have e:=add_3 (x:=x1.m) (v:=x1.v) ‹_› ‹_›;(rw[e.1];done)),trivial⟩,
⟨rl,
(by rw[(add_3 (x:=x1.m) (v:=x1.v) h5 (by simpa using h7)).1];simp only[Nat.zero_add];exact rows_setB (by have q:=inN1_yes (x:=x1.m) (v:=x1.v) h5;omega))⟩,trivial⟩⟩⟩)
theorem addN_good:Good Tryd.prog 12 addNC/\FnOk Tryd.prog 12:=good_of tok conJ4 (fn:=Tryd.f12) rfl (by decide+kernel) (fun _=>rfl) addN_keeps
def selN:List SV->Hp->Bool:=fun args G=>match args with
 | .p l _ _::_=>(match G l with
  |some (.one _ cs)=>(match cs with
   | [_,_,_,.ns,_,_]=>true
   |_=>false)
  |_=>false)
 |_=>false
def awC:CT where
 X:=Unit
 pre:=fun _=>True
 args:=fun _=>[]
 g0:=fun _=>[]
 res:=fun _=>.b true
 g1:=fun _=>[]
def cfgAw:Cfg:=⟨T,[],[(17,.one (netYC .own)),(18,.one newIC),(12,.two selN (.one addNC) (.one addSC)),(11,.one timC),(16,.one setTC),(23,.one farC),(20,.one wiC),(27,.one strC)],noInv,14,{}⟩
theorem conAw:ConOk Tryd.prog cfgAw:=ConL.ok (.cons (ConL.one netYo_good) (.cons (ConL.one newI_good) (.cons (ConL.two (ConL.one addN_good) (ConL.one addS_good)) (.cons (ConL.one tim_good) (.cons (ConL.one setT_good) (.cons (ConL.one far_good) (.cons (ConL.one wi_good) (.cons (ConL.one str_good) .nil))))))))
set_option maxRecDepth 100000 in
theorem aw_keeps:Keeps cfgAw Tryd.f9 awC noIv:=Eq.mp (show((∀ x1:Unit,(True->(((True/\(True/\(True/\True)))/\((True/\(True/\(True/\True)))/\True))/\(∃ x3:NewX,((rightB x3=true)/\(((3=x3.n/\((0=0/\((2:Nat)=x3.es.length))/\True))/\True)/\((((RLe x3.es.length 2)/\(RowsEq [.int .i64,.int .i64,.int .i64] x3.es.length (litRows ((D.i 0::D.i 1::D.i 5::@List.nil D)::(D.i 1::D.i 2::D.i 5::@List.nil D)::@List.nil (List D))) (encL encE x3.es)))/\True)/\(((True/\True)/\((True/\True)/\True))/\(∃ x4:NIx,((GOk x4.g)/\(((0=0/\0=0)/\((0=0/\((2:Nat)=x4.ts.length))/\True))/\(((RLe 1 1/\(RG (NewX.g x3) x4.g))/\(((RLe x4.ts.length 2)/\(RowsEq [.int .i64] x4.ts.length (litRows ((D.i 5::@List.nil D)::(D.i 5::@List.nil D)::@List.nil (List D))) (encL encI x4.ts)))/\True))/\(((decide ((0:Int)≠(0:Int))=false)->(∃ x6:MNx,(x6.m.src.length=x6.m.g.n/\(((0=0/\0=0)/\(0=x6.v/\True))/\((((0=0/\0=0)/\((0=0/\x4.g.es.length=x6.m.g.es.length)/\((0=0/\x4.g.n=x6.m.g.n)/\(True/\(True/\(true=x6.m.od/\True))))))/\((RLe 1 1/\(RG (NewX.g x3) x6.m.g))/\(((RLe x6.m.g.es.length x4.g.es.length)/\(RI x6.m.g.es.length (ttL x4.ts x4.g.es.length) x6.m.ts))/\(((RLe x6.m.g.n x4.g.n)/\(RB x6.m.g.n (List.replicate x4.g.n false) x6.m.src))/\True))))/\(((decide (addE x6.m x6.v≠(0:Int))=true)->(false=true/\True))/\((decide (addE x6.m x6.v≠(0:Int))=false)->(∃ x9:MNx,((MSok x9.m)/\(((0=0/\0=0)/\(2=x9.v/\True))/\((((0=0/\0=0)/\((0=0/\x6.m.g.es.length=x9.m.g.es.length)/\((0=0/\x6.m.g.n=x9.m.g.n)/\((True/\(0=0/\(x9.m.dist.length=(0:Nat))))/\((True/\(0=0/\(x9.m.so.length=(0:Nat))))/\(((addM x6.m x6.v).od=x9.m.od)/\True))))))/\((RLe 1 1/\(RG (NewX.g x3) x9.m.g))/\(((RLe x9.m.g.es.length x4.g.es.length)/\(RI x9.m.g.es.length (ttL x4.ts x4.g.es.length) x9.m.ts))/\(((RLe x9.m.g.n x6.m.g.n)/\(RB x9.m.g.n (addM x6.m x6.v).src x9.m.src))/\((x9.m.dist.length=(0:Nat))/\((x9.m.so.length=(0:Nat))/\True))))))/\(((decide (tmD x9.m x9.v≠(10:Int))=false)->(((decide (tmS x9.m x9.v≠(0:Int))=false)->(∃ x12:MNx,(x12.m.src.length=x12.m.g.n/\(((0=0/\0=0)/\(1=x12.v/\True))/\((((0=0/\0=0)/\((0=0/\x9.m.g.es.length=x12.m.g.es.length)/\((0=0/\x9.m.g.n=x12.m.g.n)/\((0=0/\((tmM x9.m x9.v).dist.length=x12.m.dist.length))/\((0=0/\((tmM x9.m x9.v).so.length=x12.m.so.length))/\(((tmM x9.m x9.v).od=x12.m.od)/\True))))))/\((RLe 1 1/\(RG (NewX.g x3) x12.m.g))/\(((RLe x12.m.g.es.length x4.g.es.length)/\(RI x12.m.g.es.length (ttL x4.ts x4.g.es.length) x12.m.ts))/\(((RLe x12.m.g.n x6.m.g.n)/\(RB x12.m.g.n (addM x6.m x6.v).src x12.m.src))/\(((RLe x12.m.dist.length (tmM x9.m x9.v).dist.length)/\(RI x12.m.dist.length (tmM x9.m x9.v).dist x12.m.dist))/\(((RLe x12.m.so.length (tmM x9.m x9.v).so.length)/\(RI x12.m.so.length (tmM x9.m x9.v).so x12.m.so))/\True))))))/\(((decide (addE x12.m x12.v≠(0:Int))=true)->(false=true/\True))/\((decide (addE x12.m x12.v≠(0:Int))=false)->(∃ x15:MNx,((MSok x15.m)/\(((0=0/\0=0)/\(2=x15.v/\True))/\((((0=0/\0=0)/\((0=0/\((addM x12.m x12.v).g.es.length=x15.m.g.es.length))/\((0=0/\((addM x12.m x12.v).g.n=x15.m.g.n))/\((0=0/\((addM x12.m x12.v).dist.length=x15.m.dist.length))/\((0=0/\((addM x12.m x12.v).so.length=x15.m.so.length))/\(((addM x12.m x12.v).od=x15.m.od)/\True))))))/\((RLe 1 1/\(RG (NewX.g x3) x15.m.g))/\(((RLe x15.m.g.es.length x4.g.es.length)/\(RI x15.m.g.es.length (ttL x4.ts x4.g.es.length) x15.m.ts))/\(((RLe x15.m.g.n (addM x12.m x12.v).g.n)/\(RB x15.m.g.n (addM x12.m x12.v).src x15.m.src))/\(((RLe x15.m.dist.length (tmM x9.m x9.v).dist.length)/\(RI x15.m.dist.length (tmM x9.m x9.v).dist x15.m.dist))/\(((RLe x15.m.so.length (tmM x9.m x9.v).so.length)/\(RI x15.m.so.length (tmM x9.m x9.v).so x15.m.so))/\True))))))/\(∃ x16:METx,((MSok x16.m)/\(((0=0/\0=0)/\(1=x16.e/\(4611686018427387904=x16.t/\True)))/\((((0=0/\0=0)/\((0=0/\x15.m.g.es.length=x16.m.g.es.length)/\((0=0/\x15.m.g.n=x16.m.g.n)/\((0=0/\((tmM x15.m x15.v).dist.length=x16.m.dist.length))/\((0=0/\((tmM x15.m x15.v).so.length=x16.m.so.length))/\(((tmM x15.m x15.v).od=x16.m.od)/\True))))))/\((RLe 1 1/\(RG (NewX.g x3) x16.m.g))/\(((RLe x16.m.g.es.length x4.g.es.length)/\(RI x16.m.g.es.length (ttL x4.ts x4.g.es.length) x16.m.ts))/\(((RLe x16.m.g.n (addM x12.m x12.v).g.n)/\(RB x16.m.g.n (addM x12.m x12.v).src x16.m.src))/\(((RLe x16.m.dist.length (tmM x15.m x15.v).dist.length)/\(RI x16.m.dist.length (tmM x15.m x15.v).dist x16.m.dist))/\(((RLe x16.m.so.length (tmM x15.m x15.v).so.length)/\(RI x16.m.so.length (tmM x15.m x15.v).so x16.m.so))/\True))))))/\(∃ x17:MS,((MSok x17)/\(((0=0/\0=0)/\True)/\((((0=0/\0=0)/\((0=0/\x16.m.g.es.length=x17.g.es.length)/\((0=0/\x16.m.g.n=x17.g.n)/\((0=0/\((setM x16.m x16.e x16.t).dist.length=x17.dist.length))/\((0=0/\((setM x16.m x16.e x16.t).so.length=x17.so.length))/\(((setM x16.m x16.e x16.t).od=x17.od)/\True))))))/\((RLe 1 1/\(RG (NewX.g x3) x17.g))/\(((RLe x17.g.es.length x16.m.g.es.length)/\(RI x17.g.es.length (setM x16.m x16.e x16.t).ts x17.ts))/\(((RLe x17.g.n (addM x12.m x12.v).g.n)/\(RB x17.g.n (addM x12.m x12.v).src x17.src))/\(((RLe x17.dist.length (setM x16.m x16.e x16.t).dist.length)/\(RI x17.dist.length (setM x16.m x16.e x16.t).dist x17.dist))/\(((RLe x17.so.length (setM x16.m x16.e x16.t).so.length)/\(RI x17.so.length (setM x16.m x16.e x16.t).so x17.so))/\True))))))/\(((decide (tmD x15.m x15.v=(5:Int))=true)->(((decide (tmS x15.m x15.v=(1:Int))=true)->(((decide (setN x16.m x16.e x16.t=(1:Int))=true)->(((decide (setE x16.m x16.e x16.t=(0:Int))=true)->(((decide (Prod.fst (faL (MS.dI x17))=(4611686018427387904:Int))=true)->(((decide (Prod.snd (faL (MS.dI x17))=(2:Int))=true)->(∃ x24:MNx,((MSok x24.m)/\(((0=0/\0=0)/\(9=x24.v/\True))/\((((0=0/\0=0)/\((0=0/\x17.g.es.length=x24.m.g.es.length)/\((0=0/\x17.g.n=x24.m.g.n)/\((0=0/\x17.g.n=x24.m.dist.length)/\((0=0/\x17.g.n=x24.m.so.length)/\(false=x24.m.od/\True))))))/\((RLe 1 1/\(RG (NewX.g x3) x24.m.g))/\(((RLe x24.m.g.es.length x16.m.g.es.length)/\(RI x24.m.g.es.length (setM x16.m x16.e x16.t).ts x24.m.ts))/\(((RLe x24.m.g.n (addM x12.m x12.v).g.n)/\(RB x24.m.g.n (addM x12.m x12.v).src x24.m.src))/\(((RLe x24.m.dist.length x17.g.n)/\(RI x24.m.dist.length (MS.dI x17) x24.m.dist))/\(((RLe x24.m.so.length x17.g.n)/\(RI x24.m.so.length (soF x17 (MS.dI x17)) x24.m.so))/\True))))))/\(∃ x25:List Nat,(((WOk x25)/\(elemsZ x25=0::(1:Int)::@List.nil Int))/\((((szW (ofW (wiL (MS.dI x24.m) x24.v) (wiL (MS.dI x24.m) x24.v).length)=szW x25)/\True)/\True)/\((((RLe (szW x25) (szW (ofW (wiL (MS.dI x24.m) x24.v) (wiL (MS.dI x24.m) x24.v).length)))/\(RowsEq [.int .u64] (szW x25) (encL encW (ofW (wiL (MS.dI x24.m) x24.v) (wiL (MS.dI x24.m) x24.v).length)) (encL encW x25)))/\True)/\(((ByteArray.toList t01==ByteArray.toList (ByteArray.mk (List.toArray ((48:UInt8)::(45:UInt8)::(49:UInt8)::@List.nil UInt8))))=true)/\True))))))))))/\((decide (Prod.snd (faL (MS.dI x17))=(2:Int))=false)->(false=true/\True))))/\((decide (Prod.fst (faL (MS.dI x17))=(4611686018427387904:Int))=false)->(false=true/\True))))/\((decide (setE x16.m x16.e x16.t=(0:Int))=false)->(false=true/\True))))/\((decide (setN x16.m x16.e x16.t=(1:Int))=false)->(false=true/\True))))/\((decide (tmS x15.m x15.v=(1:Int))=false)->(false=true/\True))))/\((decide (tmD x15.m x15.v=(5:Int))=false)->(false=true/\True))))))))))))))))))))))/\((decide (tmS x9.m x9.v≠(0:Int))=true)->(false=true/\True))))/\((decide (tmD x9.m x9.v≠(10:Int))=true)->(false=true/\True))))))))))))))/\((decide ((0:Int)≠(0:Int))=true)->(false=true/\True))))))))))))))))=(Keeps cfgAw Tryd.f9 awC noIv) by kernel_rfl) (fun x1=>fun h2=>⟨⟨⟨trivial,
 trivial,trivial,trivial⟩,
⟨trivial,trivial,trivial,trivial⟩,trivial⟩,
({ n:=(3:Int),es:=exE:NewX }),rfl,
⟨⟨rfl,
⟨rfl,rfl⟩,trivial⟩,trivial⟩,
⟨⟨⟨(Nat.le_refl _)⟩,
(by exact⟨fun r hr=>by have hr:r<2:=hr;rcases(show r=0∨r=1 by omega)with h|h <;>subst h <;>exact⟨rfl,rfl,rfl,trivial⟩⟩)⟩,trivial⟩,
⟨⟨trivial,trivial⟩,
⟨trivial,trivial⟩,trivial⟩,
({ g:=exG,ts:=(5:Int)::(5:Int)::@List.nil Int:NIx }),
((gok (x:=⟨3,exE⟩) (by decide) (by decide) (by decide) (by decide))),
⟨⟨rfl,rfl⟩,
⟨rfl,
(by grind)⟩,trivial⟩,
⟨⟨rl,rr⟩,
⟨⟨(by grind)⟩,
(by exact⟨fun r hr=>by have hr:r<2:=hr;rcases(show r=0∨r=1 by omega)with h|h <;>subst h <;>exact⟨rfl,trivial⟩⟩)⟩,trivial⟩,
fun g5=>have h5:=dF g5;⟨({ m:=e0,v:=(0:Int):MNx }),rfl,
⟨⟨rfl,rfl⟩,rfl,trivial⟩,
⟨⟨⟨rfl,rfl⟩,
⟨rfl,rfl⟩,
⟨rfl,rfl⟩,trivial,trivial,rfl,trivial⟩,
⟨rl,rr⟩,
⟨⟨(Nat.le_refl _)⟩,rr⟩,
⟨⟨(Nat.le_refl _)⟩,rr⟩,trivial⟩,
fun g7=>have h7:=dT g7;⟨(by assumption),trivial⟩,
fun g8=>have h8:=dF g8;⟨({ m:=e1,v:=(2:Int):MNx }),e1_ok,
⟨⟨rfl,rfl⟩,rfl,trivial⟩,
⟨⟨⟨rfl,rfl⟩,
⟨rfl,rfl⟩,
⟨rfl,rfl⟩,
⟨trivial,rfl,rfl⟩,
⟨trivial,rfl,rfl⟩,rfl,trivial⟩,
⟨rl,rr⟩,
⟨⟨(Nat.le_refl _)⟩,rr⟩,
⟨⟨(Nat.le_refl _)⟩,rr⟩,rfl,rfl,trivial⟩,
fun g10=>have h10:=dF g10;⟨fun g11=>have h11:=dF g11;⟨({ m:=e2,v:=(1:Int):MNx }),rfl,
⟨⟨rfl,rfl⟩,rfl,trivial⟩,
⟨⟨⟨rfl,rfl⟩,
⟨rfl,rfl⟩,
⟨rfl,rfl⟩,
⟨rfl,rfl⟩,
⟨rfl,rfl⟩,
(by assumption),trivial⟩,
⟨rl,rr⟩,
⟨⟨(Nat.le_refl _)⟩,rr⟩,
⟨⟨(Nat.le_refl _)⟩,rr⟩,
⟨⟨(Nat.le_refl _)⟩,rr⟩,
⟨⟨(Nat.le_refl _)⟩,rr⟩,trivial⟩,
fun g13=>have h13:=dT g13;⟨(by assumption),trivial⟩,
fun g14=>have h14:=dF g14;⟨({ m:=e3,v:=(2:Int):MNx }),e3_ok,
⟨⟨rfl,rfl⟩,rfl,trivial⟩,
⟨⟨⟨rfl,rfl⟩,
⟨rfl,rfl⟩,
⟨rfl,rfl⟩,
⟨rfl,rfl⟩,
⟨rfl,rfl⟩,rfl,trivial⟩,
⟨rl,rr⟩,
⟨⟨(Nat.le_refl _)⟩,rr⟩,
⟨⟨(Nat.le_refl _)⟩,rr⟩,
⟨⟨(Nat.le_refl _)⟩,rr⟩,
⟨⟨(Nat.le_refl _)⟩,rr⟩,trivial⟩,
({ m:=e4,e:=(1:Int),t:=(4611686018427387904:Int):METx }),e4_ok,
⟨⟨rfl,rfl⟩,rfl,rfl,trivial⟩,
⟨⟨⟨rfl,rfl⟩,
⟨rfl,rfl⟩,
⟨rfl,rfl⟩,
⟨rfl,rfl⟩,
⟨rfl,rfl⟩,
(by assumption),trivial⟩,
⟨rl,rr⟩,
⟨⟨(Nat.le_refl _)⟩,rr⟩,
⟨⟨(Nat.le_refl _)⟩,rr⟩,
⟨⟨(Nat.le_refl _)⟩,rr⟩,
⟨⟨(Nat.le_refl _)⟩,rr⟩,trivial⟩,
(e5),e5_ok,
⟨⟨rfl,rfl⟩,trivial⟩,
⟨⟨⟨rfl,rfl⟩,
⟨rfl,rfl⟩,
⟨rfl,rfl⟩,
⟨rfl,rfl⟩,
⟨rfl,rfl⟩,
(by assumption),trivial⟩,
⟨rl,rr⟩,
⟨⟨(Nat.le_refl _)⟩,rr⟩,
⟨⟨(Nat.le_refl _)⟩,rr⟩,
⟨⟨(Nat.le_refl _)⟩,rr⟩,
⟨⟨(Nat.le_refl _)⟩,rr⟩,trivial⟩,
fun g18=>have h18:=dT g18;⟨fun g19=>have h19:=dT g19;⟨fun g20=>have h20:=dT g20;⟨fun g21=>have h21:=dT g21;⟨fun g22=>have h22:=dT g22;⟨fun g23=>have h23:=dT g23;⟨({ m:=MS.up e5,v:=(9:Int):MNx }),e5_ok,
⟨⟨rfl,rfl⟩,rfl,trivial⟩,
⟨⟨⟨rfl,rfl⟩,
⟨rfl,rfl⟩,
⟨rfl,rfl⟩,
⟨rfl,rfl⟩,
⟨rfl,rfl⟩,
(by assumption),trivial⟩,
⟨rl,rr⟩,
⟨⟨(Nat.le_refl _)⟩,rr⟩,
⟨⟨(Nat.le_refl _)⟩,rr⟩,
⟨⟨(Nat.le_refl _)⟩,rr⟩,
⟨⟨(Nat.le_refl _)⟩,rr⟩,trivial⟩,
(exW),
⟨(ofW_ok _ _),rfl⟩,
⟨⟨rfl,trivial⟩,trivial⟩,
⟨⟨⟨(Nat.le_refl _)⟩,rr⟩,trivial⟩,
(beq_self_eq_true t01.toList),trivial⟩,
fun g26=>have h26:=dF g26;⟨(by exact absurd ex_2.2.2.2 ‹_›),trivial⟩⟩,
fun g27=>have h27:=dF g27;⟨(by exact absurd ex_2.2.2.1 ‹_›),trivial⟩⟩,
fun g28=>have h28:=dF g28;⟨(by exact absurd ex_1.1 ‹_›),trivial⟩⟩,
fun g29=>have h29:=dF g29;⟨(by exact absurd ex_1.2.2.2.2.2 ‹_›),trivial⟩⟩,
fun g30=>have h30:=dF g30;⟨(by exact absurd ex_1.2.2.2.2.2 ‹_›),trivial⟩⟩,
fun g31=>have h31:=dF g31;⟨(by exact absurd ex_1.2.2.2.2.1 ‹_›),trivial⟩⟩⟩,
fun g32=>have h32:=dT g32;⟨(by assumption),trivial⟩⟩,
fun g33=>have h33:=dT g33;⟨(by assumption),trivial⟩⟩⟩,
fun g34=>have h34:=dT g34;⟨(by omega),trivial⟩⟩)
theorem aw_good:Good Tryd.prog 9 awC/\FnOk Tryd.prog 9:=good_of tok conAw (fn:=Tryd.f9) rfl (by decide+kernel) (fun _=>rfl) aw_keeps
end Go.Sym
namespace Go.Sym
open Go.Proofs
set_option maxRecDepth 100000
structure LX where
 p:PLX
 a:Int
 b:Int
def LX.m (x:LX):MS:=plM x.p
def law10 (ar:LX->List SV) (b:Bool):CT:=⟨LX,fun x=>True/\plOk x.p=b,fun x=>plA x.p::ar x,fun x=>plH x.p,fun _=>.b true,fun _=>[]⟩
def CN10:List (Nat × Con):=[(8,.one plNC),(9,.one awC)]
def cfgLn:Cfg:=⟨T,[],CN10,noInv,20,{}⟩
theorem conLn:ConOk Tryd.prog cfgLn:=ConL.ok (.cons (ConL.one plN_good) (.cons (ConL.one aw_good) .nil))
structure SD where
 k:Nat
 dist:List Int
 so:List Int
 od:Bool
def yS (m:MS) (s:SD):MS:=⟨m.g,m.ts,m.src,s.dist,s.so,s.od⟩
def sD (k:Nat) (y:MS):SD:=⟨k,y.dist,y.so,y.od⟩
def lyB (s:Nat) (m:MS) (d:SD):List (Nat × Blk):=[(s+2000,.one .own [.p s 0 0,.sl (s+4000) 0 m.g.es.length,.sl (s+6000) 0 m.g.n,.sl 195 0 d.dist.length,.sl 196 0 d.so.length,.b d.od]),(s+4000,.rows .own k1 m.g.es.length (encL encI m.ts)),(s+6000,.rows .own kB m.g.n (encL encBo m.src)),
 (195,.rows .own k1 d.dist.length (encL encI d.dist)),(196,.rows .own k1 d.so.length (encL encI d.so))]
structure Alk (y m:MS):Prop where
 ok:MSok y
 g:y.g=m.g
 ts:y.ts=m.ts
 src:y.src=m.src
theorem Alk.rfl' {m:MS} (h:MSok m):Alk m m:=⟨h,rfl,rfl,rfl⟩
theorem Alk.dI {y m:MS} (h:Alk y m):y.dI=m.dI:=by unfold MS.dI;rw[h.g,h.ts,h.src]
theorem Alk.n {y m:MS} (h:Alk y m):y.g.n=m.g.n:=by rw[h.g]
theorem Alk.e {y m:MS} (h:Alk y m):y.g.es.length=m.g.es.length:=by rw[h.g]
theorem Alk.tm {y m:MS} (h:Alk y m) (v:Int):Alk (tmM y v) m:=by
 refine⟨tmM_ok h.ok v,?_,?_,?_⟩ <;>unfold tmM <;>split <;>first|exact h.g|exact h.ts|exact h.src
theorem Alk.d {y m:MS} (h:Alk y m) {v:Nat} (hv:v<m.g.n):tmD y v=m.dI.getD v default:=by
 unfold tmD
 have:inN1 y v=true:=decide_eq_true ⟨by omega,by rw[h.n];omega⟩
 rw[if_pos this,h.dI,Int.toNat_natCast]
theorem lm_ok {x:LX} (h:True/\plOk x.p=true):MSok x.m/\x.m.g=plG x.p/\((x.m.g.n:Nat):Int)=x.p.n:=by
 have:=plAt_ok h.2 x.p.acts.length
 exact⟨this.1,this.2,pm_n h.2 _⟩
theorem lm_l {x:LX} (h:True/\plOk x.p=true):x.m.g.es.length=x.p.es.length/\x.m.ts.length=x.m.g.es.length/\x.m.g.n<=12/\FXok (rF x.m):=⟨(pm_g h.2 _).1,(lm_ok h).1.ts,(lm_ok h).1.n,(lm_ok h).1.fx⟩
theorem yS_alk {m:MS} {s:SD} (h:MSok (yS m s)):Alk (yS m s) m:=⟨h,rfl,rfl,rfl⟩
theorem yS_of {y m:MS} (h:Alk y m) (k:Nat):yS m (sD k y)=y:=by
 obtain⟨_,h1,h2,h3⟩:=h
 unfold yS sD;rw[<- h1,<- h2,<- h3]
theorem yS_ok {y m:MS} (h:Alk y m) (k:Nat):MSok (yS m (sD k y)):=by rw[yS_of h];exact h.ok
theorem yS_tm {m:MS} {s:SD} (h:MSok (yS m s)) (v:Int) (k:Nat):MSok (yS m (sD k (tmM (yS m s) v))):=yS_ok ((yS_alk h).tm v) k
end Go.Sym
namespace Go.Sym
set_option linter.unusedVariables false
theorem findF_alk {y m:MS} (h:Alk y m) (d so:List Int) (v:Nat):findF y d so v=findF m d so v:=by
 have e:stepSo y d so v=stepSo m d so v:=by funext s i;unfold stepSo;rw[h.g,h.ts]
 unfold findF inN;rw[e,h.src,h.g]
theorem soF_alk {y m:MS} (h:Alk y m) (d:List Int):soF y d=soF m d:=by
 unfold soF
 congr 1
 funext so v
 rw[findF_alk h]
theorem Alk.s {y m:MS} (h:Alk y m) {v:Nat} (hv:v<m.g.n):tmS y v=(soF m m.dI).getD v default:=by
 unfold tmS
 have:inN1 y v=true:=decide_eq_true ⟨by omega,by rw[h.n];omega⟩
 rw[if_pos this,soF_alk h,h.dI,Int.toNat_natCast]
theorem swp_memI {l:List Int} {j:Nat} (h:j<l.length) (h1:1<=j) {x:Int} (hx:x∈l):x∈swp l j:=by
 obtain⟨i,hi,rfl⟩:=List.getElem_of_mem hx
 have g:∀ {k:Nat} (hk:k<l.length),l.getD k default=l[k]:=fun hk=>by rw[List.getD_eq_getElem?_getD,List.getElem?_eq_getElem hk];rfl
 unfold swp
 have hl:((l.set j (l.getD (j-1) default)).set (j-1) (l.getD j default)).length=l.length:=by simp
 by_cases a:i=j
 ·subst a
  have e:((l.set i (l.getD (i-1) default)).set (i-1) (l.getD i default))[i-1]'(by rw[hl];omega)=l[i]:=by
   rw[List.getElem_set_self,g hi]
  rw[<- e];exact List.getElem_mem _
 ·by_cases b:i=j-1
  ·subst b
   have e:((l.set j (l.getD (j-1) default)).set (j-1) (l.getD j default))[j]'(by rw[hl];exact h)=l[j-1]:=by
    rw[List.getElem_set_ne (by omega),List.getElem_set_self,g hi]
   rw[<- e];exact List.getElem_mem _
  ·have e:((l.set j (l.getD (j-1) default)).set (j-1) (l.getD j default))[i]'(by rw[hl];exact hi)=l[i]:=by
    rw[List.getElem_set_ne (by omega),List.getElem_set_ne (by omega)]
   rw[<- e];exact List.getElem_mem _
theorem bubF_memI (lt:Int->Int->Bool):∀(j:Nat) (l:List Int),j<l.length->∀ x∈l,x∈bubF lt j l
 |0,l,_,x,hx=>hx
 |j+1,l,h,x,hx=>by
  unfold bubF
  split
  ·exact bubF_memI lt j _ (by rw[swp_len];omega) x (swp_memI h (by omega) hx)
  ·exact hx
theorem insAt_memI (lt:Int->Int->Bool) (l:List Int):∀(i:Nat),i<=l.length->∀ x∈l,x∈insAt lt l i
 |0,_,x,hx=>hx
 |1,_,x,hx=>hx
 |i+2,h,x,hx=>by
  rw[insAt_succ lt l (by omega:1<=i+1)]
  exact bubF_memI lt (i+1) _ (by rw[insAt_len];omega) x (insAt_memI lt l (i+1) (by omega) x hx)
theorem insF_memI {lt:Int->Int->Bool} {l:List Int} {x:Int} (h:x∈l):x∈insF lt l:=insAt_memI lt l l.length (Nat.le_refl _) x h
theorem fold_keep {m:MS} {d:List Int} {v:Nat}:∀(l:List Int) (s:List Int),(∀ x∈l,x.toNat≠v)->(l.foldl (fun so v=>so.set v.toNat (findF m d so v.toNat)) s).getD v default=s.getD v default
 | [],s,_=>rfl
 |b::l,s,hn=>by
  rw[List.foldl_cons,fold_keep l _ (fun x hx=>hn x (List.mem_cons_of_mem _ hx))]
  rw[List.getD_eq_getElem?_getD,List.getElem?_set_ne (hn b (by simp)),List.getD_eq_getElem?_getD]
theorem ndL_mem {d:List Int} {v:Nat} (hv:v<d.length) (h:d.getD v default≠4611686018427387904):(v:Int)∈ordL d:=by
 refine insF_memI ?_
 unfold ndL ndAt
 exact List.mem_map.2 ⟨v,List.mem_filter.2 ⟨List.mem_range.2 hv,decide_eq_true h⟩,rfl⟩
theorem dI_sol {m:MS} (h:MSok m):Sol (netG m.g (ttL m.ts m.g.es.length) true) (fun v=>isSrc (srcL m.src) v=true) m.dI:=distF_sol (netG_ok h.g (wsOk_tt m.g m.ts) true) _
theorem isSrc_i {l:List Int} {v:Nat}:isSrc l v=true↔(v:Int)∈l:=by
 unfold isSrc;rw[List.any_eq_true]
 constructor
 ·rintro⟨x,hx,e⟩;rw[beq_iff_eq]at e;exact e▸hx
 ·intro h;exact⟨_,h,by simp⟩
end Go.Sym
namespace Go.Sym
set_option linter.unusedVariables false
set_option linter.unusedSimpArgs false
theorem swp_at {l:List Int} {j k:Nat} (h:j<l.length) (h1:1<=j):(swp l j).getD k default=if k=j-1 then l.getD j default else if k=j then l.getD (j-1) default else l.getD k default:=by
 unfold swp
 by_cases a:k=j-1
 ·rw[if_pos a,List.getD_eq_getElem?_getD,a,List.getElem?_set_self (by rw[List.length_set];omega)];rfl
 ·rw[if_neg a,List.getD_eq_getElem?_getD,List.getElem?_set_ne (by omega)]
  by_cases b:k=j
  ·rw[if_pos b,b,List.getElem?_set_self h];rfl
  ·rw[if_neg b,List.getElem?_set_ne (by omega),List.getD_eq_getElem?_getD]
def SrtTo (κ:Int->Int) (l:List Int) (i:Nat):Prop:=∀ a b,a<b->b<i->κ (l.getD a default)<=κ (l.getD b default)
theorem bub_srt {κ:Int->Int} {lt:Int->Int->Bool} (hlt:∀ a b,lt a b=decide (κ a<κ b)) {i:Nat}:∀(j:Nat) (l:List Int),i<l.length->j<=i->
  (∀ a b,a<b->b<i+1->b≠j->κ (l.getD a default)<=κ (l.getD b default))->SrtTo κ (bubF lt j l) (i+1)
 |0,l,_,_,h=>fun a b hab hb=>h a b hab hb (by omega)
 |j+1,l,hl,hj,h=>by
  unfold bubF
  split
  ·rename_i q
   rw[hlt]at q
   have q:=of_decide_eq_true q
   refine bub_srt hlt j _ (by rw[swp_len];exact hl) (by omega) fun a b hab hb hne=>?_
   rw[swp_at (by omega) (by omega),swp_at (by omega) (by omega)]
   simp only[Nat.add_sub_cancel]at*
   by_cases b1:b=j+1
   ·rw[if_neg (show ¬ b=j by omega),if_pos b1]
    by_cases a1:a=j
    ·rw[if_pos a1];omega
    ·rw[if_neg a1,if_neg (by omega)];exact h a j (by omega) (by omega) (by omega)
   ·rw[if_neg (show ¬ b=j from hne),if_neg b1]
    by_cases a1:a=j
    ·rw[if_pos a1];exact h (j+1) b (by omega) hb b1
    ·rw[if_neg a1]
     by_cases a2:a=j+1
     ·rw[if_pos a2];exact h j b (by omega) hb b1
     ·rw[if_neg a2];exact h a b hab hb b1
  ·rename_i q
   rw[hlt]at q
   have q:¬ (κ (l.getD (j+1) default)<κ (l.getD (j+1-1) default)):=fun w=>q (decide_eq_true w)
   rw[Nat.add_sub_cancel]at q
   intro a b hab hb
   by_cases b1:b=j+1
   ·subst b1
    by_cases a1:a=j
    ·subst a1;omega
    ·have:=h a j (by omega) (by omega) (by omega);omega
   ·exact h a b hab hb b1
theorem insAt_srt {κ:Int->Int} {lt:Int->Int->Bool} (hlt:∀ a b,lt a b=decide (κ a<κ b)) (l:List Int):∀ i,i<=l.length->SrtTo κ (insAt lt l i) i
 |0,_=>fun a b _ hb=>absurd hb (by omega)
 |1,_=>fun a b _ hb=>absurd hb (by omega)
 |i+2,h=>by
  rw[insAt_succ lt l (by omega:1<=i+1)]
  exact bub_srt hlt (i+1) _ (by rw[insAt_len];omega) (Nat.le_refl _) fun a b hab hb hne=>insAt_srt hlt l (i+1) (by omega) a b hab (by omega)
theorem ordL_srt (d:List Int):SrtTo (fun v=>d.getD v.toNat default) (ordL d) (ordL d).length:=by
 have h:=insAt_srt (κ:=fun v=>d.getD v.toNat default) (lt:=ltD d) (fun a b=>rfl) (ndL d) (ndL d).length (Nat.le_refl _)
 have e:(ordL d).length=(ndL d).length:=insF_len _ _
 rw[e];exact h
def tight (m:MS) (d:List Int) (v i:Nat):Prop:=¬ (m.ts.getD i default=4611686018427387904∨d.getD (m.g.es.getD i default).f.toNat default=4611686018427387904)/\d.getD (m.g.es.getD i default).f.toNat default+m.ts.getD i default=d.getD v default
def frm (m:MS) (i:Nat):Nat:=(m.g.es.getD i default).f.toNat
theorem step_no {m:MS} {d so:List Int} {v i:Nat} {s:Int} (h:¬ tight m d v i):stepSo m d so v s i=s:=by
 unfold stepSo
 by_cases a:m.ts.getD i default=4611686018427387904∨d.getD (m.g.es.getD i default).f.toNat default=4611686018427387904
 ·rw[if_pos a]
 ·rw[if_neg a]
  rw[if_pos (fun q=>h ⟨a,q⟩)]
theorem step_yes {m:MS} {d so:List Int} {v i:Nat} {s:Int} (h:tight m d v i):stepSo m d so v s i=if s<0∨so.getD (frm m i) default<s then so.getD (frm m i) default else s:=by
 unfold stepSo
 rw[if_neg h.1,if_neg (fun q=>q h.2)];rfl
theorem fold_cong {m:MS} {d so so':List Int} {v:Nat}:∀(L:List Nat) (s:Int),(∀ i∈L,tight m d v i->so.getD (frm m i) default=so'.getD (frm m i) default)->L.foldl (stepSo m d so v) s=L.foldl (stepSo m d so' v) s
 | [],s,_=>rfl
 |a::L,s,h=>by
  rw[List.foldl_cons,List.foldl_cons]
  have e:stepSo m d so v s a=stepSo m d so' v s a:=by
   by_cases q:tight m d v a
   ·rw[step_yes q,step_yes q,h a (by simp) q]
   ·rw[step_no q,step_no q]
  rw[e];exact fold_cong L _ fun i hi=>h i (List.mem_cons_of_mem _ hi)
theorem fold_min {m:MS} {d so:List Int} {v:Nat}:∀(L:List Nat) (s:Int),(∀ i∈L,tight m d v i->0<=so.getD (frm m i) default)->
  (∀ i∈L,tight m d v i->L.foldl (stepSo m d so v) s<=so.getD (frm m i) default)/\(0<=s->L.foldl (stepSo m d so v) s<=s)/\
  (L.foldl (stepSo m d so v) s=s∨∃ i∈L,tight m d v i/\L.foldl (stepSo m d so v) s=so.getD (frm m i) default)/\((∃ i∈L,tight m d v i)->0<=L.foldl (stepSo m d so v) s)
 | [],s,_=>⟨fun i hi=>(by cases hi),fun h=>Int.le_refl _,.inl rfl,fun⟨i,hi,_⟩=>by cases hi⟩
 |a::L,s,h=>by
  rw[List.foldl_cons]
  obtain⟨h1,h2,h3,h4⟩:=fold_min L (stepSo m d so v s a) fun i hi=>h i (List.mem_cons_of_mem _ hi)
  generalize hr:L.foldl (stepSo m d so v) (stepSo m d so v s a)=r at*
  by_cases q:tight m d v a
  ·have q0:=h a (by simp) q
   have e:=step_yes (so:=so) (s:=s) q
   have hs:0<=stepSo m d so v s a/\stepSo m d so v s a<=so.getD (frm m a) default/\(0<=s->stepSo m d so v s a<=s)/\(stepSo m d so v s a=s∨stepSo m d so v s a=so.getD (frm m a) default):=by
    rw[e];split
    ·exact⟨q0,Int.le_refl _,fun _=>by omega,.inr rfl⟩
    ·exact⟨by omega,by omega,fun _=>Int.le_refl _,.inl rfl⟩
   have h5:=h2 hs.1
   refine⟨fun i hi ti=>?_,fun h0=>by have:=hs.2.2.1 h0;omega,?_,fun _=>?_⟩
   ·rcases List.mem_cons.1 hi with rfl|hi
    ·omega
    ·exact h1 i hi ti
   ·rcases h3 with h3|⟨i,hi,ti,e3⟩
    ·rcases hs.2.2.2 with w|w
     ·exact .inl (h3.trans w)
     ·exact .inr ⟨a,by simp,q,h3.trans w⟩
    ·exact .inr ⟨i,List.mem_cons_of_mem _ hi,ti,e3⟩
   ·rcases h3 with h3|⟨i,hi,ti,e3⟩
    ·rw[h3];exact hs.1
    ·exact h4 ⟨i,hi,ti⟩
  ·rw[step_no q]at h2 h3 hr
   refine⟨fun i hi ti=>?_,h2,?_,fun⟨i,hi,ti⟩=>?_⟩
   ·rcases List.mem_cons.1 hi with rfl|hi
    ·exact absurd ti q
    ·exact h1 i hi ti
   ·rcases h3 with h3|⟨i,hi,ti,e3⟩
    ·exact .inl h3
    ·exact .inr ⟨i,List.mem_cons_of_mem _ hi,ti,e3⟩
   ·rcases List.mem_cons.1 hi with rfl|hi
    ·exact absurd ti q
    ·exact h4 ⟨i,hi,ti⟩
theorem mem_split_last {v:Nat}:∀ {l:List Int},(∃ x∈l,x.toNat=v)->∃ l1 x l2,l=l1++x::l2/\x.toNat=v/\∀ y∈l2,y.toNat≠v
 | [],h=>by obtain⟨x,hx,_⟩:=h;cases hx
 |a::l,h=>by
  by_cases q:∃ x∈l,x.toNat=v
  ·obtain⟨l1,x,l2,e,e2,e3⟩:=mem_split_last q
   exact⟨a::l1,x,l2,by rw[e];rfl,e2,e3⟩
  ·obtain⟨x,hx,e⟩:=h
   rcases List.mem_cons.1 hx with rfl|hx
   ·exact⟨[],x,l,rfl,e,fun y hy w=>q ⟨y,hy,w⟩⟩
   ·exact absurd ⟨x,hx,e⟩ q
theorem srt_after {κ:Int->Int} {l l1 l2:List Int} {x:Int} (h:SrtTo κ l l.length) (e:l=l1++x::l2):∀ y∈l2,κ x<=κ y:=by
 intro y hy
 obtain⟨i,hi,rfl⟩:=List.getElem_of_mem hy
 have q:=h l1.length (l1.length+1+i) (by omega) (by rw[e,List.length_append,List.length_cons];omega)
 rw[e,List.getD_eq_getElem?_getD,List.getD_eq_getElem?_getD,List.getElem?_append_right (Nat.le_refl _),List.getElem?_append_right (by omega),Nat.sub_self,show l1.length+1+i-l1.length=i+1 by omega]at q
 simpa[hi]using q
theorem so_fix {m:MS} (hm:MSok m) {d:List Int} (hd:d.length=m.g.n) {v:Nat} (hv:v<d.length) (hi:d.getD v default≠4611686018427387904):(soF m d).getD v default=findF m d (soF m d) v:=by
 obtain⟨l1,x,l2,e,ex,hx⟩:=mem_split_last (v:=v) (l:=ordL d) ⟨v,ndL_mem hv hi,by omega⟩
 have hs:=srt_after (ordL_srt d) e
 have e0:soF m d=(x::l2).foldl (fun so v=>so.set v.toNat (findF m d so v.toNat)) (l1.foldl (fun so v=>so.set v.toNat (findF m d so v.toNat)) (List.replicate d.length (-1))):=by
  unfold soF;rw[e,List.foldl_append]
 have hl:(l1.foldl (fun so v=>so.set v.toNat (findF m d so v.toNat)) (List.replicate d.length (-1))).length=d.length:=
  foldl_keep (fun s:List Int=>s.length=d.length) (fun b a h=>by rw[List.length_set];exact h) _ _ (by simp)
 generalize l1.foldl (fun so v=>so.set v.toNat (findF m d so v.toNat)) (List.replicate d.length (-1))=s1 at*
 have e1:(soF m d).getD v default=findF m d s1 v:=by
  rw[e0,List.foldl_cons,fold_keep l2 _ hx,ex,List.getD_eq_getElem?_getD,List.getElem?_set_self (by omega)];rfl
 rw[e1]
 unfold findF
 split
 ·rfl
 ·refine fold_cong _ _ fun i hi ti=>?_
  rw[e0,fold_keep]
  intro y hy w
  have hu:d.getD y.toNat default<d.getD v default:=by
   obtain⟨t1,t2⟩:=ti
   have hL:=(adjN_mem.1 hi).1
   have tv:=hm.tv i (by rw[hm.ts];exact hL)
   have:y.toNat=(m.g.es.getD i default).f.toNat:=w
   rw[this];omega
  rcases List.mem_cons.1 hy with rfl|hy
  ·rw[ex]at hu;omega
  ·have q:=hs y hy
   have q:d.getD x.toNat default<=d.getD y.toNat default:=q
   rw[ex]at q;omega
theorem so_far {m:MS} {d:List Int} {v:Nat} (hv:v<d.length) (hi:d.getD v default=4611686018427387904):(soF m d).getD v default= -1:=by
 unfold soF
 rw[fold_keep,List.getD_eq_getElem?_getD,List.getElem?_replicate,if_pos hv];rfl
 intro x hx e
 have h1:=insF_mem hx
 unfold ndL ndAt at h1
 obtain⟨i,h2,rfl⟩:=List.mem_map.1 h1
 have h3:=of_decide_eq_true (List.mem_filter.1 h2).2
 rw[Int.toNat_natCast]at e
 subst e;exact h3 hi
def ndS (m:MS) (s:Int):List Int:=((rF m).s s).d
theorem ndS_sol {m:MS} (h:MSok m) (s:Int):Sol (netG m.g (ttL m.ts m.g.es.length) true) (fun v=>isSrc [s] v=true) (ndS m s):=distF_sol (netG_ok h.g (wsOk_tt m.g m.ts) true) _
theorem net_w {m:MS} (h:MSok m) {i:Nat} (hi:i<m.g.es.length):(netG m.g (ttL m.ts m.g.es.length) true).w i=m.ts.getD i default:=by
 show(ttL m.ts m.g.es.length).getD i default=_
 rw[ttL_at hi]
 rcases h.tv i (by rw[h.ts];exact hi)with q|q
 ·rw[q];exact tt_no (by rw[q];omega)
 ·exact tt_yes ⟨by rw[h.ts];exact hi,q⟩
theorem ndS_le {m:MS} (h:MSok m) {s:Int} (hs:s∈srcL m.src) {v:Nat} (hv:v<m.g.n):m.dI.getD v default<=(ndS m s).getD v default:=by
 have D:=dI_sol h
 refine(ndS_sol h s).least (netG_ok h.g (wsOk_tt m.g m.ts) true) D.le (fun v hv q=>?_) D.clo v hv
 have q:=isSrc_i.1 q
 have e:(v:Int)=s:=by simpa using q
 rw[D.src v hv (isSrc_i.2 (e▸hs))];exact Int.le_refl _
structure Near (m:MS) (v:Nat) (s:Int):Prop where
 mem:s∈srcL m.src
 at_:(ndS m s).getD v default=m.dI.getD v default
 least:∀ s'∈srcL m.src,(ndS m s').getD v default=m.dI.getD v default->s<=s'
theorem near {m:MS} (h:MSok m):∀(k v:Nat),v<m.g.n->m.dI.getD v default≠4611686018427387904->(m.dI.getD v default).toNat<k->Near m v ((soF m m.dI).getD v default)
 |0,_,_,_,hk=>absurd hk (by omega)
 |k+1,v,hv,hi,hk=>by
  have hl:=h.dlen
  have D:=dI_sol h
  have hN:=netG_ok h.g (wsOk_tt m.g m.ts) true
  have hfin:∀ {u:Nat},u<m.g.n->m.dI.getD u default≠4611686018427387904->at0 m.dI u<INF:=fun hu q=>by
   have:=D.le _ hu;unfold at0 INF at *;have:=(h.drng hu).2;omega
  have ew:∀ {i:Nat},i<m.g.es.length->(netG m.g (ttL m.ts m.g.es.length) true).w i=m.ts.getD i default:=fun hi=>net_w h hi
  have tgt:∀ {i:Nat},i∈inN m.g v->i<m.g.es.length/\(m.g.es.getD i default).t.toNat=v/\frm m i<m.g.n:=fun hi=>by
   have q:=adjN_mem.1 hi
   have e:=h.g.e _ q.1
   have q2:(m.g.es.getD _ default).t=(v:Int):=q.2
   unfold edOk at e
   exact⟨q.1,by omega,by unfold frm;omega⟩
  -- tight edges
  have tw:∀ {i:Nat},i∈inN m.g v->tight m m.dI v i->m.ts.getD i default<INF/\at0 m.dI (frm m i)<INF/\1<=m.ts.getD i default/\m.dI.getD (frm m i) default+m.ts.getD i default=m.dI.getD v default:=fun {i} hi ti=>by
   obtain⟨h1,h2,h3⟩:=tgt hi
   have t0:=h.tv i (by rw[h.ts];exact h1)
   have a:m.ts.getD i default<INF:=by have:=ti.1;unfold INF;omega
   exact⟨a,hfin h3 (fun q=>ti.1 (.inr q)),by have:=ti.1;omega,ti.2⟩
  have nr:∀ {i:Nat},i∈inN m.g v->tight m m.dI v i->Near m (frm m i) ((soF m m.dI).getD (frm m i) default):=fun {i} hi ti=>by
   obtain⟨a,b,c,d⟩:=tw hi ti
   have:=D.nn _ (tgt hi).2.2
   exact near h k _ (tgt hi).2.2 (fun q=>ti.1 (.inr q)) (by unfold at0 at *;omega)
  have nn:∀ i∈inN m.g v,tight m m.dI v i->0<=(soF m m.dI).getD (frm m i) default:=fun i hi ti=>(srcL_mem.1 (nr hi ti).mem).1
  have fx:=so_fix h hl (v:=v) (by omega) hi
  by_cases hsrc:m.src.getD v default=true
  ·have e:(soF m m.dI).getD v default=v:=by rw[fx];unfold findF;rw[if_pos hsrc]
   have hm:(v:Int)∈srcL m.src:=srcL_mem.2 ⟨by omega,by rw[h.src];omega,by rw[Int.toNat_natCast];exact hsrc⟩
   have d0:m.dI.getD v default=0:=D.src v hv (isSrc_i.2 hm)
   rw[e]
   refine⟨hm,by rw[d0];exact(ndS_sol h v).src v hv (isSrc_i.2 (by simp)),fun s' hs' q=>?_⟩
   rw[d0]at q
   have S:=ndS_sol h s'
   rcases S.tig v hv (by unfold at0 INF;omega)with⟨w,_⟩|⟨i,h1,h2,h3,h4,h5⟩
   ·have w:=isSrc_i.1 w
    have:(v:Int)=s':=by simpa using w
    omega
   ·have:=hN.w i h1 h2
    have:=S.nn _ (hN.s i h1)
    unfold at0 at *;omega
  ·have e:(soF m m.dI).getD v default=(inN m.g v).foldl (stepSo m m.dI (soF m m.dI) v) (-1):=by rw[fx];unfold findF;rw[if_neg hsrc]
   obtain⟨m1,m2,m3,m4⟩:=fold_min (inN m.g v) (-1) nn
   rw[<- e]at m1 m2 m3 m4
   have ns:∀ {s:Int},s∈srcL m.src->isSrc [s] v=true->False:=fun {s} hs q=>by
    have q:=isSrc_i.1 q
    have q:(v:Int)=s:=by simpa using q
    have:=(srcL_mem.1 hs).2.2
    rw[<- q,Int.toNat_natCast]at this;exact hsrc this
   have mkT:∀ {i:Nat},i<m.g.es.length->(m.g.es.getD i default).t.toNat=v->m.ts.getD i default<INF->at0 m.dI (frm m i)<INF->m.dI.getD (frm m i) default+m.ts.getD i default=m.dI.getD v default->i∈inN m.g v/\tight m m.dI v i:=fun {i} h1 h2 h3 h4 h5=>by
    have e1:=h.g.e i h1
    unfold edOk at e1
    refine⟨adjN_mem.2 ⟨h1,by show(m.g.es.getD i default).t=_;omega⟩,fun q=>?_,h5⟩
    rcases q with q|q
    ·rw[q]at h3;exact absurd h3 (by decide)
    ·unfold at0 frm at h4;rw[q]at h4;exact absurd h4 (by decide)
   have ex:∃ i∈inN m.g v,tight m m.dI v i:=by
    rcases D.tig v hv (hfin hv hi)with⟨w,_⟩|⟨i,h1,h2,h3,h4,h5⟩
    ·exfalso
     have:=(srcL_mem.1 (isSrc_i.1 w)).2.2
     rw[Int.toNat_natCast]at this;exact hsrc this
    ·rw[ew h1]at h2 h5
     exact⟨i,mkT h1 h3 h2 h4 h5.symm⟩
   have p0:=m4 ex
   rcases m3 with m3|⟨i,hi1,ti,m3⟩
   ·omega
   ·have N:=nr hi1 ti
    obtain⟨a,b,c,d⟩:=tw hi1 ti
    obtain⟨g1,g2,g3⟩:=tgt hi1
    rw[m3]
    refine⟨N.mem,?_,fun s' hs' q=>?_⟩
    ·have S:=ndS_sol h ((soF m m.dI).getD (frm m i) default)
     have c1:=S.clo i g1 (by rw[ew g1];exact a) (by show at0 _ (frm m i)<INF;unfold at0;rw[N.at_];exact b)
     rw[ew g1]at c1
     have c1:(ndS m ((soF m m.dI).getD (frm m i) default)).getD (m.g.es.getD i default).t.toNat default<=(ndS m ((soF m m.dI).getD (frm m i) default)).getD (frm m i) default+m.ts.getD i default:=c1
     rw[g2,N.at_]at c1
     have c2:=ndS_le h N.mem hv
     omega
    ·rw[<- m3]
     have S:=ndS_sol h s'
     rcases S.tig v hv (by have:=hfin hv hi;unfold at0 at *;omega)with⟨w,_⟩|⟨j,h1,h2,h3,h4,h5⟩
     ·exact absurd (ns hs' w) id
     ·rw[ew h1]at h2 h5
      have g:=mkT (i:=j) h1 h3 h2
      have hu:frm m j<m.g.n:=hN.s j h1
      have l1:=ndS_le h hs' hu
      have h4:(ndS m s').getD (frm m j) default<INF:=h4
      have h5:(ndS m s').getD v default=(ndS m s').getD (frm m j) default+m.ts.getD j default:=h5
      have f1:at0 m.dI (frm m j)<INF:=by unfold at0;omega
      have c1:=D.clo j h1 (by rw[ew h1];exact h2) f1
      rw[ew h1]at c1
      have c1:m.dI.getD (m.g.es.getD j default).t.toNat default<=m.dI.getD (frm m j) default+m.ts.getD j default:=c1
      have h3:(m.g.es.getD j default).t.toNat=v:=h3
      rw[h3]at c1
      obtain⟨i1,t1⟩:=g f1 (by omega)
      have:=(nr i1 t1).least s' hs' (by omega)
      have:=m1 j i1 t1
      omega
theorem find_least {p:Int->Bool} {x:Int}:∀ {l:List Int},l.Pairwise (· <·)->x∈l->p x=true->(∀ y∈l,p y=true->x<=y)->l.find? p=some x
 | [],_,h,_,_=>by cases h
 |a::l,hp,h,hx,hl=>by
  have hp:=List.pairwise_cons.1 hp
  by_cases q:p a=true
  ·rw[List.find?_cons_of_pos q]
   have:=hl a (by simp) q
   rcases List.mem_cons.1 h with rfl|h
   ·rfl
   ·have:=hp.1 x h;omega
  ·rw[List.find?_cons_of_neg q]
   rcases List.mem_cons.1 h with rfl|h
   ·exact absurd hx q
   ·exact find_least hp.2 h hx fun y hy=>hl y (List.mem_cons_of_mem _ hy)
theorem etm_is {m:MS} (h:MSok m) (v:Int):etm (rF m) v=(tmD m v,tmS m v):=by
 by_cases hv:v<0∨(m.g.n:Int)<=v
 ·have q:inN1 m v=false:=decide_eq_false (by omega)
  rw[etm_no (x:=rF m) (hv.elim .inl fun q=>.inr (.inl q))]
  unfold tmD tmS;rw[q];rfl
 ·have q:inN1 m v=true:=decide_eq_true (by omega)
  have hn:v.toNat<m.g.n:=by omega
  unfold tmD tmS
  rw[if_pos q,if_pos q]
  by_cases hi:m.dI.getD v.toNat default=4611686018427387904
  ·rw[etm_no (x:=rF m) (.inr (.inr (by rw[rF_d];exact hi))),hi,so_far (by rw[h.dlen];exact hn) hi]
  ·have N:=near h _ v.toNat hn hi (Nat.lt_succ_self _)
   have f:(rF m).src.find? (atP (rF m) v)=some ((soF m m.dI).getD v.toNat default):=find_least (srcL_sorted _) N.mem (decide_eq_true N.at_) fun y hy p=>N.least y hy (of_decide_eq_true p)
   unfold etm
   rw[if_neg (by show ¬ (v<0∨(m.g.n:Int)<=v∨m.dI.getD v.toNat default=4611686018427387904);omega),f]
   rfl
end Go.Sym