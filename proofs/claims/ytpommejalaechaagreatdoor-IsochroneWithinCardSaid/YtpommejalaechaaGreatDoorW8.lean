import Derived.Test.YtpommejalaechaaGreatDoorW6
import Derived.Test.YtpommejalaechaaGreatDoorW7
import Derived.Test.YtpommejalaechaaGreatDoorXD
namespace Go.Sym
open Go.Proofs
set_option maxRecDepth 100000
set_option maxHeartbeats 4000000
abbrev RG (a b:Gr):Prop:=RowsEq kG 1 (encG a) (encG b)
abbrev RB (n:Nat) (a b:List Bool):Prop:=RowsEq kB n (encL encBo a) (encL encBo b)
def exE:List Ed:=[⟨0,1,5⟩,⟨1,2,5⟩]
def exG:Gr:=⟨3,exE⟩
def e0:MS:=⟨exG,[5,5],[false,false,false],[],[],true⟩
def e1:MS:=addM e0 0
def e2:MS:=tmM e1 2
def e3:MS:=addM e2 1
def e4:MS:=tmM e3 2
def e5:MS:=setM e4 1 4611686018427387904
def exW:List Nat:=ofW (wiL e5.dI 9) (wiL e5.dI 9).length
theorem ex_1:addE e0 0=0/\tmD e1 2=10/\tmS e1 2=0/\addE e2 1=0/\tmD e3 2=5/\tmS e3 2=1:=by decide+kernel
theorem ex_2:setN e4 1 4611686018427387904=1/\setE e4 1 4611686018427387904=0/\(faL e5.dI).1=4611686018427387904/\(faL e5.dI).2=2:=by decide+kernel
theorem e0_ok:MSok e0:=by
 have g:GOk exG:=gok (x:=⟨3,exE⟩) (by decide) (by decide) (by decide) (by decide)
 refine⟨g,by decide,rfl,fun i hi=>?_,rfl,by decide,by decide,fun q=>by cases q⟩
 have hi:i<2:=hi
 rcases(show i=0∨i=1 by omega)with h|h <;>subst h <;>exact .inr ⟨by decide,by decide⟩
theorem tmM_ok {x:MS} (h:MSok x) (v:Int):MSok (tmM x v):=by
 unfold tmM;split
 ·exact mup_ok h
 ·exact h
theorem e1_ok:MSok e1:=addM_ok e0_ok 0
theorem e2_ok:MSok e2:=tmM_ok e1_ok 2
theorem e3_ok:MSok e3:=addM_ok e2_ok 1
theorem e4_ok:MSok e4:=tmM_ok e3_ok 2
theorem e5_ok:MSok e5:=setM_ok e4_ok 1 _
def niC (x:MS):List SV:=[.p 100001 0 0,.sl 100002 0 x.g.es.length,.sl 100003 0 x.g.n,.ns,.ns,.b x.od]
def addNC:CT where
 X:=MNx
 pre:=fun x=>x.m.src.length=x.m.g.n
 args:=fun x=>[.p 100000 0 0,.i .i64 x.v]
 g0:=fun x=>[(100000,.one .own (niC x.m)),(100001,.rows .bor kG 1 (encG x.m.g)),(100002,.rows .bor k1 x.m.g.es.length (encL encI x.m.ts)),(100003,.rows .own kB x.m.g.n (encL encBo x.m.src))]
 res:=fun x=>.i .i64 (addE x.m x.v)
 g1:=fun x=>[(100000,.one .own (niC ⟨x.m.g,x.m.ts,x.m.src,[],[],(addM x.m x.v).od⟩)),(100003,.rows .own kB x.m.g.n (encL encBo (addM x.m x.v).src))]
set_option maxRecDepth 100000 in
theorem addN_keeps:Keeps cfgJ4 Tryz.f21 addNC noIv:=Eq.mp (show((∀ x1:MNx,(x1.m.src.length=x1.m.g.n->(∃ x3:MNx,(True/\(((0=0/\0=0)/\(x1.v=x3.v/\True))/\((((0=0/\0=0)/\((0=0/\x1.m.g.es.length=x3.m.g.es.length)/\((0=0/\x1.m.g.n=x3.m.g.n)/\((True/\(0=0/\(x3.m.dist.length=(0:Nat))))/\((True/\(0=0/\(x3.m.so.length=(0:Nat))))/\(x1.m.od=x3.m.od/\True))))))/\((RLe 1 1/\(RG x1.m.g x3.m.g))/\(((RLe x3.m.g.es.length x1.m.g.es.length)/\(RI x3.m.g.es.length x1.m.ts x3.m.ts))/\(((RLe x3.m.g.n x1.m.g.n)/\(RB x3.m.g.n x1.m.src x3.m.src))/\((x3.m.dist.length=(0:Nat))/\((x3.m.so.length=(0:Nat))/\True))))))/\((((!inN1 x3.m x3.v)=true)->(((1:Int)=addE x1.m x1.v)/\(((0=0/\0=0)/\((0=0/\x1.m.g.es.length=x1.m.g.es.length)/\((0=0/\x1.m.g.n=x1.m.g.n)/\(True/\(True/\((x1.m.od=(addM x1.m x1.v).od)/\True))))))/\(((RLe x1.m.g.n x1.m.g.n)/\(RB x1.m.g.n x1.m.src (addM x1.m x1.v).src))/\True))))/\(((!inN1 x3.m x3.v)=false)->((((0:Int)<=x1.v)/\(x1.v<(x1.m.g.n:Int)))/\((0+Int.toNat x1.v<x1.m.g.n)/\(((x1.m.src.getD (0+Int.toNat x1.v) default=true)->(((5:Int)=addE x1.m x1.v)/\(((0=0/\0=0)/\((0=0/\x1.m.g.es.length=x1.m.g.es.length)/\((0=0/\x1.m.g.n=x1.m.g.n)/\(True/\(True/\((x1.m.od=(addM x1.m x1.v).od)/\True))))))/\(((RLe x1.m.g.n x1.m.g.n)/\(RB x1.m.g.n x1.m.src (addM x1.m x1.v).src))/\True))))/\((x1.m.src.getD (0+Int.toNat x1.v) default=false)->((((0:Int)<=x1.v)/\(x1.v<(x1.m.g.n:Int)))/\(((0+Int.toNat x1.v<x1.m.g.n)/\(True/\True))/\(((0:Int)=addE x1.m x1.v)/\(((0=0/\0=0)/\((0=0/\x1.m.g.es.length=x1.m.g.es.length)/\((0=0/\x1.m.g.n=x1.m.g.n)/\(True/\(True/\((true=(addM x1.m x1.v).od)/\True))))))/\(((RLe x1.m.g.n x1.m.g.n)/\(RowsEq (Kd.bool::[]) x1.m.g.n (setRow (encL encBo x1.m.src) (0+Int.toNat x1.v) 0 (D.b true::@List.nil D)) (encL encBo (addM x1.m x1.v).src)))/\True))))))))))))))))))=(Keeps cfgJ4 Tryz.f21 addNC noIv) by kernel_rfl) (fun x1=>fun h2=>⟨({ m:={ g:=MS.g (MNx.m x1),ts:=MS.ts (MNx.m x1),src:=MS.src (MNx.m x1),dist:=@List.nil Int,so:=@List.nil Int,od:=MS.od (MNx.m x1):MS },v:=MNx.v x1:MNx }),trivial,
⟨⟨rfl,rfl⟩,rfl,trivial⟩,
⟨⟨⟨rfl,rfl⟩,
⟨rfl,rfl⟩,
⟨rfl,rfl⟩,
⟨trivial,rfl,
(by grind)⟩,
⟨trivial,rfl,
(by grind)⟩,rfl,trivial⟩,
⟨rl,rr⟩,
⟨rl,rr⟩,
⟨rl,rr⟩,
(by grind),
(by grind),trivial⟩,
fun h4=>⟨((add_1 (x:=x1.m) (v:=x1.v) ‹_›).2.symm),
⟨⟨rfl,rfl⟩,
⟨rfl,rfl⟩,
⟨rfl,rfl⟩,trivial,trivial,
(by rw[(add_1 (x:=x1.m) (v:=x1.v) ‹_›).1]),trivial⟩,
⟨rl,
(by rw[(add_1 (x:=x1.m) (v:=x1.v) ‹_›).1];exact rr)⟩,trivial⟩,
fun h5=>⟨⟨(by have q:=inN1_yes (x:=x1.m) (v:=x1.v) h5;omega),
(by have q:=inN1_yes (x:=x1.m) (v:=x1.v) h5;omega)⟩,
(by have q:=inN1_yes (x:=x1.m) (v:=x1.v) h5;omega),
fun h6=>⟨(by(try simp only[Nat.zero_add]at *);have e:=add_2 (x:=x1.m) (v:=x1.v) ‹_› ‹_›;exact e.2.symm),
⟨⟨rfl,rfl⟩,
⟨rfl,rfl⟩,
⟨rfl,rfl⟩,trivial,trivial,
(by(try simp only[Nat.zero_add]at *);have e:=add_2 (x:=x1.m) (v:=x1.v) ‹_› ‹_›;(rw[e.1];done)),trivial⟩,
⟨rl,
(by(try simp only[Nat.zero_add]at *);have e:=add_2 (x:=x1.m) (v:=x1.v) ‹_› ‹_›;(rw[e.1];exact rr))⟩,trivial⟩,
fun h7=>⟨⟨(by have q:=inN1_yes (x:=x1.m) (v:=x1.v) h5;omega),
(by have q:=inN1_yes (x:=x1.m) (v:=x1.v) h5;omega)⟩,
⟨(by have q:=inN1_yes (x:=x1.m) (v:=x1.v) h5;omega),trivial,trivial⟩,
(by(try simp only[Nat.zero_add]at *);have e:=add_3 (x:=x1.m) (v:=x1.v) ‹_› ‹_›;exact e.2.symm),
⟨⟨rfl,rfl⟩,
⟨rfl,rfl⟩,
⟨rfl,rfl⟩,trivial,trivial,
(by(try simp only[Nat.zero_add]at *);have e:=add_3 (x:=x1.m) (v:=x1.v) ‹_› ‹_›;(rw[e.1];done)),trivial⟩,
⟨rl,
(by rw[(add_3 (x:=x1.m) (v:=x1.v) h5 (by simpa using h7)).1];simp only[Nat.zero_add];exact rows_setB (by have q:=inN1_yes (x:=x1.m) (v:=x1.v) h5;omega))⟩,trivial⟩⟩⟩)
theorem addN_good:Good Tryz.prog 21 addNC/\FnOk Tryz.prog 21:=good_of tok conJ4 (fn:=Tryz.f21) rfl (by decide+kernel) (fun _=>rfl) addN_keeps
def selN:List SV->Hp->Bool:=fun args G=>match args with
 | .p l _ _::_=>(match G l with
  |some (.one _ cs)=>(match cs with
   | [_,_,_,.ns,_,_]=>true
   |_=>false)
  |_=>false)
 |_=>false
def awC:CT where
 X:=Unit
 pre:=fun _=>True
 args:=fun _=>[]
 g0:=fun _=>[]
 res:=fun _=>.b true
 g1:=fun _=>[]
def cfgAw:Cfg:=⟨T,[],[(17,.one (netYC .own)),(18,.one newIC),(21,.two selN (.one addNC) (.one addSC)),(10,.one timC),(22,.one setTC),(13,.one farC),(12,.one wiC),(23,.one strC)],noInv,14,{}⟩
theorem conAw:ConOk Tryz.prog cfgAw:=ConL.ok (.cons (ConL.one netYo_good) (.cons (ConL.one newI_good) (.cons (ConL.two (ConL.one addN_good) (ConL.one addS_good)) (.cons (ConL.one tim_good) (.cons (ConL.one setT_good) (.cons (ConL.one far_good) (.cons (ConL.one wi_good) (.cons (ConL.one str_good) .nil))))))))
set_option maxRecDepth 100000 in
theorem aw_keeps:Keeps cfgAw Tryz.f6 awC noIv:=Eq.mp (show((∀ x1:Unit,(True->(((True/\(True/\(True/\True)))/\((True/\(True/\(True/\True)))/\True))/\(∃ x3:NewX,((rightB x3=true)/\(((3=x3.n/\((0=0/\((2:Nat)=x3.es.length))/\True))/\True)/\((((RLe x3.es.length 2)/\(RowsEq [.int .i64,.int .i64,.int .i64] x3.es.length (litRows ((D.i 0::D.i 1::D.i 5::@List.nil D)::(D.i 1::D.i 2::D.i 5::@List.nil D)::@List.nil (List D))) (encL encE x3.es)))/\True)/\(((True/\True)/\((True/\True)/\True))/\(∃ x4:NIx,((GOk x4.g)/\(((0=0/\0=0)/\((0=0/\((2:Nat)=x4.ts.length))/\True))/\(((RLe 1 1/\(RG (NewX.g x3) x4.g))/\(((RLe x4.ts.length 2)/\(RowsEq [.int .i64] x4.ts.length (litRows ((D.i 5::@List.nil D)::(D.i 5::@List.nil D)::@List.nil (List D))) (encL encI x4.ts)))/\True))/\(((decide ((0:Int)≠(0:Int))=false)->(∃ x6:MNx,(x6.m.src.length=x6.m.g.n/\(((0=0/\0=0)/\(0=x6.v/\True))/\((((0=0/\0=0)/\((0=0/\x4.g.es.length=x6.m.g.es.length)/\((0=0/\x4.g.n=x6.m.g.n)/\(True/\(True/\(true=x6.m.od/\True))))))/\((RLe 1 1/\(RG (NewX.g x3) x6.m.g))/\(((RLe x6.m.g.es.length x4.g.es.length)/\(RI x6.m.g.es.length (ttL x4.ts x4.g.es.length) x6.m.ts))/\(((RLe x6.m.g.n x4.g.n)/\(RB x6.m.g.n (List.replicate x4.g.n false) x6.m.src))/\True))))/\(((decide (addE x6.m x6.v≠(0:Int))=true)->(false=true/\True))/\((decide (addE x6.m x6.v≠(0:Int))=false)->(∃ x9:MNx,((MSok x9.m)/\(((0=0/\0=0)/\(2=x9.v/\True))/\((((0=0/\0=0)/\((0=0/\x6.m.g.es.length=x9.m.g.es.length)/\((0=0/\x6.m.g.n=x9.m.g.n)/\((True/\(0=0/\(x9.m.dist.length=(0:Nat))))/\((True/\(0=0/\(x9.m.so.length=(0:Nat))))/\(((addM x6.m x6.v).od=x9.m.od)/\True))))))/\((RLe 1 1/\(RG (NewX.g x3) x9.m.g))/\(((RLe x9.m.g.es.length x4.g.es.length)/\(RI x9.m.g.es.length (ttL x4.ts x4.g.es.length) x9.m.ts))/\(((RLe x9.m.g.n x6.m.g.n)/\(RB x9.m.g.n (addM x6.m x6.v).src x9.m.src))/\((x9.m.dist.length=(0:Nat))/\((x9.m.so.length=(0:Nat))/\True))))))/\(((decide (tmD x9.m x9.v≠(10:Int))=false)->(((decide (tmS x9.m x9.v≠(0:Int))=false)->(∃ x12:MNx,(x12.m.src.length=x12.m.g.n/\(((0=0/\0=0)/\(1=x12.v/\True))/\((((0=0/\0=0)/\((0=0/\x9.m.g.es.length=x12.m.g.es.length)/\((0=0/\x9.m.g.n=x12.m.g.n)/\((0=0/\((tmM x9.m x9.v).dist.length=x12.m.dist.length))/\((0=0/\((tmM x9.m x9.v).so.length=x12.m.so.length))/\(((tmM x9.m x9.v).od=x12.m.od)/\True))))))/\((RLe 1 1/\(RG (NewX.g x3) x12.m.g))/\(((RLe x12.m.g.es.length x4.g.es.length)/\(RI x12.m.g.es.length (ttL x4.ts x4.g.es.length) x12.m.ts))/\(((RLe x12.m.g.n x6.m.g.n)/\(RB x12.m.g.n (addM x6.m x6.v).src x12.m.src))/\(((RLe x12.m.dist.length (tmM x9.m x9.v).dist.length)/\(RI x12.m.dist.length (tmM x9.m x9.v).dist x12.m.dist))/\(((RLe x12.m.so.length (tmM x9.m x9.v).so.length)/\(RI x12.m.so.length (tmM x9.m x9.v).so x12.m.so))/\True))))))/\(((decide (addE x12.m x12.v≠(0:Int))=true)->(false=true/\True))/\((decide (addE x12.m x12.v≠(0:Int))=false)->(∃ x15:MNx,((MSok x15.m)/\(((0=0/\0=0)/\(2=x15.v/\True))/\((((0=0/\0=0)/\((0=0/\((addM x12.m x12.v).g.es.length=x15.m.g.es.length))/\((0=0/\((addM x12.m x12.v).g.n=x15.m.g.n))/\((0=0/\((addM x12.m x12.v).dist.length=x15.m.dist.length))/\((0=0/\((addM x12.m x12.v).so.length=x15.m.so.length))/\(((addM x12.m x12.v).od=x15.m.od)/\True))))))/\((RLe 1 1/\(RG (NewX.g x3) x15.m.g))/\(((RLe x15.m.g.es.length x4.g.es.length)/\(RI x15.m.g.es.length (ttL x4.ts x4.g.es.length) x15.m.ts))/\(((RLe x15.m.g.n (addM x12.m x12.v).g.n)/\(RB x15.m.g.n (addM x12.m x12.v).src x15.m.src))/\(((RLe x15.m.dist.length (tmM x9.m x9.v).dist.length)/\(RI x15.m.dist.length (tmM x9.m x9.v).dist x15.m.dist))/\(((RLe x15.m.so.length (tmM x9.m x9.v).so.length)/\(RI x15.m.so.length (tmM x9.m x9.v).so x15.m.so))/\True))))))/\(∃ x16:METx,((MSok x16.m)/\(((0=0/\0=0)/\(1=x16.e/\(4611686018427387904=x16.t/\True)))/\((((0=0/\0=0)/\((0=0/\x15.m.g.es.length=x16.m.g.es.length)/\((0=0/\x15.m.g.n=x16.m.g.n)/\((0=0/\((tmM x15.m x15.v).dist.length=x16.m.dist.length))/\((0=0/\((tmM x15.m x15.v).so.length=x16.m.so.length))/\(((tmM x15.m x15.v).od=x16.m.od)/\True))))))/\((RLe 1 1/\(RG (NewX.g x3) x16.m.g))/\(((RLe x16.m.g.es.length x4.g.es.length)/\(RI x16.m.g.es.length (ttL x4.ts x4.g.es.length) x16.m.ts))/\(((RLe x16.m.g.n (addM x12.m x12.v).g.n)/\(RB x16.m.g.n (addM x12.m x12.v).src x16.m.src))/\(((RLe x16.m.dist.length (tmM x15.m x15.v).dist.length)/\(RI x16.m.dist.length (tmM x15.m x15.v).dist x16.m.dist))/\(((RLe x16.m.so.length (tmM x15.m x15.v).so.length)/\(RI x16.m.so.length (tmM x15.m x15.v).so x16.m.so))/\True))))))/\(∃ x17:MS,((MSok x17)/\(((0=0/\0=0)/\True)/\((((0=0/\0=0)/\((0=0/\x16.m.g.es.length=x17.g.es.length)/\((0=0/\x16.m.g.n=x17.g.n)/\((0=0/\((setM x16.m x16.e x16.t).dist.length=x17.dist.length))/\((0=0/\((setM x16.m x16.e x16.t).so.length=x17.so.length))/\(((setM x16.m x16.e x16.t).od=x17.od)/\True))))))/\((RLe 1 1/\(RG (NewX.g x3) x17.g))/\(((RLe x17.g.es.length x16.m.g.es.length)/\(RI x17.g.es.length (setM x16.m x16.e x16.t).ts x17.ts))/\(((RLe x17.g.n (addM x12.m x12.v).g.n)/\(RB x17.g.n (addM x12.m x12.v).src x17.src))/\(((RLe x17.dist.length (setM x16.m x16.e x16.t).dist.length)/\(RI x17.dist.length (setM x16.m x16.e x16.t).dist x17.dist))/\(((RLe x17.so.length (setM x16.m x16.e x16.t).so.length)/\(RI x17.so.length (setM x16.m x16.e x16.t).so x17.so))/\True))))))/\(((decide (tmD x15.m x15.v=(5:Int))=true)->(((decide (tmS x15.m x15.v=(1:Int))=true)->(((decide (setN x16.m x16.e x16.t=(1:Int))=true)->(((decide (setE x16.m x16.e x16.t=(0:Int))=true)->(((decide (Prod.fst (faL (MS.dI x17))=(4611686018427387904:Int))=true)->(((decide (Prod.snd (faL (MS.dI x17))=(2:Int))=true)->(∃ x24:MNx,((MSok x24.m)/\(((0=0/\0=0)/\(9=x24.v/\True))/\((((0=0/\0=0)/\((0=0/\x17.g.es.length=x24.m.g.es.length)/\((0=0/\x17.g.n=x24.m.g.n)/\((0=0/\x17.g.n=x24.m.dist.length)/\((0=0/\x17.g.n=x24.m.so.length)/\(false=x24.m.od/\True))))))/\((RLe 1 1/\(RG (NewX.g x3) x24.m.g))/\(((RLe x24.m.g.es.length x16.m.g.es.length)/\(RI x24.m.g.es.length (setM x16.m x16.e x16.t).ts x24.m.ts))/\(((RLe x24.m.g.n (addM x12.m x12.v).g.n)/\(RB x24.m.g.n (addM x12.m x12.v).src x24.m.src))/\(((RLe x24.m.dist.length x17.g.n)/\(RI x24.m.dist.length (MS.dI x17) x24.m.dist))/\(((RLe x24.m.so.length x17.g.n)/\(RI x24.m.so.length (soF x17 (MS.dI x17)) x24.m.so))/\True))))))/\(∃ x25:List Nat,(((WOk x25)/\(elemsZ x25=0::(1:Int)::@List.nil Int))/\((((szW (ofW (wiL (MS.dI x24.m) x24.v) (wiL (MS.dI x24.m) x24.v).length)=szW x25)/\True)/\True)/\((((RLe (szW x25) (szW (ofW (wiL (MS.dI x24.m) x24.v) (wiL (MS.dI x24.m) x24.v).length)))/\(RowsEq [.int .u64] (szW x25) (encL encW (ofW (wiL (MS.dI x24.m) x24.v) (wiL (MS.dI x24.m) x24.v).length)) (encL encW x25)))/\True)/\(((ByteArray.toList t01==ByteArray.toList (ByteArray.mk (List.toArray ((48:UInt8)::(45:UInt8)::(49:UInt8)::@List.nil UInt8))))=true)/\True))))))))))/\((decide (Prod.snd (faL (MS.dI x17))=(2:Int))=false)->(false=true/\True))))/\((decide (Prod.fst (faL (MS.dI x17))=(4611686018427387904:Int))=false)->(false=true/\True))))/\((decide (setE x16.m x16.e x16.t=(0:Int))=false)->(false=true/\True))))/\((decide (setN x16.m x16.e x16.t=(1:Int))=false)->(false=true/\True))))/\((decide (tmS x15.m x15.v=(1:Int))=false)->(false=true/\True))))/\((decide (tmD x15.m x15.v=(5:Int))=false)->(false=true/\True))))))))))))))))))))))/\((decide (tmS x9.m x9.v≠(0:Int))=true)->(false=true/\True))))/\((decide (tmD x9.m x9.v≠(10:Int))=true)->(false=true/\True))))))))))))))/\((decide ((0:Int)≠(0:Int))=true)->(false=true/\True))))))))))))))))=(Keeps cfgAw Tryz.f6 awC noIv) by kernel_rfl) (fun x1=>fun h2=>⟨⟨⟨trivial,
 trivial,trivial,trivial⟩,
⟨trivial,trivial,trivial,trivial⟩,trivial⟩,
({ n:=(3:Int),es:=exE:NewX }),rfl,
⟨⟨rfl,
⟨rfl,rfl⟩,trivial⟩,trivial⟩,
⟨⟨⟨(Nat.le_refl _)⟩,
(by exact⟨fun r hr=>by have hr:r<2:=hr;rcases(show r=0∨r=1 by omega)with h|h <;>subst h <;>exact⟨rfl,rfl,rfl,trivial⟩⟩)⟩,trivial⟩,
⟨⟨trivial,trivial⟩,
⟨trivial,trivial⟩,trivial⟩,
({ g:=exG,ts:=(5:Int)::(5:Int)::@List.nil Int:NIx }),
((gok (x:=⟨3,exE⟩) (by decide) (by decide) (by decide) (by decide))),
⟨⟨rfl,rfl⟩,
⟨rfl,
(by grind)⟩,trivial⟩,
⟨⟨rl,rr⟩,
⟨⟨(by grind)⟩,
(by exact⟨fun r hr=>by have hr:r<2:=hr;rcases(show r=0∨r=1 by omega)with h|h <;>subst h <;>exact⟨rfl,trivial⟩⟩)⟩,trivial⟩,
fun g5=>have h5:=dF g5;⟨({ m:=e0,v:=(0:Int):MNx }),rfl,
⟨⟨rfl,rfl⟩,rfl,trivial⟩,
⟨⟨⟨rfl,rfl⟩,
⟨rfl,rfl⟩,
⟨rfl,rfl⟩,trivial,trivial,rfl,trivial⟩,
⟨rl,rr⟩,
⟨⟨(Nat.le_refl _)⟩,rr⟩,
⟨⟨(Nat.le_refl _)⟩,rr⟩,trivial⟩,
fun g7=>have h7:=dT g7;⟨(by assumption),trivial⟩,
fun g8=>have h8:=dF g8;⟨({ m:=e1,v:=(2:Int):MNx }),e1_ok,
⟨⟨rfl,rfl⟩,rfl,trivial⟩,
⟨⟨⟨rfl,rfl⟩,
⟨rfl,rfl⟩,
⟨rfl,rfl⟩,
⟨trivial,rfl,rfl⟩,
⟨trivial,rfl,rfl⟩,rfl,trivial⟩,
⟨rl,rr⟩,
⟨⟨(Nat.le_refl _)⟩,rr⟩,
⟨⟨(Nat.le_refl _)⟩,rr⟩,rfl,rfl,trivial⟩,
fun g10=>have h10:=dF g10;⟨fun g11=>have h11:=dF g11;⟨({ m:=e2,v:=(1:Int):MNx }),rfl,
⟨⟨rfl,rfl⟩,rfl,trivial⟩,
⟨⟨⟨rfl,rfl⟩,
⟨rfl,rfl⟩,
⟨rfl,rfl⟩,
⟨rfl,rfl⟩,
⟨rfl,rfl⟩,
(by assumption),trivial⟩,
⟨rl,rr⟩,
⟨⟨(Nat.le_refl _)⟩,rr⟩,
⟨⟨(Nat.le_refl _)⟩,rr⟩,
⟨⟨(Nat.le_refl _)⟩,rr⟩,
⟨⟨(Nat.le_refl _)⟩,rr⟩,trivial⟩,
fun g13=>have h13:=dT g13;⟨(by assumption),trivial⟩,
fun g14=>have h14:=dF g14;⟨({ m:=e3,v:=(2:Int):MNx }),e3_ok,
⟨⟨rfl,rfl⟩,rfl,trivial⟩,
⟨⟨⟨rfl,rfl⟩,
⟨rfl,rfl⟩,
⟨rfl,rfl⟩,
⟨rfl,rfl⟩,
⟨rfl,rfl⟩,rfl,trivial⟩,
⟨rl,rr⟩,
⟨⟨(Nat.le_refl _)⟩,rr⟩,
⟨⟨(Nat.le_refl _)⟩,rr⟩,
⟨⟨(Nat.le_refl _)⟩,rr⟩,
⟨⟨(Nat.le_refl _)⟩,rr⟩,trivial⟩,
({ m:=e4,e:=(1:Int),t:=(4611686018427387904:Int):METx }),e4_ok,
⟨⟨rfl,rfl⟩,rfl,rfl,trivial⟩,
⟨⟨⟨rfl,rfl⟩,
⟨rfl,rfl⟩,
⟨rfl,rfl⟩,
⟨rfl,rfl⟩,
⟨rfl,rfl⟩,
(by assumption),trivial⟩,
⟨rl,rr⟩,
⟨⟨(Nat.le_refl _)⟩,rr⟩,
⟨⟨(Nat.le_refl _)⟩,rr⟩,
⟨⟨(Nat.le_refl _)⟩,rr⟩,
⟨⟨(Nat.le_refl _)⟩,rr⟩,trivial⟩,
(e5),e5_ok,
⟨⟨rfl,rfl⟩,trivial⟩,
⟨⟨⟨rfl,rfl⟩,
⟨rfl,rfl⟩,
⟨rfl,rfl⟩,
⟨rfl,rfl⟩,
⟨rfl,rfl⟩,
(by assumption),trivial⟩,
⟨rl,rr⟩,
⟨⟨(Nat.le_refl _)⟩,rr⟩,
⟨⟨(Nat.le_refl _)⟩,rr⟩,
⟨⟨(Nat.le_refl _)⟩,rr⟩,
⟨⟨(Nat.le_refl _)⟩,rr⟩,trivial⟩,
fun g18=>have h18:=dT g18;⟨fun g19=>have h19:=dT g19;⟨fun g20=>have h20:=dT g20;⟨fun g21=>have h21:=dT g21;⟨fun g22=>have h22:=dT g22;⟨fun g23=>have h23:=dT g23;⟨({ m:=MS.up e5,v:=(9:Int):MNx }),e5_ok,
⟨⟨rfl,rfl⟩,rfl,trivial⟩,
⟨⟨⟨rfl,rfl⟩,
⟨rfl,rfl⟩,
⟨rfl,rfl⟩,
⟨rfl,rfl⟩,
⟨rfl,rfl⟩,
(by assumption),trivial⟩,
⟨rl,rr⟩,
⟨⟨(Nat.le_refl _)⟩,rr⟩,
⟨⟨(Nat.le_refl _)⟩,rr⟩,
⟨⟨(Nat.le_refl _)⟩,rr⟩,
⟨⟨(Nat.le_refl _)⟩,rr⟩,trivial⟩,
(exW),
⟨(ofW_ok _ _),rfl⟩,
⟨⟨rfl,trivial⟩,trivial⟩,
⟨⟨⟨(Nat.le_refl _)⟩,rr⟩,trivial⟩,
(beq_self_eq_true t01.toList),trivial⟩,
fun g26=>have h26:=dF g26;⟨(by exact absurd ex_2.2.2.2 ‹_›),trivial⟩⟩,
fun g27=>have h27:=dF g27;⟨(by exact absurd ex_2.2.2.1 ‹_›),trivial⟩⟩,
fun g28=>have h28:=dF g28;⟨(by exact absurd ex_1.1 ‹_›),trivial⟩⟩,
fun g29=>have h29:=dF g29;⟨(by exact absurd ex_1.2.2.2.2.2 ‹_›),trivial⟩⟩,
fun g30=>have h30:=dF g30;⟨(by exact absurd ex_1.2.2.2.2.2 ‹_›),trivial⟩⟩,
fun g31=>have h31:=dF g31;⟨(by exact absurd ex_1.2.2.2.2.1 ‹_›),trivial⟩⟩⟩,
fun g32=>have h32:=dT g32;⟨(by assumption),trivial⟩⟩,
fun g33=>have h33:=dT g33;⟨(by assumption),trivial⟩⟩⟩,
fun g34=>have h34:=dT g34;⟨(by omega),trivial⟩⟩)
theorem aw_good:Good Tryz.prog 6 awC/\FnOk Tryz.prog 6:=good_of tok conAw (fn:=Tryz.f6) rfl (by decide+kernel) (fun _=>rfl) aw_keeps
end Go.Sym
namespace Go.Sym
open Go.Proofs
set_option maxRecDepth 100000
structure LX where
 p:PLX
 a:Int
 b:Int
def LX.m (x:LX):MS:=plM x.p
def law10 (ar:LX->List SV) (b:Bool):CT:=⟨LX,fun x=>True/\plOk x.p=b,fun x=>plA x.p::ar x,fun x=>plH x.p,fun _=>.b true,fun _=>[]⟩
def CN10:List (Nat × Con):=[(5,.one plNC),(6,.one awC)]
def cfgLn:Cfg:=⟨T,[],CN10,noInv,20,{}⟩
theorem conLn:ConOk Tryz.prog cfgLn:=ConL.ok (.cons (ConL.one plN_good) (.cons (ConL.one aw_good) .nil))
structure SD where
 k:Nat
 dist:List Int
 so:List Int
 od:Bool
structure Alk (y m:MS):Prop where
 ok:MSok y
 g:y.g=m.g
 ts:y.ts=m.ts
 src:y.src=m.src
theorem Alk.rfl' {m:MS} (h:MSok m):Alk m m:=⟨h,rfl,rfl,rfl⟩
theorem Alk.dI {y m:MS} (h:Alk y m):y.dI=m.dI:=by unfold MS.dI;rw[h.g,h.ts,h.src]
theorem Alk.n {y m:MS} (h:Alk y m):y.g.n=m.g.n:=by rw[h.g]
theorem Alk.e {y m:MS} (h:Alk y m):y.g.es.length=m.g.es.length:=by rw[h.g]
theorem Alk.tm {y m:MS} (h:Alk y m) (v:Int):Alk (tmM y v) m:=by
 refine⟨tmM_ok h.ok v,?_,?_,?_⟩ <;>unfold tmM <;>split <;>first|exact h.g|exact h.ts|exact h.src
theorem Alk.d {y m:MS} (h:Alk y m) {v:Nat} (hv:v<m.g.n):tmD y v=m.dI.getD v default:=by
 unfold tmD
 have:inN1 y v=true:=decide_eq_true ⟨by omega,by rw[h.n];omega⟩
 rw[if_pos this,h.dI,Int.toNat_natCast]
theorem lm_ok {x:LX} (h:True/\plOk x.p=true):MSok x.m/\x.m.g=plG x.p/\((x.m.g.n:Nat):Int)=x.p.n:=by
 have:=plAt_ok h.2 x.p.acts.length
 exact⟨this.1,this.2,pm_n h.2 _⟩
theorem lm_l {x:LX} (h:True/\plOk x.p=true):x.m.g.es.length=x.p.es.length/\x.m.ts.length=x.m.g.es.length/\x.m.g.n<=12/\FXok (rF x.m):=⟨(pm_g h.2 _).1,(lm_ok h).1.ts,(lm_ok h).1.n,(lm_ok h).1.fx⟩
theorem lm_r {x:LX} (h:True/\plOk x.p=true) (n:Nat):RowsEq kE n (encL encE x.p.es) (encL encE x.m.g.es):=rowsE (congrArg Gr.es (lm_ok h).2.1).symm
end Go.Sym
namespace Go.Sym
set_option linter.unusedVariables false
theorem findF_alk {y m:MS} (h:Alk y m) (d so:List Int) (v:Nat):findF y d so v=findF m d so v:=by
 have e:stepSo y d so v=stepSo m d so v:=by funext s i;unfold stepSo;rw[h.g,h.ts]
 unfold findF inN;rw[e,h.src,h.g]
theorem soF_alk {y m:MS} (h:Alk y m) (d:List Int):soF y d=soF m d:=by
 unfold soF
 congr 1
 funext so v
 rw[findF_alk h]
theorem Alk.s {y m:MS} (h:Alk y m) {v:Nat} (hv:v<m.g.n):tmS y v=(soF m m.dI).getD v default:=by
 unfold tmS
 have:inN1 y v=true:=decide_eq_true ⟨by omega,by rw[h.n];omega⟩
 rw[if_pos this,soF_alk h,h.dI,Int.toNat_natCast]
end Go.Sym
namespace Go.Sym
set_option linter.unusedVariables false
set_option linter.unusedSimpArgs false
def tight (m:MS) (d:List Int) (v i:Nat):Prop:=¬ (m.ts.getD i default=4611686018427387904∨d.getD (m.g.es.getD i default).f.toNat default=4611686018427387904)/\d.getD (m.g.es.getD i default).f.toNat default+m.ts.getD i default=d.getD v default
def ndS (m:MS) (s:Int):List Int:=((rF m).s s).d
structure Near (m:MS) (v:Nat) (s:Int):Prop where
 mem:s∈srcL m.src
 at_:(ndS m s).getD v default=m.dI.getD v default
 least:∀ s'∈srcL m.src,(ndS m s').getD v default=m.dI.getD v default->s<=s'
end Go.Sym