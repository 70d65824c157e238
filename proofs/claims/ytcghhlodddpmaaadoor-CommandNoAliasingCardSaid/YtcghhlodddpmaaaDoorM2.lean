import Derived.Test.YtcghhlodddpmaaaDoorM1
import Derived.Test.YtcghhlodddpmaaaDoorV10
import Derived.Test.YtcghhlodddpmaaaDoorX6
import Derived.Test.YtcghhlodddpmaaaDoorY3
import Derived.Test.YtcghhlodddpmaaaDoorXD
namespace Go.Sym
set_option linter.unusedVariables false
set_option linter.unusedSimpArgs false
open Go.Proofs
set_option maxRecDepth 100000
set_option maxHeartbeats 4000000
def dmR (B:List Int):Nat->Rd
 |0=>rd0 B
 |i+1=>intR (dmR B i)
def dmL (B:List Int):Rd:=bsR (dmR B 6)
def dmM (B:List Int):Msg:=⟨intV (dmR B 0),intV (dmR B 1),intV (dmR B 2),intV (dmR B 3),intV (dmR B 4),intV (dmR B 5),bsV (dmR B 6)⟩
def dmC (B:List Int):Msg:=if fnV (dmL B)≠0 then {} else if vM (dmM B)=true then dmM B else {}
def dmE (B:List Int):Int:=if fnV (dmL B)≠0 then fnV (dmL B)else if vM (dmM B)=true then 0 else 2
theorem dmR_ok {B:List Int} (h:inB B):∀ i,RdOk (dmR B i)
 |0=>rd0_ok h
 |i+1=>intR_ok (dmR_ok h i)
theorem dmL_ok {B:List Int} (h:inB B):RdOk (dmL B):=bsR_ok (dmR_ok h 6)
def cfgM2:Cfg:=⟨T,[],[(50,.one nrC),(51,.one riC),(56,.one bsC),(52,.one fnC),(57,.one vmC)],noInv,60,{}⟩
theorem conM2:ConOk Tryd.prog cfgM2:=ConL.ok (.cons (ConL.one nr_good) (.cons (ConL.one ri_good) (.cons (ConL.one bs_good) (.cons (ConL.one fn_good) (.cons (ConL.one vm_good) .nil)))))
def dmCt:CT where
 X:=List Int
 pre:=inB
 args:=fun x=>[.sl 100001 0 x.length]
 g0:=fun x=>[(100001,.rows .bor kB x.length (encL encI x))]
 res:=fun x=>.tup [.agg (ml (dmC x) 1),.i .i64 (dmE x)]
 g1:=fun x=>[mO 1 (dmC x)]
theorem dm_1 {B:List Int} (h:fnV (dmL B)≠0):dmC B={}/\fnV (dmL B)=dmE B:=by
 unfold dmC dmE
 rw[if_pos h,if_pos h]
 exact⟨rfl,rfl⟩
theorem dm_2 {B:List Int} (h:¬ fnV (dmL B)≠0) (h1:(!vM (dmM B))=true):dmC B={}/\2=dmE B:=by
 have h1:¬ vM (dmM B)=true:=by simpa using h1
 unfold dmC dmE
 rw[if_neg h,if_neg h,if_neg h1,if_neg h1]
 exact⟨rfl,rfl⟩
theorem dm_3 {B:List Int} (h:¬ fnV (dmL B)≠0) (h1:(!vM (dmM B))=false):dmC B=dmM B/\0=dmE B:=by
 have h1:vM (dmM B)=true:=by simpa using h1
 unfold dmC dmE
 rw[if_neg h,if_neg h,if_pos h1,if_pos h1]
 exact⟨rfl,rfl⟩
set_option maxRecDepth 100000 in
theorem dm_keeps:Keeps cfgM2 Tryd.f21 dmCt noIv:=Eq.mp (show((∀ x1:List Int,((inB x1)->(∃ x3:List Int,((x3.length<=(1000000:Nat))/\(((0=0/\x1.length=x3.length)/\True)/\((((RLe x3.length x1.length)/\(RowsEq (.int IntKind.u8::[]) x3.length (encL encI x1) (encL encI x3)))/\True)/\(∃ x4:Rd,((RdOk x4)/\(((0=0/\0=0)/\True)/\((((((0:Nat)=x4.lo)/\(x3.length-(0:Nat)=x4.B.length-x4.lo))/\(0=x4.e/\True))/\(((RLe x4.B.length x3.length)/\(RowsEq (.int IntKind.u8::[]) x4.B.length (encL encI x3) (encL encI x4.B)))/\True))/\(∃ x5:Rd,((RdOk x5)/\(((0=0/\0=0)/\True)/\((((((intR x4).lo=x5.lo)/\((intR x4).B.length-(intR x4).lo=x5.B.length-x5.lo))/\(((intR x4).e=x5.e)/\True))/\(((RLe x5.B.length (intR x4).B.length)/\(RowsEq (.int IntKind.u8::[]) x5.B.length (encL encI (intR x4).B) (encL encI x5.B)))/\True))/\(∃ x6:Rd,((RdOk x6)/\(((0=0/\0=0)/\True)/\((((((intR x5).lo=x6.lo)/\((intR x5).B.length-(intR x5).lo=x6.B.length-x6.lo))/\(((intR x5).e=x6.e)/\True))/\(((RLe x6.B.length (intR x5).B.length)/\(RowsEq (.int IntKind.u8::[]) x6.B.length (encL encI (intR x5).B) (encL encI x6.B)))/\True))/\(∃ x7:Rd,((RdOk x7)/\(((0=0/\0=0)/\True)/\((((((intR x6).lo=x7.lo)/\((intR x6).B.length-(intR x6).lo=x7.B.length-x7.lo))/\(((intR x6).e=x7.e)/\True))/\(((RLe x7.B.length (intR x6).B.length)/\(RowsEq (.int IntKind.u8::[]) x7.B.length (encL encI (intR x6).B) (encL encI x7.B)))/\True))/\(∃ x8:Rd,((RdOk x8)/\(((0=0/\0=0)/\True)/\((((((intR x7).lo=x8.lo)/\((intR x7).B.length-(intR x7).lo=x8.B.length-x8.lo))/\(((intR x7).e=x8.e)/\True))/\(((RLe x8.B.length (intR x7).B.length)/\(RowsEq (.int IntKind.u8::[]) x8.B.length (encL encI (intR x7).B) (encL encI x8.B)))/\True))/\(∃ x9:Rd,((RdOk x9)/\(((0=0/\0=0)/\True)/\((((((intR x8).lo=x9.lo)/\((intR x8).B.length-(intR x8).lo=x9.B.length-x9.lo))/\(((intR x8).e=x9.e)/\True))/\(((RLe x9.B.length (intR x8).B.length)/\(RowsEq (.int IntKind.u8::[]) x9.B.length (encL encI (intR x8).B) (encL encI x9.B)))/\True))/\(∃ x10:Rd,((RdOk x10)/\(((0=0/\0=0)/\True)/\((((((intR x9).lo=x10.lo)/\((intR x9).B.length-(intR x9).lo=x10.B.length-x10.lo))/\(((intR x9).e=x10.e)/\True))/\(((RLe x10.B.length (intR x9).B.length)/\(RowsEq (.int IntKind.u8::[]) x10.B.length (encL encI (intR x9).B) (encL encI x10.B)))/\True))/\(∃ x11:Rd,((RdOk x11)/\(((0=0/\0=0)/\True)/\((((((bsR x10).lo=x11.lo)/\((bsR x10).B.length-(bsR x10).lo=x11.B.length-x11.lo))/\(((bsR x10).e=x11.e)/\True))/\(((RLe x11.B.length (bsR x10).B.length)/\(RowsEq (.int IntKind.u8::[]) x11.B.length (encL encI (bsR x10).B) (encL encI x11.B)))/\True))/\(((decide (fnV x11≠(0:Int))=true)->((((0=(dmC x1).k)/\((0=(dmC x1).a)/\((0=(dmC x1).p)/\((0=(dmC x1).q)/\((0=(dmC x1).b)/\((0=(dmC x1).e)/\((True/\(0=0/\((dmC x1).body.length=(0:Nat))))/\True)))))))/\((fnV x11=dmE x1)/\True))/\(((dmC x1).body.length=(0:Nat))/\True)))/\((decide (fnV x11≠(0:Int))=false)->(∃ x14:Msg,(True/\((((intV x4=x14.k)/\((intV x5=x14.a)/\((intV x6=x14.p)/\((intV x7=x14.q)/\((intV x8=x14.b)/\((intV x9=x14.e)/\((0=0/\((bsV x10).length=x14.body.length))/\True)))))))/\True)/\((((RLe x14.body.length (bsV x10).length)/\(RowsEq (.int IntKind.u8::[]) x14.body.length (encL encI (bsV x10)) (encL encI x14.body)))/\True)/\((((!vM x14)=true)->((((0=(dmC x1).k)/\((0=(dmC x1).a)/\((0=(dmC x1).p)/\((0=(dmC x1).q)/\((0=(dmC x1).b)/\((0=(dmC x1).e)/\((True/\(0=0/\((dmC x1).body.length=(0:Nat))))/\True)))))))/\(((2:Int)=dmE x1)/\True))/\(((dmC x1).body.length=(0:Nat))/\True)))/\(((!vM x14)=false)->((((intV x4=(dmC x1).k)/\((intV x5=(dmC x1).a)/\((intV x6=(dmC x1).p)/\((intV x7=(dmC x1).q)/\((intV x8=(dmC x1).b)/\((intV x9=(dmC x1).e)/\((0=0/\((bsV x10).length=(dmC x1).body.length))/\True)))))))/\(((0:Int)=dmE x1)/\True))/\(((RLe (dmC x1).body.length (bsV x10).length)/\(RowsEq (.int IntKind.u8::[]) (dmC x1).body.length (encL encI (bsV x10)) (encL encI (dmC x1).body)))/\True)))))))))))))))))))))))))))))))))))))))))))))))))=(Keeps cfgM2 Tryd.f21 dmCt noIv) by kernel_rfl) (fun x1=>fun h2=>⟨(x1),
(by(try dsimp only at *);exact h2.2),
⟨⟨rfl,rfl⟩,trivial⟩,
⟨⟨rl,rr⟩,trivial⟩,
({ B:=x1,lo:=(0:Nat),e:=(0:Int):Rd }),
(by(try dsimp only at *);exact dmR_ok h2 0),
⟨⟨rfl,rfl⟩,trivial⟩,
⟨⟨⟨rfl,rfl⟩,rfl,trivial⟩,
⟨rl,rr⟩,trivial⟩,
(intR { B:=x1,lo:=(0:Nat),e:=(0:Int):Rd }),
(by(try dsimp only at *);exact dmR_ok h2 1),
⟨⟨rfl,rfl⟩,trivial⟩,
⟨⟨⟨rfl,rfl⟩,rfl,trivial⟩,
⟨rl,rr⟩,trivial⟩,
(intR (intR { B:=x1,lo:=(0:Nat),e:=(0:Int):Rd })),
(by(try dsimp only at *);exact dmR_ok h2 2),
⟨⟨rfl,rfl⟩,trivial⟩,
⟨⟨⟨rfl,rfl⟩,rfl,trivial⟩,
⟨rl,rr⟩,trivial⟩,
(intR (intR (intR { B:=x1,lo:=(0:Nat),e:=(0:Int):Rd }))),
(by(try dsimp only at *);exact dmR_ok h2 3),
⟨⟨rfl,rfl⟩,trivial⟩,
⟨⟨⟨rfl,rfl⟩,rfl,trivial⟩,
⟨rl,rr⟩,trivial⟩,
(intR (intR (intR (intR { B:=x1,lo:=(0:Nat),e:=(0:Int):Rd })))),
(by(try dsimp only at *);exact dmR_ok h2 4),
⟨⟨rfl,rfl⟩,trivial⟩,
⟨⟨⟨rfl,rfl⟩,rfl,trivial⟩,
⟨rl,rr⟩,trivial⟩,
(intR (intR (intR (intR (intR { B:=x1,lo:=(0:Nat),e:=(0:Int):Rd }))))),
(by(try dsimp only at *);exact dmR_ok h2 5),
⟨⟨rfl,rfl⟩,trivial⟩,
⟨⟨⟨rfl,rfl⟩,rfl,trivial⟩,
⟨rl,rr⟩,trivial⟩,
(intR (intR (intR (intR (intR (intR { B:=x1,lo:=(0:Nat),e:=(0:Int):Rd })))))),
(by(try dsimp only at *);exact dmR_ok h2 6),
⟨⟨rfl,rfl⟩,trivial⟩,
⟨⟨⟨rfl,rfl⟩,rfl,trivial⟩,
⟨rl,rr⟩,trivial⟩,
(bsR (intR (intR (intR (intR (intR (intR { B:=x1,lo:=(0:Nat),e:=(0:Int):Rd }))))))),
(by(try dsimp only at *);exact dmL_ok h2),
⟨⟨rfl,rfl⟩,trivial⟩,
⟨⟨⟨rfl,rfl⟩,rfl,trivial⟩,
⟨rl,rr⟩,trivial⟩,
fun g12=>have h12:=dT g12;⟨⟨⟨(by(try dsimp only at *);(rw[(dm_1 h12).1])),
(by(try dsimp only at *);(rw[(dm_1 h12).1])),
(by(try dsimp only at *);(rw[(dm_1 h12).1])),
(by(try dsimp only at *);(rw[(dm_1 h12).1])),
(by(try dsimp only at *);(rw[(dm_1 h12).1])),
(by(try dsimp only at *);(rw[(dm_1 h12).1])),
⟨trivial,rfl,
(by(try dsimp only at *);(rw[(dm_1 h12).1];rfl))⟩,trivial⟩,
(by(try dsimp only at *);exact(dm_1 h12).2),trivial⟩,
(by(try dsimp only at *);(rw[(dm_1 h12).1];rfl)),trivial⟩,
fun g13=>have h13:=dF g13;⟨({ k:=intV { B:=x1,lo:=(0:Nat),e:=(0:Int):Rd },a:=intV (intR { B:=x1,lo:=(0:Nat),e:=(0:Int):Rd }),p:=intV (intR (intR { B:=x1,lo:=(0:Nat),e:=(0:Int):Rd })),q:=intV (intR (intR (intR { B:=x1,lo:=(0:Nat),e:=(0:Int):Rd }))),b:=intV (intR (intR (intR (intR { B:=x1,lo:=(0:Nat),e:=(0:Int):Rd })))),e:=intV (intR (intR (intR (intR (intR { B:=x1,lo:=(0:Nat),e:=(0:Int):Rd }))))),body:=bsV (intR (intR (intR (intR (intR (intR { B:=x1,lo:=(0:Nat),e:=(0:Int):Rd })))))):Msg }),trivial,
⟨⟨rfl,rfl,rfl,rfl,rfl,rfl,
⟨rfl,rfl⟩,trivial⟩,trivial⟩,
⟨⟨rl,rr⟩,trivial⟩,
fun h15=>⟨⟨⟨(by(try dsimp only at *);(rw[(dm_2 h13 h15).1])),
(by(try dsimp only at *);(rw[(dm_2 h13 h15).1])),
(by(try dsimp only at *);(rw[(dm_2 h13 h15).1])),
(by(try dsimp only at *);(rw[(dm_2 h13 h15).1])),
(by(try dsimp only at *);(rw[(dm_2 h13 h15).1])),
(by(try dsimp only at *);(rw[(dm_2 h13 h15).1])),
⟨trivial,rfl,
(by(try dsimp only at *);(rw[(dm_2 h13 h15).1];rfl))⟩,trivial⟩,
(by(try dsimp only at *);exact(dm_2 h13 h15).2),trivial⟩,
(by(try dsimp only at *);(rw[(dm_2 h13 h15).1];rfl)),trivial⟩,
fun h16=>⟨⟨⟨(by(try dsimp only at *);(rw[(dm_3 h13 h16).1];rfl)),
(by(try dsimp only at *);(rw[(dm_3 h13 h16).1];rfl)),
(by(try dsimp only at *);(rw[(dm_3 h13 h16).1];rfl)),
(by(try dsimp only at *);(rw[(dm_3 h13 h16).1];rfl)),
(by(try dsimp only at *);(rw[(dm_3 h13 h16).1];rfl)),
(by(try dsimp only at *);(rw[(dm_3 h13 h16).1];rfl)),
⟨rfl,
(by(try dsimp only at *);(rw[(dm_3 h13 h16).1];rfl))⟩,trivial⟩,
(by(try dsimp only at *);exact(dm_3 h13 h16).2),trivial⟩,
⟨⟨(by(try dsimp only at *);(rw[(dm_3 h13 h16).1];exact Nat.le_refl _))⟩,
(by(try dsimp only at *);(rw[(dm_3 h13 h16).1];exact rr))⟩,trivial⟩⟩⟩)
theorem dm_good:Good Tryd.prog 21 dmCt/\FnOk Tryd.prog 21:=good_of tok conM2 (fn:=Tryd.f21) rfl (by decide+kernel) (fun _=>rfl) dm_keeps
end Go.Sym