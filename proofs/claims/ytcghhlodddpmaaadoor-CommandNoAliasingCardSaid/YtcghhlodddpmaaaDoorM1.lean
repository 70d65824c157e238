import Derived.Test.YtcghhlodddpmaaaDoorV9
import Derived.Test.YtcghhlodddpmaaaDoorX1
import Derived.Test.YtcghhlodddpmaaaDoorXD
namespace Go.Sym
set_option linter.unusedVariables false
set_option linter.unusedSimpArgs false
open Go.Proofs
set_option maxRecDepth 100000
set_option maxHeartbeats 4000000
structure Msg where
 k:Int:=0
 a:Int:=0
 p:Int:=0
 q:Int:=0
 b:Int:=0
 e:Int:=0
 body:List Int:=[]
 deriving DecidableEq
instance:Inhabited Msg:=⟨{}⟩
def ml (m:Msg) (l:Nat):List SV:=[.i .i64 m.k,.i .i64 m.a,.i .i64 m.p,.i .i64 m.q,.i .i64 m.b,.i .i64 m.e,.sl l 0 m.body.length]
def mB (l:Nat) (m:Msg):Nat × Blk:=(l,.rows .bor kB m.body.length (encL encI m.body))
def mO (l:Nat) (m:Msg):Nat × Blk:=(l,.rows .own kB m.body.length (encL encI m.body))
def cntP (n:Int):Bool:=decide (0<=n/\n<=1099511627776)
def vM (m:Msg):Bool:=decide (1<=m.k/\m.k<=10)&&(cntP m.a&&(cntP m.b&&(cntP m.e&&(dskP m.p&&(dskP m.q&&decide ((m.body.length:Int)<=8100))))))
set_option maxRecDepth 100000 in
theorem f78_keeps:Keeps cfg0 Tryd.f78 (n1C cntP) noIv:=Eq.mp (show((∀ x1:Int,(True->(((decide ((0:Int)<=x1)=true)->((decide (x1<=(1099511627776:Int))=cntP x1)/\True))/\((decide ((0:Int)<=x1)=false)->((false=cntP x1)/\True))))))=(Keeps cfg0 Tryd.f78 (n1C cntP) noIv) by kernel_rfl) (fun x1=>fun h2=>⟨fun g3=>have h3:=dT g3;⟨(by simp[cntP, *]),trivial⟩,
fun g4=>have h4:=dF g4;⟨(by simp[cntP, *]),trivial⟩⟩)
theorem f78_good:Good Tryd.prog 78 (n1C cntP)/\FnOk Tryd.prog 78:=good_of tok con0 (fn:=Tryd.f78) rfl (by decide+kernel) (fun _=>rfl) f78_keeps
theorem dsk_lt {n:Int} (h:0<=n):decide (n<9)=dskP n:=decide_eq_decide.2 (by omega)
theorem dsk_no {n:Int} (h:¬ 0<=n):false=dskP n:=(decide_eq_false (by omega)).symm
set_option maxRecDepth 100000 in
theorem f79_keeps:Keeps cfg0 Tryd.f79 (n1C dskP) noIv:=Eq.mp (show((∀ x1:Int,(True->(((decide ((0:Int)<=x1)=true)->((decide (x1<9)=dskP x1)/\True))/\((decide ((0:Int)<=x1)=false)->((false=dskP x1)/\True))))))=(Keeps cfg0 Tryd.f79 (n1C dskP) noIv) by kernel_rfl) (fun x1=>fun h2=>⟨fun g3=>have h3:=dT g3;⟨(by exact dsk_lt ‹_›),trivial⟩,
fun g4=>have h4:=dF g4;⟨(by exact dsk_no ‹_›),trivial⟩⟩)
theorem f79_good:Good Tryd.prog 79 (n1C dskP)/\FnOk Tryd.prog 79:=good_of tok con0 (fn:=Tryd.f79) rfl (by decide+kernel) (fun _=>rfl) f79_keeps
def cfgM0:Cfg:=⟨T,[],[(78,.one (n1C cntP)),(79,.one (n1C dskP)),(58,.one (n1C dskP))],noInv,60,{}⟩
theorem conM0:ConOk Tryd.prog cfgM0:=ConL.ok (.cons (ConL.one f78_good) (.cons (ConL.one f79_good) (.cons (ConL.one dk_good) .nil)))
def vmC:CT where
 X:=Msg
 pre:=fun _=>True
 args:=fun x=>[.agg (ml x 100001)]
 g0:=fun x=>[mB 100001 x]
 res:=fun x=>.b (vM x)
 g1:=fun _=>[]
set_option maxRecDepth 100000 in
theorem vm_keeps:Keeps cfgM0 Tryd.f57 vmC noIv:=Eq.mp (show((∀ x1:Msg,(True->(((decide ((1:Int)<=x1.k)=true)->(((decide (x1.k<=(10:Int))=true)->(∃ x5:Int,(True/\((x1.a=x5/\True)/\(True/\(((cntP x5=true)->(∃ x7:Int,(True/\((x1.b=x7/\True)/\(True/\(((cntP x7=true)->(∃ x9:Int,(True/\((x1.e=x9/\True)/\(True/\(((cntP x9=true)->(∃ x11:Int,(True/\((x1.p=x11/\True)/\(True/\(((dskP x11=true)->(∃ x13:Int,(True/\((x1.q=x13/\True)/\(True/\(((dskP x13=true)->((decide ((x1.body.length:Int)<=(8100:Int))=vM x1)/\True))/\((dskP x13=false)->((false=vM x1)/\True))))))))/\((dskP x11=false)->((false=vM x1)/\True))))))))/\((cntP x9=false)->((false=vM x1)/\True))))))))/\((cntP x7=false)->((false=vM x1)/\True))))))))/\((cntP x5=false)->((false=vM x1)/\True))))))))/\((decide (x1.k<=(10:Int))=false)->((false=vM x1)/\True))))/\((decide ((1:Int)<=x1.k)=false)->((false=vM x1)/\True))))))=(Keeps cfgM0 Tryd.f57 vmC noIv) by kernel_rfl) (fun x1=>fun h2=>⟨fun g3=>have h3:=dT g3;⟨fun g4=>have h4:=dT g4;⟨(Msg.a x1),trivial,
⟨rfl,trivial⟩,trivial,
fun h6=>⟨(Msg.b x1),trivial,
⟨rfl,trivial⟩,trivial,
fun h8=>⟨(Msg.e x1),trivial,
⟨rfl,trivial⟩,trivial,
fun h10=>⟨(Msg.p x1),trivial,
⟨rfl,trivial⟩,trivial,
fun h12=>⟨(Msg.q x1),trivial,
⟨rfl,trivial⟩,trivial,
fun h14=>⟨(by(try dsimp only at *);simp[vM, *]),trivial⟩,
fun h15=>⟨(by(try dsimp only at *);simp[vM, *]),trivial⟩⟩,
fun h16=>⟨(by(try dsimp only at *);simp[vM, *]),trivial⟩⟩,
fun h17=>⟨(by(try dsimp only at *);simp[vM, *]),trivial⟩⟩,
fun h18=>⟨(by(try dsimp only at *);simp[vM, *]),trivial⟩⟩,
fun h19=>⟨(by(try dsimp only at *);simp[vM, *]),trivial⟩⟩,
fun g20=>have h20:=dF g20;⟨(by(try dsimp only at *);simp[vM, *]),trivial⟩⟩,
fun g21=>have h21:=dF g21;⟨(by(try dsimp only at *);simp[vM, *]),trivial⟩⟩)
set_option maxRecDepth 100000 in
theorem rm_keeps:Keeps cfgM0 Tryd.f24 vmC noIv:=Eq.mp (show((∀ x1:Msg,(True->(((decide ((1:Int)<=x1.k)=true)->(((decide (x1.k<=(10:Int))=true)->(((decide ((0:Int)<=x1.a)=true)->(((decide (x1.a<=(1099511627776:Int))=true)->(((decide ((0:Int)<=x1.b)=true)->(((decide (x1.b<=(1099511627776:Int))=true)->(((decide ((0:Int)<=x1.e)=true)->(((decide (x1.e<=(1099511627776:Int))=true)->(∃ x11:Int,(True/\((x1.p=x11/\True)/\(True/\(((dskP x11=true)->(∃ x13:Int,(True/\((x1.q=x13/\True)/\(True/\(((dskP x13=true)->((decide ((x1.body.length:Int)<=(8100:Int))=vM x1)/\True))/\((dskP x13=false)->((false=vM x1)/\True))))))))/\((dskP x11=false)->((false=vM x1)/\True))))))))/\((decide (x1.e<=(1099511627776:Int))=false)->((false=vM x1)/\True))))/\((decide ((0:Int)<=x1.e)=false)->((false=vM x1)/\True))))/\((decide (x1.b<=(1099511627776:Int))=false)->((false=vM x1)/\True))))/\((decide ((0:Int)<=x1.b)=false)->((false=vM x1)/\True))))/\((decide (x1.a<=(1099511627776:Int))=false)->((false=vM x1)/\True))))/\((decide ((0:Int)<=x1.a)=false)->((false=vM x1)/\True))))/\((decide (x1.k<=(10:Int))=false)->((false=vM x1)/\True))))/\((decide ((1:Int)<=x1.k)=false)->((false=vM x1)/\True))))))=(Keeps cfgM0 Tryd.f24 vmC noIv) by kernel_rfl) (fun x1=>fun h2=>⟨fun g3=>have h3:=dT g3;⟨fun g4=>have h4:=dT g4;⟨fun g5=>have h5:=dT g5;⟨fun g6=>have h6:=dT g6;⟨fun g7=>have h7:=dT g7;⟨fun g8=>have h8:=dT g8;⟨fun g9=>have h9:=dT g9;⟨fun g10=>have h10:=dT g10;⟨(Msg.p x1),trivial,
⟨rfl,trivial⟩,trivial,
fun h12=>⟨(Msg.q x1),trivial,
⟨rfl,trivial⟩,trivial,
fun h14=>⟨(by(try dsimp only at *);simp[vM,cntP, *]),trivial⟩,
fun h15=>⟨(by(try dsimp only at *);simp[vM,cntP, *]),trivial⟩⟩,
fun h16=>⟨(by(try dsimp only at *);simp[vM,cntP, *]),trivial⟩⟩,
fun g17=>have h17:=dF g17;⟨(by(try dsimp only at *);simp[vM,cntP, *]),trivial⟩⟩,
fun g18=>have h18:=dF g18;⟨(by(try dsimp only at *);simp[vM,cntP, *]),trivial⟩⟩,
fun g19=>have h19:=dF g19;⟨(by(try dsimp only at *);simp[vM,cntP, *]),trivial⟩⟩,
fun g20=>have h20:=dF g20;⟨(by(try dsimp only at *);simp[vM,cntP, *]),trivial⟩⟩,
fun g21=>have h21:=dF g21;⟨(by(try dsimp only at *);simp[vM,cntP, *]),trivial⟩⟩,
fun g22=>have h22:=dF g22;⟨(by(try dsimp only at *);simp[vM,cntP, *]),trivial⟩⟩,
fun g23=>have h23:=dF g23;⟨(by(try dsimp only at *);simp[vM,cntP, *]),trivial⟩⟩,
fun g24=>have h24:=dF g24;⟨(by(try dsimp only at *);simp[vM,cntP, *]),trivial⟩⟩)
theorem vm_good:Good Tryd.prog 57 vmC/\FnOk Tryd.prog 57:=good_of tok conM0 (fn:=Tryd.f57) rfl (by decide+kernel) (fun _=>rfl) vm_keeps
def byM (m:Msg):List Int:=byZ m.k++byZ m.a++byZ m.p++byZ m.q++byZ m.b++byZ m.e++byBs m.body
def mR (m:Msg):List Int:=if vM m then byM m else []
theorem vM_r {m:Msg} (h:vM m=true):(r64 m.k/\r64 m.a/\r64 m.p/\r64 m.q/\r64 m.b/\r64 m.e)/\m.body.length<=8100:=by
 unfold vM cntP dskP at h
 simp only[Bool.and_eq_true,decide_eq_true_eq]at h
 unfold r64
 omega
def cfgM1:Cfg:=⟨T,[],[(57,.one vmC),(36,.one wiC),(59,.one wbC),(39,.one weC)],noInv,60,{}⟩
theorem conM1:ConOk Tryd.prog cfgM1:=ConL.ok (.cons (ConL.one vm_good) (.cons (ConL.one wi_good) (.cons (ConL.one wb_good) (.cons (ConL.one we_good) .nil))))
def emC:CT where
 X:=Msg
 pre:=fun _=>True
 args:=fun x=>[.agg (ml x 100001)]
 g0:=fun x=>[mB 100001 x]
 res:=fun x=>.sl 1 0 (mR x).length
 g1:=fun x=>[(1,.rows .own kB (mR x).length (encL encI (mR x)))]
theorem mr_0 {m:Msg} (h:(!vM m)=true):(mR m).length=0:=by
 have:vM m=false:=by simpa using h
 unfold mR
 rw[this]
 rfl
theorem mr_v {m:Msg} (h:(!vM m)=false):vM m=true:=by simpa using h
theorem mr_e {m:Msg} (h:(!vM m)=false):[]++byZ m.k++byZ m.a++byZ m.p++byZ m.q++byZ m.b++byZ m.e++byBs m.body=mR m:=by
 unfold mR
 rw[if_pos (mr_v h)]
 rfl
theorem le6 (a b c d e f:Int):([]++byZ a++byZ b++byZ c++byZ d++byZ e++byZ f).length<=60:=by
 have:=byZ_len a
 have:=byZ_len b
 have:=byZ_len c
 have:=byZ_len d
 have:=byZ_len e
 have:=byZ_len f
 simp only[List.length_append,List.length_nil]
 omega
theorem byBs_len (l:List Int):(byBs l).length<=l.length+10:=by
 have:=byZ_len (l.length:Int)
 unfold byBs
 rw[List.length_append]
 omega
theorem mr_l {m:Msg} (h:(!vM m)=false):(mR m).length<=1000000:=by
 have h1:=le6 m.k m.a m.p m.q m.b m.e
 have h2:=(vM_r (mr_v h)).2
 have h3:=byBs_len m.body
 rw[<- mr_e h,List.length_append]
 omega
set_option maxRecDepth 100000 in
theorem em_keeps:Keeps cfgM1 Tryd.f26 emC noIv:=Eq.mp (show((∀ x1:Msg,(True->(∃ x3:Msg,(True/\(((x1.k=x3.k/\(x1.a=x3.a/\(x1.p=x3.p/\(x1.q=x3.q/\(x1.b=x3.b/\(x1.e=x3.e/\((0=0/\x1.body.length=x3.body.length)/\True)))))))/\True)/\((((RLe x3.body.length x1.body.length)/\(RowsEq (.int IntKind.u8::[]) x3.body.length (encL encI x1.body) (encL encI x3.body)))/\True)/\((((!vM x3)=true)->((True/\(0=0/\((mR x1).length=(0:Nat))))/\(((mR x1).length=(0:Nat))/\True)))/\(((!vM x3)=false)->(∃ x6:List Int × Int,(((r64 (Prod.snd x6))/\((Prod.fst x6).length<=(1000000:Nat)))/\(((0=0/\0=0)/\((x1.k=Prod.snd x6)/\True))/\((((True/\(0=0/\((Prod.fst x6).length=(0:Nat))))/\True)/\(((Prod.fst x6).length=(0:Nat))/\True))/\(∃ x7:List Int × Int,(((r64 (Prod.snd x7))/\((Prod.fst x7).length<=(1000000:Nat)))/\(((0=0/\0=0)/\((x1.a=Prod.snd x7)/\True))/\((((0=0/\((Prod.fst x6++byZ (Prod.snd x6)).length=(Prod.fst x7).length))/\True)/\(((RLe (Prod.fst x7).length (Prod.fst x6++byZ (Prod.snd x6)).length)/\(RowsEq (.int IntKind.u8::[]) (Prod.fst x7).length (encL encI (Prod.fst x6++byZ (Prod.snd x6))) (encL encI (Prod.fst x7))))/\True))/\(∃ x8:List Int × Int,(((r64 (Prod.snd x8))/\((Prod.fst x8).length<=(1000000:Nat)))/\(((0=0/\0=0)/\((x1.p=Prod.snd x8)/\True))/\((((0=0/\((Prod.fst x7++byZ (Prod.snd x7)).length=(Prod.fst x8).length))/\True)/\(((RLe (Prod.fst x8).length (Prod.fst x7++byZ (Prod.snd x7)).length)/\(RowsEq (.int IntKind.u8::[]) (Prod.fst x8).length (encL encI (Prod.fst x7++byZ (Prod.snd x7))) (encL encI (Prod.fst x8))))/\True))/\(∃ x9:List Int × Int,(((r64 (Prod.snd x9))/\((Prod.fst x9).length<=(1000000:Nat)))/\(((0=0/\0=0)/\((x1.q=Prod.snd x9)/\True))/\((((0=0/\((Prod.fst x8++byZ (Prod.snd x8)).length=(Prod.fst x9).length))/\True)/\(((RLe (Prod.fst x9).length (Prod.fst x8++byZ (Prod.snd x8)).length)/\(RowsEq (.int IntKind.u8::[]) (Prod.fst x9).length (encL encI (Prod.fst x8++byZ (Prod.snd x8))) (encL encI (Prod.fst x9))))/\True))/\(∃ x10:List Int × Int,(((r64 (Prod.snd x10))/\((Prod.fst x10).length<=(1000000:Nat)))/\(((0=0/\0=0)/\((x1.b=Prod.snd x10)/\True))/\((((0=0/\((Prod.fst x9++byZ (Prod.snd x9)).length=(Prod.fst x10).length))/\True)/\(((RLe (Prod.fst x10).length (Prod.fst x9++byZ (Prod.snd x9)).length)/\(RowsEq (.int IntKind.u8::[]) (Prod.fst x10).length (encL encI (Prod.fst x9++byZ (Prod.snd x9))) (encL encI (Prod.fst x10))))/\True))/\(∃ x11:List Int × Int,(((r64 (Prod.snd x11))/\((Prod.fst x11).length<=(1000000:Nat)))/\(((0=0/\0=0)/\((x1.e=Prod.snd x11)/\True))/\((((0=0/\((Prod.fst x10++byZ (Prod.snd x10)).length=(Prod.fst x11).length))/\True)/\(((RLe (Prod.fst x11).length (Prod.fst x10++byZ (Prod.snd x10)).length)/\(RowsEq (.int IntKind.u8::[]) (Prod.fst x11).length (encL encI (Prod.fst x10++byZ (Prod.snd x10))) (encL encI (Prod.fst x11))))/\True))/\(∃ x12:List Int × List Int,((((Prod.fst x12).length<=(500000:Nat))/\((Prod.snd x12).length<=(100000:Nat)))/\(((0=0/\0=0)/\((0=0/\(x1.body.length=(Prod.snd x12).length))/\True))/\((((0=0/\((Prod.fst x11++byZ (Prod.snd x11)).length=(Prod.fst x12).length))/\True)/\(((RLe (Prod.fst x12).length (Prod.fst x11++byZ (Prod.snd x11)).length)/\(RowsEq (.int IntKind.u8::[]) (Prod.fst x12).length (encL encI (Prod.fst x11++byZ (Prod.snd x11))) (encL encI (Prod.fst x12))))/\(((RLe (Prod.snd x12).length x1.body.length)/\(RowsEq (.int IntKind.u8::[]) (Prod.snd x12).length (encL encI x1.body) (encL encI (Prod.snd x12))))/\True)))/\(∃ x13:List Int,((x13.length<=(1000000:Nat))/\(((0=0/\0=0)/\True)/\((((0=0/\((Prod.fst x12++byBs (Prod.snd x12)).length=x13.length))/\True)/\(((RLe x13.length (Prod.fst x12++byBs (Prod.snd x12)).length)/\(RowsEq (.int IntKind.u8::[]) x13.length (encL encI (Prod.fst x12++byBs (Prod.snd x12))) (encL encI x13)))/\True))/\((0=0/\(x13.length=(mR x1).length))/\(((RLe (mR x1).length x13.length)/\(RowsEq (.int IntKind.u8::[]) (mR x1).length (encL encI x13) (encL encI (mR x1))))/\True)))))))))))))))))))))))))))))))))))))))))))=(Keeps cfgM1 Tryd.f26 emC noIv) by kernel_rfl) (fun x1=>fun h2=>⟨(x1),trivial,
⟨⟨rfl,rfl,rfl,rfl,rfl,rfl,
⟨rfl,rfl⟩,trivial⟩,trivial⟩,
⟨⟨rl,rr⟩,trivial⟩,
fun h4=>⟨⟨trivial,rfl,
(by(try dsimp only at *);exact mr_0 h4)⟩,
(by(try dsimp only at *);exact mr_0 h4),trivial⟩,
fun h5=>⟨((@List.nil Int,Msg.k x1)),
⟨(by(try dsimp only at *);exact(vM_r (mr_v h5)).1.1),
(by(try dsimp only at *);grind)⟩,
⟨⟨rfl,rfl⟩,rfl,trivial⟩,
⟨⟨⟨trivial,rfl,
(by(try dsimp only at *);grind)⟩,trivial⟩,
(by(try dsimp only at *);grind),trivial⟩,
((@List.nil Int++byZ (Msg.k x1),Msg.a x1)),
⟨(by(try dsimp only at *);exact(vM_r (mr_v h5)).1.2.1),
(by(try dsimp only at *);(have q:=le6 x1.k x1.a x1.p x1.q x1.b x1.e;simp only[List.length_append,List.length_nil]at q ⊢;omega))⟩,
⟨⟨rfl,rfl⟩,rfl,trivial⟩,
⟨⟨⟨rfl,rfl⟩,trivial⟩,
⟨rl,rr⟩,trivial⟩,
((@List.nil Int++byZ (Msg.k x1)++byZ (Msg.a x1),Msg.p x1)),
⟨(by(try dsimp only at *);exact(vM_r (mr_v h5)).1.2.2.1),
(by(try dsimp only at *);(have q:=le6 x1.k x1.a x1.p x1.q x1.b x1.e;simp only[List.length_append,List.length_nil]at q ⊢;omega))⟩,
⟨⟨rfl,rfl⟩,rfl,trivial⟩,
⟨⟨⟨rfl,rfl⟩,trivial⟩,
⟨rl,rr⟩,trivial⟩,
((@List.nil Int++byZ (Msg.k x1)++byZ (Msg.a x1)++byZ (Msg.p x1),Msg.q x1)),
⟨(by(try dsimp only at *);exact(vM_r (mr_v h5)).1.2.2.2.1),
(by(try dsimp only at *);(have q:=le6 x1.k x1.a x1.p x1.q x1.b x1.e;simp only[List.length_append,List.length_nil]at q ⊢;omega))⟩,
⟨⟨rfl,rfl⟩,rfl,trivial⟩,
⟨⟨⟨rfl,rfl⟩,trivial⟩,
⟨rl,rr⟩,trivial⟩,
((@List.nil Int++byZ (Msg.k x1)++byZ (Msg.a x1)++byZ (Msg.p x1)++byZ (Msg.q x1),Msg.b x1)),
⟨(by(try dsimp only at *);exact(vM_r (mr_v h5)).1.2.2.2.2.1),
(by(try dsimp only at *);(have q:=le6 x1.k x1.a x1.p x1.q x1.b x1.e;simp only[List.length_append,List.length_nil]at q ⊢;omega))⟩,
⟨⟨rfl,rfl⟩,rfl,trivial⟩,
⟨⟨⟨rfl,rfl⟩,trivial⟩,
⟨rl,rr⟩,trivial⟩,
((@List.nil Int++byZ (Msg.k x1)++byZ (Msg.a x1)++byZ (Msg.p x1)++byZ (Msg.q x1)++byZ (Msg.b x1),Msg.e x1)),
⟨(by(try dsimp only at *);exact(vM_r (mr_v h5)).1.2.2.2.2.2),
(by(try dsimp only at *);(have q:=le6 x1.k x1.a x1.p x1.q x1.b x1.e;simp only[List.length_append,List.length_nil]at q ⊢;omega))⟩,
⟨⟨rfl,rfl⟩,rfl,trivial⟩,
⟨⟨⟨rfl,rfl⟩,trivial⟩,
⟨rl,rr⟩,trivial⟩,
((@List.nil Int++byZ (Msg.k x1)++byZ (Msg.a x1)++byZ (Msg.p x1)++byZ (Msg.q x1)++byZ (Msg.b x1)++byZ (Msg.e x1),Msg.body x1)),
⟨(by(try dsimp only at *);exact Nat.le_trans (le6 x1.k x1.a x1.p x1.q x1.b x1.e) (by decide)),
(by(try dsimp only at *);exact Nat.le_trans (vM_r (mr_v h5)).2 (by decide))⟩,
⟨⟨rfl,rfl⟩,
⟨rfl,rfl⟩,trivial⟩,
⟨⟨⟨rfl,rfl⟩,trivial⟩,
⟨rl,rr⟩,
⟨rl,rr⟩,trivial⟩,
(@List.nil Int++byZ (Msg.k x1)++byZ (Msg.a x1)++byZ (Msg.p x1)++byZ (Msg.q x1)++byZ (Msg.b x1)++byZ (Msg.e x1)++byBs (Msg.body x1)),
(by(try dsimp only at *);(rw[mr_e h5];exact mr_l h5)),
⟨⟨rfl,rfl⟩,trivial⟩,
⟨⟨⟨rfl,rfl⟩,trivial⟩,
⟨rl,rr⟩,trivial⟩,
⟨rfl,
(by(try dsimp only at *);exact qL (mr_e h5))⟩,
⟨⟨(by(try dsimp only at *);exact qG (mr_e h5))⟩,
(by(try dsimp only at *);exact qR (mr_e h5))⟩,trivial⟩⟩)
theorem em_good:Good Tryd.prog 26 emC/\FnOk Tryd.prog 26:=good_of tok conM1 (fn:=Tryd.f26) rfl (by decide+kernel) (fun _=>rfl) em_keeps
end Go.Sym