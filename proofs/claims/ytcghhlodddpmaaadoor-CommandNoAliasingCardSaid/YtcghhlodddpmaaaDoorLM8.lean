import Derived.Test.YtcghhlodddpmaaaDoorX5
import Derived.Test.YtcghhlodddpmaaaDoorM2
import Derived.Test.YtcghhlodddpmaaaDoorM3
import Derived.Test.YtcghhlodddpmaaaDoorZ1
import Derived.Test.YtcghhlodddpmaaaDoorY5
import Derived.Test.YtcghhlodddpmaaaDoorXD
namespace Go.Sym
set_option linter.unusedVariables false
set_option linter.unusedSimpArgs false
open Go.Proofs
set_option maxRecDepth 100000
set_option maxHeartbeats 4000000
def lw8:CT:=⟨Msg,fun x=>isB x.body,fun x=>[.agg (ml x 100001)],fun x=>[mB 100001 x],fun _=>.b true,fun _=>[]⟩
def cfgL8:Cfg:=⟨T,[],[(10,.one (yesC wkC)),(21,.one dmCt),(23,.one bkCt),(27,.one cpCt),(22,.one snC),(24,.one vmC),(25,.one emC),(26,.one emC)],noInv,60,{}⟩
theorem mR_in {m:Msg} (h:isB m.body):inB (mR m):=by
 unfold mR
 cases hv:vM m with
 |true=>exact⟨byM_isB h,Nat.le_trans (byM_len hv) (by decide)⟩
 |false=>exact⟨fun b hb=>(by cases hb),Nat.zero_le _⟩
theorem mR_y {m:Msg} (h:isB m.body) (hv:vM m=true):dmC (mR m)=m/\dmE (mR m)=0:=by
 have h1:=mR_in h
 unfold mR at*
 rw[if_pos hv]at*
 exact dm_app hv h1
theorem mR_n {m:Msg} (hv:(!vM m)=true):mR m=[]:=by
 have:vM m=false:=by simpa using hv
 unfold mR
 rw[this]
 rfl
theorem k_0 {m:Msg} (hv:(!vM m)=true):((mR m).length:Int)=0:=by rw[mR_n hv];rfl
theorem k_11 {m:Msg} (hv:(!vM m)=true):dmE (mR m)=11:=by rw[mR_n hv];rfl
theorem k_y {m:Msg} (h:isB m.body) (h1:(!vM m)=false):isB (dmC (mR m)).body/\decide (dmC (mR m)=m)=true:=by
 have h2:=mR_y h (mr_v h1)
 rw[h2.1]
 exact⟨h,decide_eq_true rfl⟩
theorem k_no {m:Msg} {p:Prop} (h:isB m.body) (h1:(!vM m)=false) (h2:¬ dmE (mR m)=0):p:=absurd (mR_y h (mr_v h1)).2 h2
theorem k_n0 {m:Msg} {p:Prop} (h1:(!vM m)=true) (h2:¬ ((mR m).length:Int)=0):p:=absurd (k_0 h1) h2
set_option maxRecDepth 100000 in
theorem l8_keeps:Keeps cfgL8 Tryd.f8 lw8 noIv:=Eq.mp (show((∀ x1:Msg,((isB x1.body)->(∃ x3:Unit,(True/\(True/\(True/\(((decide (9000<(x1.body.length:Int))=true)->(true=true/\True))/\((decide (9000<(x1.body.length:Int))=false)->(∃ x6:Msg,(True/\(((x1.k=x6.k/\(x1.a=x6.a/\(x1.p=x6.p/\(x1.q=x6.q/\(x1.b=x6.b/\(x1.e=x6.e/\((0=0/\x1.body.length=x6.body.length)/\True)))))))/\True)/\((((RLe x6.body.length x1.body.length)/\(RowsEq (.int IntKind.u8::[]) x6.body.length (encL encI x1.body) (encL encI x6.body)))/\True)/\(∃ x7:Msg,(True/\(((x6.k=x7.k/\(x6.a=x7.a/\(x6.p=x7.p/\(x6.q=x7.q/\(x6.b=x7.b/\(x6.e=x7.e/\((0=0/\x6.body.length=x7.body.length)/\True)))))))/\True)/\((((RLe x7.body.length x6.body.length)/\(RowsEq (.int IntKind.u8::[]) x7.body.length (encL encI x6.body) (encL encI x7.body)))/\True)/\(((0:Nat)+(mR x7).length<=(mR x7).length)/\(∃ x8:Msg,(True/\(((x1.k=x8.k/\(x1.a=x8.a/\(x1.p=x8.p/\(x1.q=x8.q/\(x1.b=x8.b/\(x1.e=x8.e/\((0=0/\x1.body.length=x8.body.length)/\True)))))))/\True)/\((((RLe x8.body.length x1.body.length)/\(RowsEq (.int IntKind.u8::[]) x8.body.length (encL encI x1.body) (encL encI x8.body)))/\True)/\(((0:Nat)+(mR x8).length<=(mR x8).length)/\((((!ByteArray.toList (ByteArray.mk (List.toArray (List.map (fun(r:Nat)=>UInt8.ofNat (Int.toNat ((mR x7).getD ((0:Nat)+r) default))) (List.range (mR x7).length))))==ByteArray.toList (ByteArray.mk (List.toArray (List.map (fun(r:Nat)=>UInt8.ofNat (Int.toNat ((mR x8).getD ((0:Nat)+r) default))) (List.range (mR x8).length)))))=true)->(false=true/\True))/\(((!ByteArray.toList (ByteArray.mk (List.toArray (List.map (fun(r:Nat)=>UInt8.ofNat (Int.toNat ((mR x7).getD ((0:Nat)+r) default))) (List.range (mR x7).length))))==ByteArray.toList (ByteArray.mk (List.toArray (List.map (fun(r:Nat)=>UInt8.ofNat (Int.toNat ((mR x8).getD ((0:Nat)+r) default))) (List.range (mR x8).length)))))=false)->(∃ x11:List Int,((inB x11)/\(((0=0/\((mR x7).length=x11.length))/\True)/\((((RLe x11.length (mR x7).length)/\(RowsEq (.int IntKind.u8::[]) x11.length (encL encI (mR x7)) (encL encI x11)))/\True)/\(∃ x12:Msg,(True/\(((x1.k=x12.k/\(x1.a=x12.a/\(x1.p=x12.p/\(x1.q=x12.q/\(x1.b=x12.b/\(x1.e=x12.e/\((0=0/\x1.body.length=x12.body.length)/\True)))))))/\True)/\((((RLe x12.body.length x1.body.length)/\(RowsEq (.int IntKind.u8::[]) x12.body.length (encL encI x1.body) (encL encI x12.body)))/\True)/\((((!vM x12)=true)->(((decide ((↑(mR x7).length:Int)=0)=true)->((decide (dmE x11=11)=true)/\True))/\((decide ((↑(mR x7).length:Int)=0)=false)->(false=true/\True))))/\(((!vM x12)=false)->(((decide (dmE x11=0)=true)->(∃ x18:Msg,(True/\(((((dmC x11).k=x18.k)/\(((dmC x11).a=x18.a)/\(((dmC x11).p=x18.p)/\(((dmC x11).q=x18.q)/\(((dmC x11).b=x18.b)/\(((dmC x11).e=x18.e)/\((0=0/\((dmC x11).body.length=x18.body.length))/\True)))))))/\True)/\((((RLe x18.body.length (dmC x11).body.length)/\(RowsEq (.int IntKind.u8::[]) x18.body.length (encL encI (dmC x11).body) (encL encI x18.body)))/\True)/\(∃ x19:Msg × Msg,(((isB (Prod.fst x19).body)/\(isB (Prod.snd x19).body))/\((((x18.k=(Prod.fst x19).k)/\((x18.a=(Prod.fst x19).a)/\((x18.p=(Prod.fst x19).p)/\((x18.q=(Prod.fst x19).q)/\((x18.b=(Prod.fst x19).b)/\((x18.e=(Prod.fst x19).e)/\((0=0/\(x18.body.length=(Prod.fst x19).body.length))/\True)))))))/\(((x1.k=(Prod.snd x19).k)/\((x1.a=(Prod.snd x19).a)/\((x1.p=(Prod.snd x19).p)/\((x1.q=(Prod.snd x19).q)/\((x1.b=(Prod.snd x19).b)/\((x1.e=(Prod.snd x19).e)/\((0=0/\(x1.body.length=(Prod.snd x19).body.length))/\True)))))))/\True))/\((((RLe (Prod.fst x19).body.length x18.body.length)/\(RowsEq (.int IntKind.u8::[]) (Prod.fst x19).body.length (encL encI x18.body) (encL encI (Prod.fst x19).body)))/\(((RLe (Prod.snd x19).body.length x1.body.length)/\(RowsEq (.int IntKind.u8::[]) (Prod.snd x19).body.length (encL encI x1.body) (encL encI (Prod.snd x19).body)))/\True))/\((decide (Prod.fst x19=Prod.snd x19)=true)/\True))))))))))/\((decide (dmE x11=0)=false)->(false=true/\True))))))))))))))))))))))))))))))))))))))=(Keeps cfgL8 Tryd.f8 lw8 noIv) by kernel_rfl) (fun x1=>fun h2=>⟨(default),
 trivial,trivial,trivial,
fun g4=>have h4:=dT g4;⟨rfl,trivial⟩,
fun g5=>have h5:=dF g5;⟨(x1),trivial,
⟨⟨rfl,rfl,rfl,rfl,rfl,rfl,
⟨rfl,rfl⟩,trivial⟩,trivial⟩,
⟨⟨rl,rr⟩,trivial⟩,
(x1),trivial,
⟨⟨rfl,rfl,rfl,rfl,rfl,rfl,
⟨rfl,rfl⟩,trivial⟩,trivial⟩,
⟨⟨rl,rr⟩,trivial⟩,
(by(try dsimp only at *);omega),
(x1),trivial,
⟨⟨rfl,rfl,rfl,rfl,rfl,rfl,
⟨rfl,rfl⟩,trivial⟩,trivial⟩,
⟨⟨rl,rr⟩,trivial⟩,
(by(try dsimp only at *);omega),
fun h9=>⟨(by(try dsimp only at *);grind),trivial⟩,
fun h10=>⟨(mR x1),
(by(try dsimp only at *);exact mR_in h2),
⟨⟨rfl,rfl⟩,trivial⟩,
⟨⟨rl,rr⟩,trivial⟩,
(x1),trivial,
⟨⟨rfl,rfl,rfl,rfl,rfl,rfl,
⟨rfl,rfl⟩,trivial⟩,trivial⟩,
⟨⟨rl,rr⟩,trivial⟩,
fun h13=>⟨fun g14=>have h14:=dT g14;⟨(by(try dsimp only at *);exact decide_eq_true (k_11 h13)),trivial⟩,
fun g15=>have h15:=dF g15;⟨(by(try dsimp only at *);exact k_n0 h13 h15),trivial⟩⟩,
fun h16=>⟨fun g17=>have h17:=dT g17;⟨(dmC (mR x1)),trivial,
⟨⟨rfl,rfl,rfl,rfl,rfl,rfl,
⟨rfl,rfl⟩,trivial⟩,trivial⟩,
⟨⟨rl,rr⟩,trivial⟩,
((dmC (mR x1),x1)),
⟨(by(try dsimp only at *);exact(k_y h2 h16).1),
(by(try dsimp only at *);omega)⟩,
⟨⟨rfl,rfl,rfl,rfl,rfl,rfl,
⟨rfl,rfl⟩,trivial⟩,
⟨rfl,rfl,rfl,rfl,rfl,rfl,
⟨rfl,rfl⟩,trivial⟩,trivial⟩,
⟨⟨rl,rr⟩,
⟨rl,rr⟩,trivial⟩,
(by(try dsimp only at *);exact(k_y h2 h16).2),trivial⟩,
fun g20=>have h20:=dF g20;⟨(by(try dsimp only at *);exact k_no h2 h16 h20),trivial⟩⟩⟩⟩⟩)
end Go.Sym