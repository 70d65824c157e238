import Derived.Test.YtcghhlodddpmaaaDoorV3
import Derived.Test.YtcghhlodddpmaaaDoorXD
namespace Go.Sym
set_option linter.unusedVariables false
set_option linter.unusedSimpArgs false
open Go.Proofs
set_option maxRecDepth 100000
set_option maxHeartbeats 4000000
def n1C (p:Int->Bool):CT where
 X:=Int
 pre:=fun _=>True
 args:=fun n=>[.i .i64 n]
 g0:=fun _=>[]
 res:=fun n=>.b (p n)
 g1:=fun _=>[]
def numP (n:Int):Bool:=decide (1<=n/\n<=1099511627776)
def dskP (n:Int):Bool:=decide (0<=n/\n<=8)
def untP (n:Int):Bool:=decide (0<=n/\n<=255)
set_option maxRecDepth 100000 in
theorem np_keeps:Keeps cfg0 Tryd.f60 (n1C numP) noIv:=Eq.mp (show((∀ x1:Int,(True->(((decide ((1:Int)<=x1)=true)->((decide (x1<=(1099511627776:Int))=numP x1)/\True))/\((decide ((1:Int)<=x1)=false)->((false=numP x1)/\True))))))=(Keeps cfg0 Tryd.f60 (n1C numP) noIv) by kernel_rfl) (fun x1=>fun h2=>⟨fun g3=>have h3:=dT g3;⟨(by simp[numP, *]),trivial⟩,
fun g4=>have h4:=dF g4;⟨(by simp[numP, *]),trivial⟩⟩)
theorem np_good:Good Tryd.prog 60 (n1C numP)/\FnOk Tryd.prog 60:=good_of tok con0 (fn:=Tryd.f60) rfl (by decide+kernel) (fun _=>rfl) np_keeps
set_option maxRecDepth 100000 in
theorem dk_keeps:Keeps cfg0 Tryd.f58 (n1C dskP) noIv:=Eq.mp (show((∀ x1:Int,(True->(((decide ((0:Int)<=x1)=true)->((decide (x1<=(8:Int))=dskP x1)/\True))/\((decide ((0:Int)<=x1)=false)->((false=dskP x1)/\True))))))=(Keeps cfg0 Tryd.f58 (n1C dskP) noIv) by kernel_rfl) (fun x1=>fun h2=>⟨fun g3=>have h3:=dT g3;⟨(by simp[dskP, *]),trivial⟩,
fun g4=>have h4:=dF g4;⟨(by simp[dskP, *]),trivial⟩⟩)
theorem dk_good:Good Tryd.prog 58 (n1C dskP)/\FnOk Tryd.prog 58:=good_of tok con0 (fn:=Tryd.f58) rfl (by decide+kernel) (fun _=>rfl) dk_keeps
set_option maxRecDepth 100000 in
theorem up_keeps:Keeps cfg0 Tryd.f63 (n1C untP) noIv:=Eq.mp (show((∀ x1:Int,(True->(((decide ((0:Int)<=x1)=true)->((decide (x1<=(255:Int))=untP x1)/\True))/\((decide ((0:Int)<=x1)=false)->((false=untP x1)/\True))))))=(Keeps cfg0 Tryd.f63 (n1C untP) noIv) by kernel_rfl) (fun x1=>fun h2=>⟨fun g3=>have h3:=dT g3;⟨(by simp[untP, *]),trivial⟩,
fun g4=>have h4:=dF g4;⟨(by simp[untP, *]),trivial⟩⟩)
theorem up_good:Good Tryd.prog 63 (n1C untP)/\FnOk Tryd.prog 63:=good_of tok con0 (fn:=Tryd.f63) rfl (by decide+kernel) (fun _=>rfl) up_keeps
theorem vc_e {s:ByteArray} {i:Nat} (h:i<=s.size/\∀ j,j<i->33<=atS s j/\atS s j<=126) (h1:¬ (i:Int)<s.size) {b:Bool} (hb:b=decide (1<=s.size/\s.size<=40)):b=vCode s:=by
 unfold vCode
 rw[decide_eq_true (p:=∀ i,_) (fun j hj=>h.2 j (by omega)),Bool.and_true]
 exact hb
def rcI (x:ByteArray) (id:Nat):Option Inv:=match id with
 |0=>some { X:=Nat,ok:=fun i=>i<=x.size/\∀ j,j<i->33<=atS x j/\atS x j<=126,fr:=fun i=>[(0,.s x),(3,.i .i64 i)],hp:=fun _=>[],me:=fun i=>x.size-i }
 |_=>none
def rcC:CT where
 X:=ByteArray
 pre:=fun x=>x.size<=1000000
 args:=fun x=>[.s x]
 g0:=fun _=>[]
 res:=fun x=>.b (vCode x)
 g1:=fun _=>[]
theorem vc_e0 {s:ByteArray} {i:Nat} (h:i<=s.size/\∀ j,j<i->33<=atS s j/\atS s j<=126) (h1:¬ (i:Int)<s.size) (h2:¬ 1<=(s.size:Int)):false=vCode s:=vc_e h h1 (decide_eq_false (by omega)).symm
theorem vc_e1 {s:ByteArray} {i:Nat} (h:i<=s.size/\∀ j,j<i->33<=atS s j/\atS s j<=126) (h1:¬ (i:Int)<s.size) (h2:1<=(s.size:Int)):decide ((s.size:Int)<=40)=vCode s:=vc_e h h1 (decide_eq_decide.2 (by omega))
set_option maxRecDepth 100000 in
theorem rc_keeps:Keeps cfg0 Tryd.f61 rcC rcI:=Eq.mp (show((∀ x1:ByteArray,((ByteArray.size x1<=(1000000:Nat))->(∃ x3:Nat,((((x3<=ByteArray.size x1)/\(∀ j4:Nat,((j4<x3)->(((33:Nat)<=atS x1 j4)/\(atS x1 j4<=(126:Nat))))))/\((x1=x1/\((0=(x3:Int))/\True))/\True))/\(∀ x6:Nat,((x6<=ByteArray.size x1/\∀(j:Nat),j<x6->(33:Nat)<=atS x1 j/\atS x1 j<=(126:Nat))->(((decide ((x6:Int)<(↑(ByteArray.size x1):Int))=true)->((((0:Int)<=(x6:Int))/\((x6:Int)<(↑(ByteArray.size x1):Int)))/\(((decide ((↑(UInt8.toNat (Array.getD (ByteArray.data x1) (Int.toNat (x6:Int)) (0:UInt8))):Int)<33)=false)->((((0:Int)<=(x6:Int))/\((x6:Int)<(↑(ByteArray.size x1):Int)))/\(((decide (126<(↑(UInt8.toNat (Array.getD (ByteArray.data x1) (Int.toNat (x6:Int)) (0:UInt8))):Int))=true)->((false=vCode x1)/\True))/\((decide (126<(↑(UInt8.toNat (Array.getD (ByteArray.data x1) (Int.toNat (x6:Int)) (0:UInt8))):Int))=false)->((((-9223372036854775808:Int)<=(x6:Int)+1)/\((x6:Int)+1<=(9223372036854775807:Int)))/\(∃ x12:Nat,((ByteArray.size x1-x12<ByteArray.size x1-x6)/\(((x12<=ByteArray.size x1)/\(∀ j13:Nat,((j13<x12)->(((33:Nat)<=atS x1 j13)/\(atS x1 j13<=(126:Nat))))))/\((x1=x1/\(((x6:Int)+1=(x12:Int))/\True))/\True)))))))))/\((decide ((↑(UInt8.toNat (Array.getD (ByteArray.data x1) (Int.toNat (x6:Int)) (0:UInt8))):Int)<33)=true)->((false=vCode x1)/\True)))))/\((decide ((x6:Int)<(↑(ByteArray.size x1):Int))=false)->(((decide ((1:Int)<=(↑(ByteArray.size x1):Int))=true)->((decide ((↑(ByteArray.size x1):Int)<=(40:Int))=vCode x1)/\True))/\((decide ((1:Int)<=(↑(ByteArray.size x1):Int))=false)->((false=vCode x1)/\True))))))))))))=(Keeps cfg0 Tryd.f61 rcC rcI) by kernel_rfl) (fun x1=>fun h2=>⟨((0:Nat)),
⟨⟨(by(try dsimp only at *);omega),
fun j4=>fun h5=>⟨(by(try dsimp only at *);omega),
(by(try dsimp only at *);omega)⟩⟩,
⟨rfl,
(by(try dsimp only at *);omega),trivial⟩,trivial⟩,
fun x6=>fun h7=>⟨fun g8=>have h8:=dT g8;⟨⟨(by(try dsimp only at *);omega),
(by(try dsimp only at *);omega)⟩,
fun g9=>have h9:=dF g9;⟨⟨(by(try dsimp only at *);omega),
(by(try dsimp only at *);omega)⟩,
fun g10=>have h10:=dT g10;⟨(by(try dsimp only at *);exact vc_f2 ‹_› (.inr ‹_›)),trivial⟩,
fun g11=>have h11:=dF g11;⟨⟨(by(try dsimp only at *);omega),
(by(try dsimp only at *);omega)⟩,
(x6+(1:Nat)),
(by(try dsimp only at *);omega),
⟨(by(try dsimp only at *);omega),
fun j13=>fun h14=>⟨(by(try dsimp only at *);exact(vc_s h7.2 h9 h11 h14).1),
(by(try dsimp only at *);exact(vc_s h7.2 h9 h11 h14).2)⟩⟩,
⟨rfl,
(by(try dsimp only at *);omega),trivial⟩,trivial⟩⟩,
fun g15=>have h15:=dT g15;⟨(by(try dsimp only at *);exact vc_f2 ‹_› (.inl ‹_›)),trivial⟩⟩,
fun g16=>have h16:=dF g16;⟨fun g17=>have h17:=dT g17;⟨(by(try dsimp only at *);exact vc_e1 h7 h16 h17),trivial⟩,
fun g18=>have h18:=dF g18;⟨(by(try dsimp only at *);exact vc_e0 h7 h16 h18),trivial⟩⟩⟩⟩)
theorem rc_good:Good Tryd.prog 61 rcC/\FnOk Tryd.prog 61:=good_of tok con0 (fn:=Tryd.f61) rfl (by decide+kernel) (fun _=>rfl) rc_keeps
theorem vn_f3 {x:List Int} {i:Nat} (h1:(i:Int)<x.length) (h:x.getD (0+(i:Int).toNat) default<0∨4095<x.getD (0+(i:Int).toNat) default):false=vNodes x:=by
 rw[Nat.zero_add]at h
 have h:x.getD i 0<0∨4095<x.getD i 0:=h
 unfold vNodes
 rw[decide_eq_false (p:=∀ i,_) (fun h2=>by have:=h2 i (by omega);omega),Bool.and_false]
theorem vn_f4 {x:List Int} {i:Nat} (h1:(i:Int)<x.length) (h0:0<(i:Int)) (h:x.getD (0+(i:Int).toNat) default<=x.getD (0+((i:Int)-1).toNat) default):false=vNodes x:=by
 have e:((i:Int)-1).toNat=i-1:=by omega
 rw[Nat.zero_add,Nat.zero_add,e]at h
 have h:x.getD i 0<=x.getD (i-1) 0:=h
 unfold vNodes
 rw[decide_eq_false (p:=∀ i,_) (fun h2=>by have:=(h2 i (by omega)).2.2 (by omega);omega),Bool.and_false]
theorem vn_s2 {x:List Int} {i:Nat} (h:vnP x i) (ha:¬ x.getD (0+(i:Int).toNat) default<0) (hb:¬ 4095<x.getD (0+(i:Int).toNat) default) (hc:0<(i:Int)->¬ x.getD (0+(i:Int).toNat) default<=x.getD (0+((i:Int)-1).toNat) default):vnP x (i+1):=by
 have e:((i:Int)-1).toNat=i-1:=by omega
 rw[Nat.zero_add,Nat.zero_add,e]at hc
 rw[Nat.zero_add]at ha hb
 have ha:¬ x.getD i 0<0:=ha
 have hb:¬ 4095<x.getD i 0:=hb
 have hc:0<(i:Int)->¬ x.getD i 0<=x.getD (i-1) 0:=hc
 intro j hj
 rcases(show j<i∨j=i by omega)with h3|rfl
 ·exact h j h3
 ·exact⟨by omega,by omega,fun h=>by have:=hc (by omega);omega⟩
theorem vn_e {x:List Int} {i:Nat} (h:i<=x.length/\vnP x i) (h1:¬ (i:Int)<x.length) {b:Bool} (hb:b=decide (1<=x.length/\x.length<=2000)):b=vNodes x:=by
 unfold vNodes
 rw[decide_eq_true (p:=∀ i,_) (fun j hj=>h.2 j (by omega)),Bool.and_true]
 exact hb
def rnI (x:List Int) (id:Nat):Option Inv:=match id with
 |0=>some { X:=Nat,ok:=fun i=>i<=x.length/\vnP x i,fr:=fun i=>[(0,.sl 100001 0 x.length),(3,.i .i64 i)],hp:=fun _=>[(100001,.rows .bor kN x.length (encL encI x))],me:=fun i=>x.length-i }
 |_=>none
def rnC:CT where
 X:=List Int
 pre:=fun x=>x.length<=1000000
 args:=fun x=>[.sl 100001 0 x.length]
 g0:=fun x=>[(100001,.rows .bor kN x.length (encL encI x))]
 res:=fun x=>.b (vNodes x)
 g1:=fun _=>[]
theorem vn_e0 {x:List Int} {i:Nat} (h:i<=x.length/\vnP x i) (h1:¬ (i:Int)<x.length) (h2:¬ 1<=(x.length:Int)):false=vNodes x:=vn_e h h1 (decide_eq_false (by omega)).symm
theorem vn_e1 {x:List Int} {i:Nat} (h:i<=x.length/\vnP x i) (h1:¬ (i:Int)<x.length) (h2:1<=(x.length:Int)):decide ((x.length:Int)<=2000)=vNodes x:=vn_e h h1 (decide_eq_decide.2 (by omega))
set_option maxRecDepth 100000 in
theorem rn_keeps:Keeps cfg0 Tryd.f62 rnC rnI:=Eq.mp (show((∀ x1:List Int,((x1.length<=(1000000:Nat))->(∃ x3:Nat,((((x3<=x1.length)/\(vnP x1 x3))/\(((0=0/\x1.length=x1.length)/\((0=(x3:Int))/\True))/\(((RLe x1.length x1.length)/\(RI x1.length x1 x1))/\True)))/\(∀ x4:Nat,((x4<=x1.length/\vnP x1 x4)->(((decide ((x4:Int)<(x1.length:Int))=true)->((((0:Int)<=(x4:Int))/\((x4:Int)<(x1.length:Int)))/\((0+Int.toNat (x4:Int)<x1.length)/\(((decide (x1.getD (0+Int.toNat (x4:Int)) default<0)=false)->((((0:Int)<=(x4:Int))/\((x4:Int)<(x1.length:Int)))/\((0+Int.toNat (x4:Int)<x1.length)/\(((decide (4095<x1.getD (0+Int.toNat (x4:Int)) default)=false)->(((decide (0<(x4:Int))=true)->((((0:Int)<=(x4:Int))/\((x4:Int)<(x1.length:Int)))/\((0+Int.toNat (x4:Int)<x1.length)/\((((-9223372036854775808:Int)<=(x4:Int)-1)/\((x4:Int)-1<=(9223372036854775807:Int)))/\((((0:Int)<=(x4:Int)-1)/\((x4:Int)-1<(x1.length:Int)))/\((0+Int.toNat ((x4:Int)-1)<x1.length)/\(((decide (x1.getD (0+Int.toNat (x4:Int)) default<=x1.getD (0+Int.toNat ((x4:Int)-1)) default)=true)->((false=vNodes x1)/\True))/\((decide (x1.getD (0+Int.toNat (x4:Int)) default<=x1.getD (0+Int.toNat ((x4:Int)-1)) default)=false)->((((-9223372036854775808:Int)<=(x4:Int)+1)/\((x4:Int)+1<=(9223372036854775807:Int)))/\(∃ x12:Nat,((x1.length-x12<x1.length-x4)/\(((x12<=x1.length)/\(vnP x1 x12))/\(((0=0/\x1.length=x1.length)/\(((x4:Int)+1=(x12:Int))/\True))/\(((RLe x1.length x1.length)/\(RI x1.length x1 x1))/\True))))))))))))))/\((decide (0<(x4:Int))=false)->((((-9223372036854775808:Int)<=(x4:Int)+1)/\((x4:Int)+1<=(9223372036854775807:Int)))/\(∃ x14:Nat,((x1.length-x14<x1.length-x4)/\(((x14<=x1.length)/\(vnP x1 x14))/\(((0=0/\x1.length=x1.length)/\(((x4:Int)+1=(x14:Int))/\True))/\(((RLe x1.length x1.length)/\(RI x1.length x1 x1))/\True)))))))))/\((decide (4095<x1.getD (0+Int.toNat (x4:Int)) default)=true)->((false=vNodes x1)/\True))))))/\((decide (x1.getD (0+Int.toNat (x4:Int)) default<0)=true)->((false=vNodes x1)/\True))))))/\((decide ((x4:Int)<(x1.length:Int))=false)->(((decide ((1:Int)<=(x1.length:Int))=true)->((decide ((x1.length:Int)<=(2000:Int))=vNodes x1)/\True))/\((decide ((1:Int)<=(x1.length:Int))=false)->((false=vNodes x1)/\True))))))))))))=(Keeps cfg0 Tryd.f62 rnC rnI) by kernel_rfl) (fun x1=>fun h2=>⟨((0:Nat)),
⟨⟨(by(try dsimp only at *);omega),
(by
       exact fun j hj=>absurd hj (Nat.not_lt_zero j))⟩,
⟨⟨rfl,rfl⟩,
(by(try dsimp only at *);omega),trivial⟩,
⟨rl,rr⟩,trivial⟩,
fun x4=>fun h5=>⟨fun g6=>have h6:=dT g6;⟨⟨(by(try dsimp only at *);omega),
(by(try dsimp only at *);omega)⟩,
(by(try dsimp only at *);omega),
fun g7=>have h7:=dF g7;⟨⟨(by(try dsimp only at *);omega),
(by(try dsimp only at *);omega)⟩,
(by(try dsimp only at *);omega),
fun g8=>have h8:=dF g8;⟨fun g9=>have h9:=dT g9;⟨⟨(by(try dsimp only at *);omega),
(by(try dsimp only at *);omega)⟩,
(by(try dsimp only at *);omega),
⟨(by(try dsimp only at *);omega),
(by(try dsimp only at *);omega)⟩,
⟨(by(try dsimp only at *);omega),
(by(try dsimp only at *);omega)⟩,
(by(try dsimp only at *);omega),
fun g10=>have h10:=dT g10;⟨(by(try dsimp only at *);exact vn_f4 h6 h9 h10),trivial⟩,
fun g11=>have h11:=dF g11;⟨⟨(by(try dsimp only at *);omega),
(by(try dsimp only at *);omega)⟩,
(x4+(1:Nat)),
(by(try dsimp only at *);omega),
⟨(by(try dsimp only at *);omega),
(by(try dsimp only at *);exact vn_s2 h5.2 h7 h8 (fun _=>h11))⟩,
⟨⟨rfl,rfl⟩,
(by(try dsimp only at *);omega),trivial⟩,
⟨rl,rr⟩,trivial⟩⟩,
fun g13=>have h13:=dF g13;⟨⟨(by(try dsimp only at *);omega),
(by(try dsimp only at *);omega)⟩,
(x4+(1:Nat)),
(by(try dsimp only at *);omega),
⟨(by(try dsimp only at *);omega),
(by(try dsimp only at *);exact vn_s2 h5.2 h7 h8 (fun h=>absurd h h13))⟩,
⟨⟨rfl,rfl⟩,
(by(try dsimp only at *);omega),trivial⟩,
⟨rl,rr⟩,trivial⟩⟩,
fun g15=>have h15:=dT g15;⟨(by(try dsimp only at *);exact vn_f3 ‹_› (.inr ‹_›)),trivial⟩⟩,
fun g16=>have h16:=dT g16;⟨(by(try dsimp only at *);exact vn_f3 ‹_› (.inl ‹_›)),trivial⟩⟩,
fun g17=>have h17:=dF g17;⟨fun g18=>have h18:=dT g18;⟨(by(try dsimp only at *);exact vn_e1 h5 h17 h18),trivial⟩,
fun g19=>have h19:=dF g19;⟨(by(try dsimp only at *);exact vn_e0 h5 h17 h19),trivial⟩⟩⟩⟩)
theorem rn_good:Good Tryd.prog 62 rnC/\FnOk Tryd.prog 62:=good_of tok con0 (fn:=Tryd.f62) rfl (by decide+kernel) (fun _=>rfl) rn_keeps
def lsC:CT where
 X:=List Int × List Int
 pre:=fun x=>x.1.length<=1000000
 args:=fun x=>[.sl 100001 0 x.1.length,.sl 100002 0 x.2.length]
 g0:=fun x=>[(100001,.rows .bor kN x.1.length (encL encI x.1)),(100002,.rows .bor kN x.2.length (encL encI x.2))]
 res:=fun x=>.b (decide (x.1=x.2))
 g1:=fun _=>[]
def lsI (x:List Int × List Int) (id:Nat):Option Inv:=match id with
 | 0 => some { X := Nat, ok := fun i => i <= x.1.length /\ x.1.length = x.2.length /\ ∀ j, j < i -> x.1.getD j 0 = x.2.getD j 0, fr := fun i => [(0, .sl 100001 0 x.1.length), (1, .sl 100002 0 x.2.length), (12, .i .i64 x.1.length), (13, .i .i64 i)],
               hp:=fun _=>[(100001,.rows .bor kN x.1.length (encL encI x.1)),(100002,.rows .bor kN x.2.length (encL encI x.2))],me:=fun i=>x.1.length-i }
 |_=>none
theorem ls_t {x:List Int × List Int} {i:Nat} (h:i<=x.1.length/\x.1.length=x.2.length/\∀ j,j<i->x.1.getD j 0=x.2.getD j 0) (h1:¬ (i:Int)<x.1.length):true=decide (x.1=x.2):=by
 refine(decide_eq_true (List.ext_getElem h.2.1 fun j h2 h3=>?_)).symm
 have:=h.2.2 j (by omega)
 rw[List.getD_eq_getElem?_getD,List.getD_eq_getElem?_getD,List.getElem?_eq_getElem h2,List.getElem?_eq_getElem h3]at this
 exact this
set_option maxRecDepth 100000 in
theorem ls_keeps:Keeps cfg0 Tryd.f55 lsC lsI:=Eq.mp (show((∀ x1:List Int × List Int,(((Prod.fst x1).length<=(1000000:Nat))->(((decide ((↑(Prod.fst x1).length:Int)≠(↑(Prod.snd x1).length:Int))=true)->((false=decide (Prod.fst x1=Prod.snd x1))/\True))/\((decide ((↑(Prod.fst x1).length:Int)≠(↑(Prod.snd x1).length:Int))=false)->(∃ x5:Nat,((((x5<=(Prod.fst x1).length)/\(((Prod.fst x1).length=(Prod.snd x1).length)/\(∀ j6:Nat,((j6<x5)->((Prod.fst x1).getD j6 0=(Prod.snd x1).getD j6 (0:Int))))))/\(((0=0/\((Prod.fst x1).length=(Prod.fst x1).length))/\((0=0/\((Prod.snd x1).length=(Prod.snd x1).length))/\(((↑(Prod.fst x1).length:Int)=(↑(Prod.fst x1).length:Int))/\((0=(x5:Int))/\((0=0/\((Prod.fst x1).length=(Prod.fst x1).length))/\(false=false/\(((↑(Prod.snd x1).length:Int)=(↑(Prod.snd x1).length:Int))/\((0=0/\((Prod.snd x1).length=(Prod.snd x1).length))/\(((↑(Prod.fst x1).length:Int)=(↑(Prod.fst x1).length:Int))/\((0=0/\((Prod.fst x1).length=(Prod.fst x1).length))/\True))))))))))/\(((RLe (Prod.fst x1).length (Prod.fst x1).length)/\(RowsEq [.int .i64] (Prod.fst x1).length (encL encI (Prod.fst x1)) (encL encI (Prod.fst x1))))/\(((RLe (Prod.snd x1).length (Prod.snd x1).length)/\(RowsEq [.int .i64] (Prod.snd x1).length (encL encI (Prod.snd x1)) (encL encI (Prod.snd x1))))/\True))))/\(∀ x8:Nat,((x8<=(Prod.fst x1).length/\(Prod.fst x1).length=(Prod.snd x1).length/\∀(j:Nat),j<x8->(Prod.fst x1).getD j 0=(Prod.snd x1).getD j (0:Int))->(((decide ((x8:Int)<(↑(Prod.fst x1).length:Int))=true)->((((0:Int)<=(x8:Int))/\((x8:Int)<(↑(Prod.fst x1).length:Int)))/\((0+Int.toNat (x8:Int)<(Prod.fst x1).length)/\((((0:Int)<=(x8:Int))/\((x8:Int)<(↑(Prod.snd x1).length:Int)))/\((0+Int.toNat (x8:Int)<(Prod.snd x1).length)/\(((decide ((Prod.fst x1).getD (0+Int.toNat (x8:Int)) default≠(Prod.snd x1).getD (0+Int.toNat (x8:Int)) default)=true)->((false=decide (Prod.fst x1=Prod.snd x1))/\True))/\((decide ((Prod.fst x1).getD (0+Int.toNat (x8:Int)) default≠(Prod.snd x1).getD (0+Int.toNat (x8:Int)) default)=false)->((((-9223372036854775808:Int)<=(x8:Int)+1)/\((x8:Int)+1<=(9223372036854775807:Int)))/\(∃ x13:Nat,(((Prod.fst x1).length-x13<(Prod.fst x1).length-x8)/\(((x13<=(Prod.fst x1).length)/\(((Prod.fst x1).length=(Prod.snd x1).length)/\(∀ j14:Nat,((j14<x13)->((Prod.fst x1).getD j14 0=(Prod.snd x1).getD j14 (0:Int))))))/\(((0=0/\((Prod.fst x1).length=(Prod.fst x1).length))/\((0=0/\((Prod.snd x1).length=(Prod.snd x1).length))/\(((↑(Prod.fst x1).length:Int)=(↑(Prod.fst x1).length:Int))/\(((x8:Int)+1=(x13:Int))/\((0=0/\((Prod.fst x1).length=(Prod.fst x1).length))/\(false=false/\(((↑(Prod.snd x1).length:Int)=(↑(Prod.snd x1).length:Int))/\((0=0/\((Prod.snd x1).length=(Prod.snd x1).length))/\(((↑(Prod.fst x1).length:Int)=(↑(Prod.fst x1).length:Int))/\((0=0/\((Prod.fst x1).length=(Prod.fst x1).length))/\True))))))))))/\(((RLe (Prod.fst x1).length (Prod.fst x1).length)/\(RowsEq [.int .i64] (Prod.fst x1).length (encL encI (Prod.fst x1)) (encL encI (Prod.fst x1))))/\(((RLe (Prod.snd x1).length (Prod.snd x1).length)/\(RowsEq [.int .i64] (Prod.snd x1).length (encL encI (Prod.snd x1)) (encL encI (Prod.snd x1))))/\True))))))))))))))/\((decide ((x8:Int)<(↑(Prod.fst x1).length:Int))=false)->((true=decide (Prod.fst x1=Prod.snd x1))/\True))))))))))))=(Keeps cfg0 Tryd.f55 lsC lsI) by kernel_rfl) (fun x1=>fun h2=>⟨fun g3=>have h3:=dT g3;⟨(by grind),trivial⟩,
fun g4=>have h4:=dF g4;⟨((0:Nat)),
⟨⟨(by(try dsimp only at *);omega),
(by(try dsimp only at *);omega),
fun j6=>fun h7=>(by(try dsimp only at *);omega)⟩,
⟨⟨rfl,rfl⟩,
⟨rfl,rfl⟩,rfl,
(by(try dsimp only at *);omega),
⟨rfl,rfl⟩,rfl,rfl,
⟨rfl,rfl⟩,rfl,
⟨rfl,rfl⟩,trivial⟩,
⟨rl,rr⟩,
⟨rl,rr⟩,trivial⟩,
fun x8=>fun h9=>⟨fun g10=>have h10:=dT g10;⟨⟨(by(try dsimp only at *);omega),
(by(try dsimp only at *);omega)⟩,
(by(try dsimp only at *);omega),
⟨(by(try dsimp only at *);omega),
(by(try dsimp only at *);omega)⟩,
(by(try dsimp only at *);omega),
fun g11=>have h11:=dT g11;⟨(by(try dsimp only at *);grind),trivial⟩,
fun g12=>have h12:=dF g12;⟨⟨(by(try dsimp only at *);omega),
(by(try dsimp only at *);omega)⟩,
(x8+(1:Nat)),
(by(try dsimp only at *);omega),
⟨(by(try dsimp only at *);omega),
(by(try dsimp only at *);omega),
fun j14=>fun h15=>(by(try dsimp only at *);grind)⟩,
⟨⟨rfl,rfl⟩,
⟨rfl,rfl⟩,rfl,
(by(try dsimp only at *);omega),
⟨rfl,rfl⟩,rfl,rfl,
⟨rfl,rfl⟩,rfl,
⟨rfl,rfl⟩,trivial⟩,
⟨rl,rr⟩,
⟨rl,rr⟩,trivial⟩⟩,
fun g16=>have h16:=dF g16;⟨(by(try dsimp only at *);exact ls_t h9 h16),trivial⟩⟩⟩⟩)
theorem ls_good:Good Tryd.prog 55 lsC/\FnOk Tryd.prog 55:=good_of tok con0 (fn:=Tryd.f55) rfl (by decide+kernel) (fun _=>rfl) ls_keeps
end Go.Sym