import Derived.Test.YtcghhlodddpmaaaDoorV1
import Derived.Test.YtcghhlodddpmaaaDoorXD
namespace Go.Sym
set_option linter.unusedVariables false
set_option linter.unusedSimpArgs false
open Go.Proofs
set_option maxRecDepth 100000
set_option maxHeartbeats 4000000
def vcI (x:ByteArray) (id:Nat):Option Inv:=match id with
 |0=>some { X:=Nat,ok:=fun i=>i<=x.size/\(1<=x.size/\x.size<=40)/\∀ j,j<i->33<=atS x j/\atS x j<=126,fr:=fun i=>[(0,.s x),(3,.i .i64 i)],hp:=fun _=>[],me:=fun i=>x.size-i }
 |_=>none
def vcC:CT where
 X:=ByteArray
 pre:=fun _=>True
 args:=fun x=>[.s x]
 g0:=fun _=>[]
 res:=fun x=>.b (vCode x)
 g1:=fun _=>[]
set_option maxRecDepth 100000 in
theorem vc_keeps:Keeps cfg0 Tryd.f29 vcC vcI:=Eq.mp (show((∀ x1:ByteArray,(True->(((decide ((↑(ByteArray.size x1):Int)<1)=false)->(((decide (40<(↑(ByteArray.size x1):Int))=true)->((false=vCode x1)/\True))/\((decide (40<(↑(ByteArray.size x1):Int))=false)->(∃ x6:Nat,((((x6<=ByteArray.size x1)/\((((1:Nat)<=ByteArray.size x1)/\(ByteArray.size x1<=(40:Nat)))/\(∀ j7:Nat,((j7<x6)->(((33:Nat)<=atS x1 j7)/\(atS x1 j7<=(126:Nat)))))))/\((x1=x1/\((0=(x6:Int))/\(false=false/\((decide (40<(↑(ByteArray.size x1):Int))=decide (40<(↑(ByteArray.size x1):Int)))/\(((↑(ByteArray.size x1):Int)=(↑(ByteArray.size x1):Int))/\(x1=x1/\((decide ((↑(ByteArray.size x1):Int)<1)=decide ((↑(ByteArray.size x1):Int)<1))/\((decide ((↑(ByteArray.size x1):Int)<1)=decide ((↑(ByteArray.size x1):Int)<1))/\(((↑(ByteArray.size x1):Int)=(↑(ByteArray.size x1):Int))/\(x1=x1/\True))))))))))/\True))/\(∀ x9:Nat,((x9<=ByteArray.size x1/\((1:Nat)<=ByteArray.size x1/\ByteArray.size x1<=(40:Nat))/\∀(j:Nat),j<x9->(33:Nat)<=atS x1 j/\atS x1 j<=(126:Nat))->(((decide ((x9:Int)<(↑(ByteArray.size x1):Int))=true)->((((0:Int)<=(x9:Int))/\((x9:Int)<(↑(ByteArray.size x1):Int)))/\(((decide ((↑(UInt8.toNat (Array.getD (ByteArray.data x1) (Int.toNat (x9:Int)) (0:UInt8))):Int)<33)=false)->((((0:Int)<=(x9:Int))/\((x9:Int)<(↑(ByteArray.size x1):Int)))/\(((decide (126<(↑(UInt8.toNat (Array.getD (ByteArray.data x1) (Int.toNat (x9:Int)) (0:UInt8))):Int))=true)->((false=vCode x1)/\True))/\((decide (126<(↑(UInt8.toNat (Array.getD (ByteArray.data x1) (Int.toNat (x9:Int)) (0:UInt8))):Int))=false)->((((-9223372036854775808:Int)<=(x9:Int)+1)/\((x9:Int)+1<=(9223372036854775807:Int)))/\(∃ x15:Nat,((ByteArray.size x1-x15<ByteArray.size x1-x9)/\(((x15<=ByteArray.size x1)/\((((1:Nat)<=ByteArray.size x1)/\(ByteArray.size x1<=(40:Nat)))/\(∀ j16:Nat,((j16<x15)->(((33:Nat)<=atS x1 j16)/\(atS x1 j16<=(126:Nat)))))))/\((x1=x1/\(((x9:Int)+1=(x15:Int))/\(false=false/\((decide (40<(↑(ByteArray.size x1):Int))=decide (40<(↑(ByteArray.size x1):Int)))/\(((↑(ByteArray.size x1):Int)=(↑(ByteArray.size x1):Int))/\(x1=x1/\((decide ((↑(ByteArray.size x1):Int)<1)=decide ((↑(ByteArray.size x1):Int)<1))/\((decide ((↑(ByteArray.size x1):Int)<1)=decide ((↑(ByteArray.size x1):Int)<1))/\(((↑(ByteArray.size x1):Int)=(↑(ByteArray.size x1):Int))/\(x1=x1/\True))))))))))/\True)))))))))/\((decide ((↑(UInt8.toNat (Array.getD (ByteArray.data x1) (Int.toNat (x9:Int)) (0:UInt8))):Int)<33)=true)->((false=vCode x1)/\True)))))/\((decide ((x9:Int)<(↑(ByteArray.size x1):Int))=false)->((true=vCode x1)/\True))))))))))/\((decide ((↑(ByteArray.size x1):Int)<1)=true)->((false=vCode x1)/\True))))))=(Keeps cfg0 Tryd.f29 vcC vcI) by kernel_rfl) (fun x1=>fun h2=>⟨fun g3=>have h3:=dF g3;⟨fun g4=>have h4:=dT g4;⟨(by exact vc_f1 (by omega)),trivial⟩,
fun g5=>have h5:=dF g5;⟨((0:Nat)),
⟨⟨(by(try dsimp only at *);omega),
⟨(by(try dsimp only at *);omega),
(by(try dsimp only at *);omega)⟩,
fun j7=>fun h8=>⟨(by(try dsimp only at *);omega),
(by(try dsimp only at *);omega)⟩⟩,
⟨rfl,
(by(try dsimp only at *);omega),rfl,rfl,rfl,rfl,rfl,rfl,rfl,rfl,trivial⟩,trivial⟩,
fun x9=>fun h10=>⟨fun g11=>have h11:=dT g11;⟨⟨(by(try dsimp only at *);omega),
(by(try dsimp only at *);omega)⟩,
fun g12=>have h12:=dF g12;⟨⟨(by(try dsimp only at *);omega),
(by(try dsimp only at *);omega)⟩,
fun g13=>have h13:=dT g13;⟨(by(try dsimp only at *);exact vc_f2 ‹_› (.inr ‹_›)),trivial⟩,
fun g14=>have h14:=dF g14;⟨⟨(by(try dsimp only at *);omega),
(by(try dsimp only at *);omega)⟩,
(x9+(1:Nat)),
(by(try dsimp only at *);omega),
⟨(by(try dsimp only at *);omega),
⟨(by(try dsimp only at *);omega),
(by(try dsimp only at *);omega)⟩,
fun j16 => fun h17 => ⟨(by
       exact(vc_s h10.2.2 h12 h14 h17).1),
(by
       exact(vc_s h10.2.2 h12 h14 h17).2)⟩⟩,
⟨rfl,
(by(try dsimp only at *);omega),rfl,rfl,rfl,rfl,rfl,rfl,rfl,rfl,trivial⟩,trivial⟩⟩,
fun g18=>have h18:=dT g18;⟨(by(try dsimp only at *);exact vc_f2 ‹_› (.inl ‹_›)),trivial⟩⟩,
fun g19=>have h19:=dF g19;⟨(by(try dsimp only at *);exact vc_t h10 h19),trivial⟩⟩⟩⟩,
fun g20=>have h20:=dT g20;⟨(by(try dsimp only at *);exact vc_f1 (by omega)),trivial⟩⟩)
theorem vc_good:Good Tryd.prog 29 vcC/\FnOk Tryd.prog 29:=good_of tok con0 (fn:=Tryd.f29) rfl (by decide+kernel) (fun _=>rfl) vc_keeps
def vnI (x:List Int) (id:Nat):Option Inv:=match id with
 |0=>some { X:=Nat,ok:=fun i=>i<=x.length/\(1<=x.length/\x.length<=2000)/\vnP x i,fr:=fun i=>[(3,.i .i64 (lastN x i)),(14,.sl 100001 0 x.length),(15,.i .i64 x.length),(16,.i .i64 i)],hp:=fun _=>[(100001,.rows .bor kN x.length (encL encI x))],me:=fun i=>x.length-i }
 |_=>none
def vnC:CT where
 X:=List Int
 pre:=fun _=>True
 args:=fun x=>[.sl 100001 0 x.length]
 g0:=fun x=>[(100001,.rows .bor kN x.length (encL encI x))]
 res:=fun x=>.b (vNodes x)
 g1:=fun _=>[]
set_option maxRecDepth 100000 in
theorem vn_keeps:Keeps cfg0 Tryd.f30 vnC vnI:=Eq.mp (show((∀ x1:List Int,(True->(((decide ((x1.length:Int)<1)=false)->(((decide (2000<(x1.length:Int))=true)->((false=vNodes x1)/\True))/\((decide (2000<(x1.length:Int))=false)->(∃ x6:Nat,((((x6<=x1.length)/\((((1:Nat)<=x1.length)/\(x1.length<=(2000:Nat)))/\(vnP x1 x6)))/\((((-1:Int)=lastN x1 x6)/\((0=0/\x1.length=x1.length)/\(((x1.length:Int)=(x1.length:Int))/\((0=(x6:Int))/\(false=false/\((decide (2000<(x1.length:Int))=decide (2000<(x1.length:Int)))/\(((x1.length:Int)=(x1.length:Int))/\((0=0/\x1.length=x1.length)/\((decide ((x1.length:Int)<1)=decide ((x1.length:Int)<1))/\((decide ((x1.length:Int)<1)=decide ((x1.length:Int)<1))/\(((x1.length:Int)=(x1.length:Int))/\((0=0/\x1.length=x1.length)/\((0=0/\x1.length=x1.length)/\True)))))))))))))/\(((RLe x1.length x1.length)/\(RI x1.length x1 x1))/\True)))/\(∀ x7:Nat,((x7<=x1.length/\((1:Nat)<=x1.length/\x1.length<=(2000:Nat))/\vnP x1 x7)->(((decide ((x7:Int)<(x1.length:Int))=true)->((((0:Int)<=(x7:Int))/\((x7:Int)<(x1.length:Int)))/\((0+Int.toNat (x7:Int)<x1.length)/\(((decide (x1.getD (0+Int.toNat (x7:Int)) default<=lastN x1 x7)=false)->(((decide ((4096:Int)<=x1.getD (0+Int.toNat (x7:Int)) default)=true)->((false=vNodes x1)/\True))/\((decide ((4096:Int)<=x1.getD (0+Int.toNat (x7:Int)) default)=false)->((((-9223372036854775808:Int)<=(x7:Int)+1)/\((x7:Int)+1<=(9223372036854775807:Int)))/\(∃ x13:Nat,((x1.length-x13<x1.length-x7)/\(((x13<=x1.length)/\((((1:Nat)<=x1.length)/\(x1.length<=(2000:Nat)))/\(vnP x1 x13)))/\(((x1.getD (0+Int.toNat (x7:Int)) default=lastN x1 x13)/\((0=0/\x1.length=x1.length)/\(((x1.length:Int)=(x1.length:Int))/\(((x7:Int)+1=(x13:Int))/\(false=false/\((decide (2000<(x1.length:Int))=decide (2000<(x1.length:Int)))/\(((x1.length:Int)=(x1.length:Int))/\((0=0/\x1.length=x1.length)/\((decide ((x1.length:Int)<1)=decide ((x1.length:Int)<1))/\((decide ((x1.length:Int)<1)=decide ((x1.length:Int)<1))/\(((x1.length:Int)=(x1.length:Int))/\((0=0/\x1.length=x1.length)/\((0=0/\x1.length=x1.length)/\True)))))))))))))/\(((RLe x1.length x1.length)/\(RI x1.length x1 x1))/\True)))))))))/\((decide (x1.getD (0+Int.toNat (x7:Int)) default<=lastN x1 x7)=true)->((false=vNodes x1)/\True))))))/\((decide ((x7:Int)<(x1.length:Int))=false)->((true=vNodes x1)/\True))))))))))/\((decide ((x1.length:Int)<1)=true)->((false=vNodes x1)/\True))))))=(Keeps cfg0 Tryd.f30 vnC vnI) by kernel_rfl) (fun x1=>fun h2=>⟨fun g3=>have h3:=dF g3;⟨fun g4=>have h4:=dT g4;⟨(by exact vn_f1 (by omega)),trivial⟩,
fun g5=>have h5:=dF g5;⟨((0:Nat)),
⟨⟨(by(try dsimp only at *);omega),
⟨(by(try dsimp only at *);omega),
(by(try dsimp only at *);omega)⟩,
(by
       exact fun j hj=>absurd hj (Nat.not_lt_zero j))⟩,
⟨(by(try dsimp only at *);rfl),
⟨rfl,rfl⟩,rfl,
(by(try dsimp only at *);omega),rfl,rfl,rfl,
⟨rfl,rfl⟩,rfl,rfl,rfl,
⟨rfl,rfl⟩,
⟨rfl,rfl⟩,trivial⟩,
⟨rl,rr⟩,trivial⟩,
fun x7=>fun h8=>⟨fun g9=>have h9:=dT g9;⟨⟨(by(try dsimp only at *);omega),
(by(try dsimp only at *);omega)⟩,
(by(try dsimp only at *);omega),
fun g10=>have h10:=dF g10;⟨fun g11=>have h11:=dT g11;⟨(by(try dsimp only at *);exact vn_f2 h8.2.2 ‹_› (.inr ‹_›)),trivial⟩,
fun g12=>have h12:=dF g12;⟨⟨(by(try dsimp only at *);omega),
(by(try dsimp only at *);omega)⟩,
(x7+(1:Nat)),
(by(try dsimp only at *);omega),
⟨(by(try dsimp only at *);omega),
⟨(by(try dsimp only at *);omega),
(by(try dsimp only at *);omega)⟩,
(by(try dsimp only at *);exact vn_s h8.2.2 ‹_› ‹_›)⟩,
⟨(by(try dsimp only at *);exact vn_l),
⟨rfl,rfl⟩,rfl,
(by(try dsimp only at *);omega),rfl,rfl,rfl,
⟨rfl,rfl⟩,rfl,rfl,rfl,
⟨rfl,rfl⟩,
⟨rfl,rfl⟩,trivial⟩,
⟨rl,rr⟩,trivial⟩⟩,
fun g14=>have h14:=dT g14;⟨(by(try dsimp only at *);exact vn_f2 h8.2.2 ‹_› (.inl ‹_›)),trivial⟩⟩,
fun g15=>have h15:=dF g15;⟨(by(try dsimp only at *);exact vn_t h8.2.1 h8.2.2 ‹_›),trivial⟩⟩⟩⟩,
fun g16=>have h16:=dT g16;⟨(by(try dsimp only at *);exact vn_f1 (by omega)),trivial⟩⟩)
theorem vn_good:Good Tryd.prog 30 vnC/\FnOk Tryd.prog 30:=good_of tok con0 (fn:=Tryd.f30) rfl (by decide+kernel) (fun _=>rfl) vn_keeps
def eqP (x:Cmd × Cmd) (i:Nat):Prop:=x.1.nodes.length=x.2.nodes.length/\∀ j,j<i->x.1.nodes.getD j 0=x.2.nodes.getD j 0
theorem eqP_len {x:Cmd × Cmd} (h:¬ (x.1.nodes.length:Int)≠x.2.nodes.length):eqP x 0:=⟨by omega,fun j hj=>absurd hj (Nat.not_lt_zero j)⟩
theorem eqP_s {x:Cmd × Cmd} {i:Nat} (h:eqP x i) (h1:¬ x.1.nodes.getD (0+(i:Int).toNat) default≠x.2.nodes.getD (0+(i:Int).toNat) default):eqP x (i+1):=by
 refine⟨h.1,fun j hj=>?_⟩
 rcases(show j<i∨j=i by omega)with h3|rfl
 ·exact h.2 j h3
 ·rw[Nat.zero_add]at h1
  exact Decidable.of_not_not h1
theorem eqP_t {x:Cmd × Cmd} {i:Nat} (h:i<=x.1.nodes.length/\eqP x i) (h1:¬ (i:Int)<x.1.nodes.length):x.1.nodes=x.2.nodes:=by
 refine List.ext_getElem h.2.1 fun j h2 h3=>?_
 have:=h.2.2 j (by omega)
 rw[List.getD_eq_getElem?_getD,List.getD_eq_getElem?_getD,List.getElem?_eq_getElem h2,List.getElem?_eq_getElem h3]at this
 exact this
theorem eq_last {x:Cmd × Cmd} {i:Nat} (h:i<=x.1.nodes.length/\eqP x i) (h1:¬ (i:Int)<x.1.nodes.length) (h13:x.1.kind=x.2.kind) (h14:x.1.call=x.2.call) (h15:x.1.inc=x.2.inc) (h16:x.1.oth=x.2.oth) (h17:x.1.urg=x.2.urg)
  (h18:(x.1.code.toList==x.2.code.toList)=true) (h19:x.1.dist=x.2.dist) (h20:x.1.cen=x.2.cen) (h21:x.1.ep=x.2.ep) (h22:x.1.tick=x.2.tick)
  (h23:(decide (x.1.su=x.2.su)&&(decide (x.1.sq=x.2.sq)&&(decide (x.1.ss=x.2.ss)&&(decide (x.1.sn=x.2.sn)&&(decide (x.1.se=x.2.se)&&true)))))=true) (h24:x.1.edge=x.2.edge) (h25:x.1.time=x.2.time):
  decide (x.1.node=x.2.node)=decide (x.1=x.2):=by
 have hn:=eqP_t h h1
 rw[seq_eq]at h18
 simp only[Bool.and_true,Bool.and_eq_true,decide_eq_true_eq]at h18 h23
 obtain⟨a,b⟩:=x
 cases a
 cases b
 simp only at*
 obtain⟨q1,q2,q3,q4,q5⟩:=h23
 subst_vars
 simp
def eqIv (x:Cmd × Cmd) (id:Nat):Option Inv:=match id with
 | 0 => some { X := Nat, ok := fun i => i <= x.1.nodes.length /\ eqP x i, fr := fun i => [(2, .p 302 0 0), (3, .p 303 0 0), (15, .i .i64 x.1.nodes.length), (16, .i .i64 i)],
               hp:=fun _=>[(302,.one .own (cl x.1 100001)),nB 100001 x.1,(303,.one .own (cl x.2 100002)),nB 100002 x.2],me:=fun i=>x.1.nodes.length-i }
 |_=>none
def eqCt:CT where
 X:=Cmd × Cmd
 pre:=fun x=>x.1.nodes.length<=1000000
 args:=fun x=>[.agg (cl x.1 100001),.agg (cl x.2 100002)]
 g0:=fun x=>[nB 100001 x.1,nB 100002 x.2]
 res:=fun x=>.b (decide (x.1=x.2))
 g1:=fun _=>[]
set_option maxRecDepth 100000 in
theorem eq_keeps:Keeps cfg0 Tryd.f20 eqCt eqIv:=Eq.mp (show((∀ x1:Cmd × Cmd,(((Prod.fst x1).nodes.length<=(1000000:Nat))->(((decide ((↑(Prod.fst x1).nodes.length:Int)≠(↑(Prod.snd x1).nodes.length:Int))=true)->((false=decide (Prod.fst x1=Prod.snd x1))/\True))/\((decide ((↑(Prod.fst x1).nodes.length:Int)≠(↑(Prod.snd x1).nodes.length:Int))=false)->(∃ x5:Nat,((((x5<=(Prod.fst x1).nodes.length)/\(eqP x1 x5))/\(((0=0/\0=0)/\((0=0/\0=0)/\(((↑(Prod.fst x1).nodes.length:Int)=(↑(Prod.fst x1).nodes.length:Int))/\((0=(x5:Int))/\((0=0/\((Prod.fst x1).nodes.length=(Prod.fst x1).nodes.length))/\(false=false/\(((↑(Prod.snd x1).nodes.length:Int)=(↑(Prod.snd x1).nodes.length:Int))/\((0=0/\((Prod.snd x1).nodes.length=(Prod.snd x1).nodes.length))/\(((↑(Prod.fst x1).nodes.length:Int)=(↑(Prod.fst x1).nodes.length:Int))/\((0=0/\((Prod.fst x1).nodes.length=(Prod.fst x1).nodes.length))/\((((Prod.fst x1).kind=(Prod.fst x1).kind)/\(((Prod.fst x1).call=(Prod.fst x1).call)/\(((Prod.fst x1).inc=(Prod.fst x1).inc)/\(((Prod.fst x1).oth=(Prod.fst x1).oth)/\(((Prod.fst x1).urg=(Prod.fst x1).urg)/\(((Prod.fst x1).code=(Prod.fst x1).code)/\((0=0/\((Prod.fst x1).nodes.length=(Prod.fst x1).nodes.length))/\(((Prod.fst x1).dist=(Prod.fst x1).dist)/\(((Prod.fst x1).cen=(Prod.fst x1).cen)/\(((Prod.fst x1).ep=(Prod.fst x1).ep)/\(((Prod.fst x1).tick=(Prod.fst x1).tick)/\(((Prod.fst x1).su=(Prod.fst x1).su)/\(((Prod.fst x1).sq=(Prod.fst x1).sq)/\(((Prod.fst x1).ss=(Prod.fst x1).ss)/\(((Prod.fst x1).sn=(Prod.fst x1).sn)/\(((Prod.fst x1).se=(Prod.fst x1).se)/\(((Prod.fst x1).edge=(Prod.fst x1).edge)/\(((Prod.fst x1).time=(Prod.fst x1).time)/\(((Prod.fst x1).node=(Prod.fst x1).node)/\True)))))))))))))))))))/\((((Prod.snd x1).kind=(Prod.snd x1).kind)/\(((Prod.snd x1).call=(Prod.snd x1).call)/\(((Prod.snd x1).inc=(Prod.snd x1).inc)/\(((Prod.snd x1).oth=(Prod.snd x1).oth)/\(((Prod.snd x1).urg=(Prod.snd x1).urg)/\(((Prod.snd x1).code=(Prod.snd x1).code)/\((0=0/\((Prod.snd x1).nodes.length=(Prod.snd x1).nodes.length))/\(((Prod.snd x1).dist=(Prod.snd x1).dist)/\(((Prod.snd x1).cen=(Prod.snd x1).cen)/\(((Prod.snd x1).ep=(Prod.snd x1).ep)/\(((Prod.snd x1).tick=(Prod.snd x1).tick)/\(((Prod.snd x1).su=(Prod.snd x1).su)/\(((Prod.snd x1).sq=(Prod.snd x1).sq)/\(((Prod.snd x1).ss=(Prod.snd x1).ss)/\(((Prod.snd x1).sn=(Prod.snd x1).sn)/\(((Prod.snd x1).se=(Prod.snd x1).se)/\(((Prod.snd x1).edge=(Prod.snd x1).edge)/\(((Prod.snd x1).time=(Prod.snd x1).time)/\(((Prod.snd x1).node=(Prod.snd x1).node)/\True)))))))))))))))))))/\True))))))))))))/\((((Prod.fst x1).kind=(Prod.fst x1).kind)/\(((Prod.fst x1).call=(Prod.fst x1).call)/\(((Prod.fst x1).inc=(Prod.fst x1).inc)/\(((Prod.fst x1).oth=(Prod.fst x1).oth)/\(((Prod.fst x1).urg=(Prod.fst x1).urg)/\(((Prod.fst x1).code=(Prod.fst x1).code)/\((0=0/\((Prod.fst x1).nodes.length=(Prod.fst x1).nodes.length))/\(((Prod.fst x1).dist=(Prod.fst x1).dist)/\(((Prod.fst x1).cen=(Prod.fst x1).cen)/\(((Prod.fst x1).ep=(Prod.fst x1).ep)/\(((Prod.fst x1).tick=(Prod.fst x1).tick)/\(((Prod.fst x1).su=(Prod.fst x1).su)/\(((Prod.fst x1).sq=(Prod.fst x1).sq)/\(((Prod.fst x1).ss=(Prod.fst x1).ss)/\(((Prod.fst x1).sn=(Prod.fst x1).sn)/\(((Prod.fst x1).se=(Prod.fst x1).se)/\(((Prod.fst x1).edge=(Prod.fst x1).edge)/\(((Prod.fst x1).time=(Prod.fst x1).time)/\(((Prod.fst x1).node=(Prod.fst x1).node)/\True)))))))))))))))))))/\(((RLe (Prod.fst x1).nodes.length (Prod.fst x1).nodes.length)/\(RowsEq [.int .i64] (Prod.fst x1).nodes.length (encL encI (Prod.fst x1).nodes) (encL encI (Prod.fst x1).nodes)))/\((((Prod.snd x1).kind=(Prod.snd x1).kind)/\(((Prod.snd x1).call=(Prod.snd x1).call)/\(((Prod.snd x1).inc=(Prod.snd x1).inc)/\(((Prod.snd x1).oth=(Prod.snd x1).oth)/\(((Prod.snd x1).urg=(Prod.snd x1).urg)/\(((Prod.snd x1).code=(Prod.snd x1).code)/\((0=0/\((Prod.snd x1).nodes.length=(Prod.snd x1).nodes.length))/\(((Prod.snd x1).dist=(Prod.snd x1).dist)/\(((Prod.snd x1).cen=(Prod.snd x1).cen)/\(((Prod.snd x1).ep=(Prod.snd x1).ep)/\(((Prod.snd x1).tick=(Prod.snd x1).tick)/\(((Prod.snd x1).su=(Prod.snd x1).su)/\(((Prod.snd x1).sq=(Prod.snd x1).sq)/\(((Prod.snd x1).ss=(Prod.snd x1).ss)/\(((Prod.snd x1).sn=(Prod.snd x1).sn)/\(((Prod.snd x1).se=(Prod.snd x1).se)/\(((Prod.snd x1).edge=(Prod.snd x1).edge)/\(((Prod.snd x1).time=(Prod.snd x1).time)/\(((Prod.snd x1).node=(Prod.snd x1).node)/\True)))))))))))))))))))/\(((RLe (Prod.snd x1).nodes.length (Prod.snd x1).nodes.length)/\(RowsEq [.int .i64] (Prod.snd x1).nodes.length (encL encI (Prod.snd x1).nodes) (encL encI (Prod.snd x1).nodes)))/\True))))))/\(∀ x6:Nat,((x6<=(Prod.fst x1).nodes.length/\eqP x1 x6)->(((decide ((x6:Int)<(↑(Prod.fst x1).nodes.length:Int))=true)->((((0:Int)<=(x6:Int))/\((x6:Int)<(↑(Prod.fst x1).nodes.length:Int)))/\((0+Int.toNat (x6:Int)<(Prod.fst x1).nodes.length)/\((((0:Int)<=(x6:Int))/\((x6:Int)<(↑(Prod.snd x1).nodes.length:Int)))/\((0+Int.toNat (x6:Int)<(Prod.snd x1).nodes.length)/\(((decide ((Prod.fst x1).nodes.getD (0+Int.toNat (x6:Int)) default≠(Prod.snd x1).nodes.getD (0+Int.toNat (x6:Int)) default)=true)->((false=decide (Prod.fst x1=Prod.snd x1))/\True))/\((decide ((Prod.fst x1).nodes.getD (0+Int.toNat (x6:Int)) default≠(Prod.snd x1).nodes.getD (0+Int.toNat (x6:Int)) default)=false)->((((-9223372036854775808:Int)<=(x6:Int)+1)/\((x6:Int)+1<=(9223372036854775807:Int)))/\(∃ x11:Nat,(((Prod.fst x1).nodes.length-x11<(Prod.fst x1).nodes.length-x6)/\(((x11<=(Prod.fst x1).nodes.length)/\(eqP x1 x11))/\(((0=0/\0=0)/\((0=0/\0=0)/\(((↑(Prod.fst x1).nodes.length:Int)=(↑(Prod.fst x1).nodes.length:Int))/\(((x6:Int)+1=(x11:Int))/\((0=0/\((Prod.fst x1).nodes.length=(Prod.fst x1).nodes.length))/\(false=false/\(((↑(Prod.snd x1).nodes.length:Int)=(↑(Prod.snd x1).nodes.length:Int))/\((0=0/\((Prod.snd x1).nodes.length=(Prod.snd x1).nodes.length))/\(((↑(Prod.fst x1).nodes.length:Int)=(↑(Prod.fst x1).nodes.length:Int))/\((0=0/\((Prod.fst x1).nodes.length=(Prod.fst x1).nodes.length))/\((((Prod.fst x1).kind=(Prod.fst x1).kind)/\(((Prod.fst x1).call=(Prod.fst x1).call)/\(((Prod.fst x1).inc=(Prod.fst x1).inc)/\(((Prod.fst x1).oth=(Prod.fst x1).oth)/\(((Prod.fst x1).urg=(Prod.fst x1).urg)/\(((Prod.fst x1).code=(Prod.fst x1).code)/\((0=0/\((Prod.fst x1).nodes.length=(Prod.fst x1).nodes.length))/\(((Prod.fst x1).dist=(Prod.fst x1).dist)/\(((Prod.fst x1).cen=(Prod.fst x1).cen)/\(((Prod.fst x1).ep=(Prod.fst x1).ep)/\(((Prod.fst x1).tick=(Prod.fst x1).tick)/\(((Prod.fst x1).su=(Prod.fst x1).su)/\(((Prod.fst x1).sq=(Prod.fst x1).sq)/\(((Prod.fst x1).ss=(Prod.fst x1).ss)/\(((Prod.fst x1).sn=(Prod.fst x1).sn)/\(((Prod.fst x1).se=(Prod.fst x1).se)/\(((Prod.fst x1).edge=(Prod.fst x1).edge)/\(((Prod.fst x1).time=(Prod.fst x1).time)/\(((Prod.fst x1).node=(Prod.fst x1).node)/\True)))))))))))))))))))/\((((Prod.snd x1).kind=(Prod.snd x1).kind)/\(((Prod.snd x1).call=(Prod.snd x1).call)/\(((Prod.snd x1).inc=(Prod.snd x1).inc)/\(((Prod.snd x1).oth=(Prod.snd x1).oth)/\(((Prod.snd x1).urg=(Prod.snd x1).urg)/\(((Prod.snd x1).code=(Prod.snd x1).code)/\((0=0/\((Prod.snd x1).nodes.length=(Prod.snd x1).nodes.length))/\(((Prod.snd x1).dist=(Prod.snd x1).dist)/\(((Prod.snd x1).cen=(Prod.snd x1).cen)/\(((Prod.snd x1).ep=(Prod.snd x1).ep)/\(((Prod.snd x1).tick=(Prod.snd x1).tick)/\(((Prod.snd x1).su=(Prod.snd x1).su)/\(((Prod.snd x1).sq=(Prod.snd x1).sq)/\(((Prod.snd x1).ss=(Prod.snd x1).ss)/\(((Prod.snd x1).sn=(Prod.snd x1).sn)/\(((Prod.snd x1).se=(Prod.snd x1).se)/\(((Prod.snd x1).edge=(Prod.snd x1).edge)/\(((Prod.snd x1).time=(Prod.snd x1).time)/\(((Prod.snd x1).node=(Prod.snd x1).node)/\True)))))))))))))))))))/\True))))))))))))/\((((Prod.fst x1).kind=(Prod.fst x1).kind)/\(((Prod.fst x1).call=(Prod.fst x1).call)/\(((Prod.fst x1).inc=(Prod.fst x1).inc)/\(((Prod.fst x1).oth=(Prod.fst x1).oth)/\(((Prod.fst x1).urg=(Prod.fst x1).urg)/\(((Prod.fst x1).code=(Prod.fst x1).code)/\((0=0/\((Prod.fst x1).nodes.length=(Prod.fst x1).nodes.length))/\(((Prod.fst x1).dist=(Prod.fst x1).dist)/\(((Prod.fst x1).cen=(Prod.fst x1).cen)/\(((Prod.fst x1).ep=(Prod.fst x1).ep)/\(((Prod.fst x1).tick=(Prod.fst x1).tick)/\(((Prod.fst x1).su=(Prod.fst x1).su)/\(((Prod.fst x1).sq=(Prod.fst x1).sq)/\(((Prod.fst x1).ss=(Prod.fst x1).ss)/\(((Prod.fst x1).sn=(Prod.fst x1).sn)/\(((Prod.fst x1).se=(Prod.fst x1).se)/\(((Prod.fst x1).edge=(Prod.fst x1).edge)/\(((Prod.fst x1).time=(Prod.fst x1).time)/\(((Prod.fst x1).node=(Prod.fst x1).node)/\True)))))))))))))))))))/\(((RLe (Prod.fst x1).nodes.length (Prod.fst x1).nodes.length)/\(RowsEq [.int .i64] (Prod.fst x1).nodes.length (encL encI (Prod.fst x1).nodes) (encL encI (Prod.fst x1).nodes)))/\((((Prod.snd x1).kind=(Prod.snd x1).kind)/\(((Prod.snd x1).call=(Prod.snd x1).call)/\(((Prod.snd x1).inc=(Prod.snd x1).inc)/\(((Prod.snd x1).oth=(Prod.snd x1).oth)/\(((Prod.snd x1).urg=(Prod.snd x1).urg)/\(((Prod.snd x1).code=(Prod.snd x1).code)/\((0=0/\((Prod.snd x1).nodes.length=(Prod.snd x1).nodes.length))/\(((Prod.snd x1).dist=(Prod.snd x1).dist)/\(((Prod.snd x1).cen=(Prod.snd x1).cen)/\(((Prod.snd x1).ep=(Prod.snd x1).ep)/\(((Prod.snd x1).tick=(Prod.snd x1).tick)/\(((Prod.snd x1).su=(Prod.snd x1).su)/\(((Prod.snd x1).sq=(Prod.snd x1).sq)/\(((Prod.snd x1).ss=(Prod.snd x1).ss)/\(((Prod.snd x1).sn=(Prod.snd x1).sn)/\(((Prod.snd x1).se=(Prod.snd x1).se)/\(((Prod.snd x1).edge=(Prod.snd x1).edge)/\(((Prod.snd x1).time=(Prod.snd x1).time)/\(((Prod.snd x1).node=(Prod.snd x1).node)/\True)))))))))))))))))))/\(((RLe (Prod.snd x1).nodes.length (Prod.snd x1).nodes.length)/\(RowsEq [.int .i64] (Prod.snd x1).nodes.length (encL encI (Prod.snd x1).nodes) (encL encI (Prod.snd x1).nodes)))/\True))))))))))))))))/\((decide ((x6:Int)<(↑(Prod.fst x1).nodes.length:Int))=false)->(((decide ((Prod.fst x1).kind=(Prod.snd x1).kind)=true)->(((decide ((Prod.fst x1).call=(Prod.snd x1).call)=true)->(((decide ((Prod.fst x1).inc=(Prod.snd x1).inc)=true)->(((decide ((Prod.fst x1).oth=(Prod.snd x1).oth)=true)->(((decide ((Prod.fst x1).urg=(Prod.snd x1).urg)=true)->((((ByteArray.toList (Prod.fst x1).code==ByteArray.toList (Prod.snd x1).code)=true)->(((decide ((Prod.fst x1).dist=(Prod.snd x1).dist)=true)->(((decide ((Prod.fst x1).cen=(Prod.snd x1).cen)=true)->(((decide ((Prod.fst x1).ep=(Prod.snd x1).ep)=true)->(((decide ((Prod.fst x1).tick=(Prod.snd x1).tick)=true)->((((decide ((Prod.fst x1).su=(Prod.snd x1).su)&&(decide ((Prod.fst x1).sq=(Prod.snd x1).sq)&&(decide ((Prod.fst x1).ss=(Prod.snd x1).ss)&&(decide ((Prod.fst x1).sn=(Prod.snd x1).sn)&&(decide ((Prod.fst x1).se=(Prod.snd x1).se)&&true)))))=true)->(((decide ((Prod.fst x1).edge=(Prod.snd x1).edge)=true)->(((decide ((Prod.fst x1).time=(Prod.snd x1).time)=true)->((decide ((Prod.fst x1).node=(Prod.snd x1).node)=decide (Prod.fst x1=Prod.snd x1))/\True))/\((decide ((Prod.fst x1).time=(Prod.snd x1).time)=false)->((false=decide (Prod.fst x1=Prod.snd x1))/\True))))/\((decide ((Prod.fst x1).edge=(Prod.snd x1).edge)=false)->((false=decide (Prod.fst x1=Prod.snd x1))/\True))))/\(((decide ((Prod.fst x1).su=(Prod.snd x1).su)&&(decide ((Prod.fst x1).sq=(Prod.snd x1).sq)&&(decide ((Prod.fst x1).ss=(Prod.snd x1).ss)&&(decide ((Prod.fst x1).sn=(Prod.snd x1).sn)&&(decide ((Prod.fst x1).se=(Prod.snd x1).se)&&true)))))=false)->((false=decide (Prod.fst x1=Prod.snd x1))/\True))))/\((decide ((Prod.fst x1).tick=(Prod.snd x1).tick)=false)->((false=decide (Prod.fst x1=Prod.snd x1))/\True))))/\((decide ((Prod.fst x1).ep=(Prod.snd x1).ep)=false)->((false=decide (Prod.fst x1=Prod.snd x1))/\True))))/\((decide ((Prod.fst x1).cen=(Prod.snd x1).cen)=false)->((false=decide (Prod.fst x1=Prod.snd x1))/\True))))/\((decide ((Prod.fst x1).dist=(Prod.snd x1).dist)=false)->((false=decide (Prod.fst x1=Prod.snd x1))/\True))))/\(((ByteArray.toList (Prod.fst x1).code==ByteArray.toList (Prod.snd x1).code)=false)->((false=decide (Prod.fst x1=Prod.snd x1))/\True))))/\((decide ((Prod.fst x1).urg=(Prod.snd x1).urg)=false)->((false=decide (Prod.fst x1=Prod.snd x1))/\True))))/\((decide ((Prod.fst x1).oth=(Prod.snd x1).oth)=false)->((false=decide (Prod.fst x1=Prod.snd x1))/\True))))/\((decide ((Prod.fst x1).inc=(Prod.snd x1).inc)=false)->((false=decide (Prod.fst x1=Prod.snd x1))/\True))))/\((decide ((Prod.fst x1).call=(Prod.snd x1).call)=false)->((false=decide (Prod.fst x1=Prod.snd x1))/\True))))/\((decide ((Prod.fst x1).kind=(Prod.snd x1).kind)=false)->((false=decide (Prod.fst x1=Prod.snd x1))/\True))))))))))))))=(Keeps cfg0 Tryd.f20 eqCt eqIv) by kernel_rfl) (fun x1=>fun h2=>⟨fun g3=>have h3:=dT g3;⟨(by grind),
 trivial⟩,
fun g4=>have h4:=dF g4;⟨((0:Nat)),
⟨⟨(by(try dsimp only at *);omega),
(by(try dsimp only at *);exact eqP_len ‹_›)⟩,
⟨⟨rfl,rfl⟩,
⟨rfl,rfl⟩,rfl,
(by(try dsimp only at *);omega),
⟨rfl,rfl⟩,rfl,rfl,
⟨rfl,rfl⟩,rfl,
⟨rfl,rfl⟩,
⟨rfl,rfl,rfl,rfl,rfl,rfl,
⟨rfl,rfl⟩,rfl,rfl,rfl,rfl,rfl,rfl,rfl,rfl,rfl,rfl,rfl,rfl,trivial⟩,
⟨rfl,rfl,rfl,rfl,rfl,rfl,
⟨rfl,rfl⟩,rfl,rfl,rfl,rfl,rfl,rfl,rfl,rfl,rfl,rfl,rfl,rfl,trivial⟩,trivial⟩,
⟨rfl,rfl,rfl,rfl,rfl,rfl,
⟨rfl,rfl⟩,rfl,rfl,rfl,rfl,rfl,rfl,rfl,rfl,rfl,rfl,rfl,rfl,trivial⟩,
⟨rl,rr⟩,
⟨rfl,rfl,rfl,rfl,rfl,rfl,
⟨rfl,rfl⟩,rfl,rfl,rfl,rfl,rfl,rfl,rfl,rfl,rfl,rfl,rfl,rfl,trivial⟩,
⟨rl,rr⟩,trivial⟩,
fun x6=>fun h7=>⟨fun g8=>have h8:=dT g8;⟨⟨(by(try dsimp only at *);omega),
(by(try dsimp only at *);omega)⟩,
(by(try dsimp only at *);omega),
⟨(by(try dsimp only at *);omega),
(by(try dsimp only at *);omega)⟩,
(by(try dsimp only at *);omega),
fun g9=>have h9:=dT g9;⟨(by(try dsimp only at *);grind),trivial⟩,
fun g10=>have h10:=dF g10;⟨⟨(by(try dsimp only at *);omega),
(by(try dsimp only at *);omega)⟩,
(x6+(1:Nat)),
(by(try dsimp only at *);omega),
⟨(by(try dsimp only at *);omega),
(by(try dsimp only at *);exact eqP_s h7.2 ‹_›)⟩,
⟨⟨rfl,rfl⟩,
⟨rfl,rfl⟩,rfl,
(by(try dsimp only at *);omega),
⟨rfl,rfl⟩,rfl,rfl,
⟨rfl,rfl⟩,rfl,
⟨rfl,rfl⟩,
⟨rfl,rfl,rfl,rfl,rfl,rfl,
⟨rfl,rfl⟩,rfl,rfl,rfl,rfl,rfl,rfl,rfl,rfl,rfl,rfl,rfl,rfl,trivial⟩,
⟨rfl,rfl,rfl,rfl,rfl,rfl,
⟨rfl,rfl⟩,rfl,rfl,rfl,rfl,rfl,rfl,rfl,rfl,rfl,rfl,rfl,rfl,trivial⟩,trivial⟩,
⟨rfl,rfl,rfl,rfl,rfl,rfl,
⟨rfl,rfl⟩,rfl,rfl,rfl,rfl,rfl,rfl,rfl,rfl,rfl,rfl,rfl,rfl,trivial⟩,
⟨rl,rr⟩,
⟨rfl,rfl,rfl,rfl,rfl,rfl,
⟨rfl,rfl⟩,rfl,rfl,rfl,rfl,rfl,rfl,rfl,rfl,rfl,rfl,rfl,rfl,trivial⟩,
⟨rl,rr⟩,trivial⟩⟩,
fun g12=>have h12:=dF g12;⟨fun g13=>have h13:=dT g13;⟨fun g14=>have h14:=dT g14;⟨fun g15=>have h15:=dT g15;⟨fun g16=>have h16:=dT g16;⟨fun g17=>have h17:=dT g17;⟨fun h18=>⟨fun g19=>have h19:=dT g19;⟨fun g20=>have h20:=dT g20;⟨fun g21=>have h21:=dT g21;⟨fun g22=>have h22:=dT g22;⟨fun h23=>⟨fun g24=>have h24:=dT g24;⟨fun g25=>have h25:=dT g25;⟨(by(try dsimp only at *);exact eq_last ‹_› ‹_› ‹_› ‹_› ‹_› ‹_› ‹_› ‹_› ‹_› ‹_› ‹_› ‹_› ‹_› ‹_› ‹_›),trivial⟩,
fun g26=>have h26:=dF g26;⟨(by(try dsimp only at *);grind),trivial⟩⟩,
fun g27=>have h27:=dF g27;⟨(by(try dsimp only at *);grind),trivial⟩⟩,
fun h28=>⟨(by(try dsimp only at *);grind),trivial⟩⟩,
fun g29=>have h29:=dF g29;⟨(by(try dsimp only at *);grind),trivial⟩⟩,
fun g30=>have h30:=dF g30;⟨(by(try dsimp only at *);grind),trivial⟩⟩,
fun g31=>have h31:=dF g31;⟨(by(try dsimp only at *);grind),trivial⟩⟩,
fun g32=>have h32:=dF g32;⟨(by(try dsimp only at *);grind),trivial⟩⟩,
fun h33=>⟨(by(try dsimp only at *);grind),trivial⟩⟩,
fun g34=>have h34:=dF g34;⟨(by(try dsimp only at *);grind),trivial⟩⟩,
fun g35=>have h35:=dF g35;⟨(by(try dsimp only at *);grind),trivial⟩⟩,
fun g36=>have h36:=dF g36;⟨(by(try dsimp only at *);grind),trivial⟩⟩,
fun g37=>have h37:=dF g37;⟨(by(try dsimp only at *);grind),trivial⟩⟩,
fun g38=>have h38:=dF g38;⟨(by(try dsimp only at *);grind),trivial⟩⟩⟩⟩⟩)
theorem eq_good:Good Tryd.prog 20 eqCt/\FnOk Tryd.prog 20:=good_of tok con0 (fn:=Tryd.f20) rfl (by decide+kernel) (fun _=>rfl) eq_keeps
end Go.Sym