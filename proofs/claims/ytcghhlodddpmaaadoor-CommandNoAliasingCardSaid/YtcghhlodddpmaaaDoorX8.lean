import Derived.Test.YtcghhlodddpmaaaDoorX5
import Derived.Test.YtcghhlodddpmaaaDoorX7
import Derived.Test.YtcghhlodddpmaaaDoorY5
import Derived.Test.YtcghhlodddpmaaaDoorXD
namespace Go.Sym
set_option linter.unusedVariables false
set_option linter.unusedSimpArgs false
open Go.Proofs
set_option maxRecDepth 100000
set_option maxHeartbeats 4000000
def lw2:CT:=⟨List Int × Int,fun x=>isB x.1/\(0<=x.2/\x.2<=65535),fun x=>[.sl 100001 0 x.1.length,.i .u16 x.2],fun x=>[(100001,.rows .bor kB x.1.length (encL encI x.1))],fun _=>.b true,fun _=>[]⟩
def cfgL2:Cfg:=⟨T,[61],[(10,.one (yesC wkC)),(18,.one dcC),(19,.one eqCt),(13,.one rgC),(15,.one puC)],noInv,60,{}⟩
theorem code_le {c:Cmd} (h:vC c=true):c.nodes.length<=1000000/\c.code.size<=1000000:=by
 have hr:rightF c=true:=by rw[<- valid_right];exact h
 by_cases hk:c.kind=1∨c.kind=2
 ·have:=puOU (c:=c) (by rw[hr];rfl) hk
  omega
 ·have e:=((right_iff c).1 hr).2.1
  have e1:c.code=ByteArray.empty:=(congrArg Cmd.code e).trans (if_neg hk)
  have e2:c.nodes=[]:=(congrArg Cmd.nodes e).trans (if_neg hk)
  rw[e1,e2]
  exact⟨Nat.zero_le _,Nat.zero_le _⟩
theorem l2_in {x:List Int × Int} (h:isB x.1/\(0<=x.2/\x.2<=65535)) (h5:¬ 300<(x.1.length:Int)):inB x.1:=⟨h.1,by omega⟩
theorem dec_n {B:List Int} (h:inB B):(decC B).nodes.length<=1000000:=by
 unfold decC
 split
 ·exact Nat.zero_le _
 ·split
  ·exact Nat.zero_le _
  ·split
   ·exact(dcL_ok h _).n
   ·exact Nat.zero_le _
theorem d_e {B:List Int} (h:inB B) (h1:decE B≠0) (h2:¬ decE B=2):decide (decE B=11)=true:=decide_eq_true ((dec_err h h1).2.resolve_left h2)
theorem d_c {B:List Int} {p:Prop} (h:inB B) (h1:decE B≠0) (h2:¬ decC B={}):p:=absurd (dec_err h h1).1 h2
theorem d_s {B:List Int} (h:inB B) (h1:¬ decE B≠0):(decC B).nodes.length<=1000000/\(decC B).code.size<=1000000:=code_le (dec_inv h (Decidable.of_not_not h1)).1
theorem d_r {B:List Int} {p:Prop} (h:inB B) (h1:¬ decE B≠0) (h2:(!rightF (decC B))=true):p:=by
 rw[<- valid_right,(dec_inv h (Decidable.of_not_not h1)).1]at h2
 cases h2
theorem d_by {B:List Int} (h:inB B) (h1:¬ decE B≠0):byR (decC B)=B:=by
 have:=dec_inv h (Decidable.of_not_not h1)
 unfold byR
 rw[if_pos this.1]
 exact this.2
theorem d_q {B:List Int} {p:Prop} (h:inB B) (h1:¬ decE B≠0) (h2:(!((strOf (byR (decC B)).length fun r=>encL encI (byR (decC B)) (0+r)).toList==(strOf B.length fun r=>encL encI B (0+r)).toList))=true):p:=by
 rw[d_by h h1,beq_self_eq_true]at h2
 cases h2
theorem d_pos {B:List Int} (h:inB B) (h1:¬ decE B≠0):0<(B.length:Int):=by
 have h2:=(dec_inv h (Decidable.of_not_not h1)).2
 have h3:=byZ_pos (decC B).kind
 rw[<- h2]
 unfold byC
 rw[List.length_append]
 omega
def d_j (x:List Int × Int):Nat:=(x.2%x.1.length).toNat
theorem d_m {x:List Int × Int} (h:0<(x.1.length:Int)):0<=x.2%x.1.length/\x.2%x.1.length<x.1.length:=⟨Int.emod_nonneg _ (by omega),Int.emod_lt_of_pos _ h⟩
theorem d_tl {x:List Int × Int} (h:0<(x.1.length:Int)):(x.2%x.1.length).toNat-Int.toNat 0=(x.1.take (d_j x)).length:=by
 have:=d_m h
 unfold d_j
 rw[List.length_take]
 show(x.2%x.1.length).toNat-0=_
 omega
theorem d_tr {B:List Int} {j k:Nat} (h:k<=(B.take j).length):RowsEq kB k (encL encI B) (encL encI (B.take j)):=by
 refine⟨fun r hr=>rowEq_of_eq ?_⟩
 funext c
 have h2:r<j:=by rw[List.length_take]at h;omega
 unfold encL
 rw[List.getD_eq_getElem?_getD,List.getD_eq_getElem?_getD,List.getElem?_take,if_pos h2]
theorem d_11 {x:List Int × Int} (h:inB x.1) (h1:¬ decE x.1≠0):decE (x.1.take (d_j x))=11:=by
 have h2:=dec_inv h (Decidable.of_not_not h1)
 have h3:=d_m (x:=x) (d_pos h h1)
 have h4:inB (byC (decC x.1)):=by rw[h2.2];exact h
 have:=dec_cut h2.1 h4 (j:=d_j x) (by rw[h2.2];unfold d_j;omega)
 rw[h2.2]at this
 exact this
theorem d_wb (k:Int):0<=IntKind.u8.wrap k/\IntKind.u8.wrap k<=255:=by
 have:IntKind.u8.wrap k=k%256:=by simp[IntKind.wrap,IntKind.signed,IntKind.bits]
 rw[this]
 omega
theorem d_ai {x:List Int × Int} (h:isB x.1/\(0<=x.2/\x.2<=65535)) (h5:¬ 300<(x.1.length:Int)):inB (x.1++[IntKind.u8.wrap x.2]):=by
 refine⟨h.1.app fun b hb=>?_,by simp;omega⟩
 simp at hb
 subst hb
 exact d_wb x.2
theorem d_2 {x:List Int × Int} (h:inB x.1) (h1:¬ decE x.1≠0) (h3:inB (x.1++[IntKind.u8.wrap x.2])):decide (decE (x.1++[IntKind.u8.wrap x.2])=2)=true:=by
 have h2:=dec_inv h (Decidable.of_not_not h1)
 have:=dec_app h2.1 [IntKind.u8.wrap x.2] (by rw[h2.2];exact h3)
 rw[h2.2]at this
 exact decide_eq_true (this.2.trans (if_neg (by simp)))
theorem d_ar {x:List Int × Int} {k:Nat} (h:k<=(x.1++[IntKind.u8.wrap x.2]).length):RowsEq kB k (appRows (0+x.1.length) (appRows 0 (litRows []) 0 (encL encI x.1)) 0 (litRows [[D.i (IntKind.u8.wrap x.2)]])) (encL encI (x.1++[IntKind.u8.wrap x.2])):=by
 have e:appRows 0 (litRows []) 0 (encL encI x.1)=encL encI x.1:=by funext i j;simp[appRows]
 rw[e]
 exact rowsEq_push (by simp) (by simpa using h) ⟨rfl,trivial⟩
theorem d_t {x:List Int × Int} {p:Prop} (h:inB x.1) (h1:¬ decE x.1≠0) (h2:¬ decE (x.1.take (d_j x))=11):p:=absurd (d_11 h h1) h2
set_option maxRecDepth 100000 in
theorem l2_keeps:Keeps cfgL2 Tryd.f5 lw2 noIv:=Eq.mp (show((∀ x1:List Int × Int,((isB (Prod.fst x1)/\(0:Int)<=Prod.snd x1/\Prod.snd x1<=(65535:Int))->(∃ x3:Unit,(True/\(True/\(True/\(((decide (300<(↑(Prod.fst x1).length:Int))=true)->(true=true/\True))/\((decide (300<(↑(Prod.fst x1).length:Int))=false)->(∃ x6:List Int,((inB x6)/\(((0=0/\((Prod.fst x1).length=x6.length))/\True)/\((((RLe x6.length (Prod.fst x1).length)/\(RowsEq (.int IntKind.u8::[]) x6.length (encL encI (Prod.fst x1)) (encL encI x6)))/\True)/\(((decide (decE x6≠(0:Int))=true)->(∃ x8:Cmd × Cmd,(((Prod.fst x8).nodes.length<=(1000000:Nat))/\(((((decC x6).kind=(Prod.fst x8).kind)/\(((decC x6).call=(Prod.fst x8).call)/\(((decC x6).inc=(Prod.fst x8).inc)/\(((decC x6).oth=(Prod.fst x8).oth)/\(((decC x6).urg=(Prod.fst x8).urg)/\(((decC x6).code=(Prod.fst x8).code)/\((0=0/\((decC x6).nodes.length=(Prod.fst x8).nodes.length))/\(((decC x6).dist=(Prod.fst x8).dist)/\(((decC x6).cen=(Prod.fst x8).cen)/\(((decC x6).ep=(Prod.fst x8).ep)/\(((decC x6).tick=(Prod.fst x8).tick)/\(((decC x6).su=(Prod.fst x8).su)/\(((decC x6).sq=(Prod.fst x8).sq)/\(((decC x6).ss=(Prod.fst x8).ss)/\(((decC x6).sn=(Prod.fst x8).sn)/\(((decC x6).se=(Prod.fst x8).se)/\(((decC x6).edge=(Prod.fst x8).edge)/\(((decC x6).time=(Prod.fst x8).time)/\(((decC x6).node=(Prod.fst x8).node)/\True)))))))))))))))))))/\(((0=(Prod.snd x8).kind)/\((0=(Prod.snd x8).call)/\((0=(Prod.snd x8).inc)/\((0=(Prod.snd x8).oth)/\((0=(Prod.snd x8).urg)/\((ByteArray.empty=(Prod.snd x8).code)/\((True/\(0=0/\((Prod.snd x8).nodes.length=(0:Nat))))/\((0=(Prod.snd x8).dist)/\((0=(Prod.snd x8).cen)/\((0=(Prod.snd x8).ep)/\((0=(Prod.snd x8).tick)/\((0=(Prod.snd x8).su)/\((0=(Prod.snd x8).sq)/\((0=(Prod.snd x8).ss)/\((0=(Prod.snd x8).sn)/\((0=(Prod.snd x8).se)/\((0=(Prod.snd x8).edge)/\((0=(Prod.snd x8).time)/\((0=(Prod.snd x8).node)/\True)))))))))))))))))))/\True))/\((((RLe (Prod.fst x8).nodes.length (decC x6).nodes.length)/\(RowsEq [.int .i64] (Prod.fst x8).nodes.length (encL encI (decC x6).nodes) (encL encI (Prod.fst x8).nodes)))/\(((Prod.snd x8).nodes.length=(0:Nat))/\True))/\(((decide (Prod.fst x8=Prod.snd x8)=true)->(((decide (decE x6=2)=false)->((decide (decE x6=11)=true)/\True))/\((decide (decE x6=2)=true)->(true=true/\True))))/\((decide (Prod.fst x8=Prod.snd x8)=false)->(false=true/\True))))))))/\((decide (decE x6≠(0:Int))=false)->(∃ x14:Cmd,(((x14.nodes.length<=(1000000:Nat))/\(ByteArray.size x14.code<=(1000000:Nat)))/\(((((decC x6).kind=x14.kind)/\(((decC x6).call=x14.call)/\(((decC x6).inc=x14.inc)/\(((decC x6).oth=x14.oth)/\(((decC x6).urg=x14.urg)/\(((decC x6).code=x14.code)/\((0=0/\((decC x6).nodes.length=x14.nodes.length))/\(((decC x6).dist=x14.dist)/\(((decC x6).cen=x14.cen)/\(((decC x6).ep=x14.ep)/\(((decC x6).tick=x14.tick)/\(((decC x6).su=x14.su)/\(((decC x6).sq=x14.sq)/\(((decC x6).ss=x14.ss)/\(((decC x6).sn=x14.sn)/\(((decC x6).se=x14.se)/\(((decC x6).edge=x14.edge)/\(((decC x6).time=x14.time)/\(((decC x6).node=x14.node)/\True)))))))))))))))))))/\True)/\((((RLe x14.nodes.length (decC x6).nodes.length)/\(RI x14.nodes.length (decC x6).nodes x14.nodes))/\True)/\((((!rightF x14)=false)->(∃ x16:Cmd,(((x16.nodes.length<=(1000000:Nat))/\(ByteArray.size x16.code<=(1000000:Nat)))/\(((((decC x6).kind=x16.kind)/\(((decC x6).call=x16.call)/\(((decC x6).inc=x16.inc)/\(((decC x6).oth=x16.oth)/\(((decC x6).urg=x16.urg)/\(((decC x6).code=x16.code)/\((0=0/\((decC x6).nodes.length=x16.nodes.length))/\(((decC x6).dist=x16.dist)/\(((decC x6).cen=x16.cen)/\(((decC x6).ep=x16.ep)/\(((decC x6).tick=x16.tick)/\(((decC x6).su=x16.su)/\(((decC x6).sq=x16.sq)/\(((decC x6).ss=x16.ss)/\(((decC x6).sn=x16.sn)/\(((decC x6).se=x16.se)/\(((decC x6).edge=x16.edge)/\(((decC x6).time=x16.time)/\(((decC x6).node=x16.node)/\True)))))))))))))))))))/\True)/\((((RLe x16.nodes.length (decC x6).nodes.length)/\(RI x16.nodes.length (decC x6).nodes x16.nodes))/\True)/\(((0:Nat)+(byR x16).length<=(byR x16).length)/\(((0:Nat)+(Prod.fst x1).length<=(Prod.fst x1).length)/\((((!ByteArray.toList (ByteArray.mk (List.toArray (List.map (fun(r:Nat)=>UInt8.ofNat (Int.toNat ((byR x16).getD ((0:Nat)+r) default))) (List.range (byR x16).length))))==ByteArray.toList (ByteArray.mk (List.toArray (List.map (fun(r:Nat)=>UInt8.ofNat (Int.toNat ((Prod.fst x1).getD ((0:Nat)+r) default))) (List.range (Prod.fst x1).length)))))=true)->(false=true/\True))/\(((!ByteArray.toList (ByteArray.mk (List.toArray (List.map (fun(r:Nat)=>UInt8.ofNat (Int.toNat ((byR x16).getD ((0:Nat)+r) default))) (List.range (byR x16).length))))==ByteArray.toList (ByteArray.mk (List.toArray (List.map (fun(r:Nat)=>UInt8.ofNat (Int.toNat ((Prod.fst x1).getD ((0:Nat)+r) default))) (List.range (Prod.fst x1).length)))))=false)->((((-9223372036854775808:Int)<=Prod.snd x1)/\(Prod.snd x1<=(9223372036854775807:Int)))/\((((0:Int)<=Prod.snd x1)/\(0<(↑(Prod.fst x1).length:Int)))/\((((0:Int)<=(0:Int))/\(((0:Int)<=Prod.snd x1%(↑(Prod.fst x1).length:Int))/\(Prod.snd x1%(↑(Prod.fst x1).length:Int)<=(↑(Prod.fst x1).length:Int))))/\(∃ x19:List Int,((inB x19)/\((((0+Int.toNat (0:Int)=(0:Nat))/\(Int.toNat (Prod.snd x1%(↑(Prod.fst x1).length:Int))-Int.toNat 0=x19.length))/\True)/\((((RLe x19.length (Prod.fst x1).length)/\(RowsEq (.int IntKind.u8::[]) x19.length (encL encI (Prod.fst x1)) (encL encI x19)))/\True)/\(True/\((0=0/\(((0:Nat)<=(0:Nat))/\(((0:Nat)+(Prod.fst x1).length<=(Prod.fst x1).length)/\((0:Nat)+(Prod.fst x1).length<=(1073741824:Nat)))))/\(((True/\True)/\True)/\((0=0/\(((0:Nat)+(Prod.fst x1).length<=(0:Nat)+(Prod.fst x1).length)/\(((1:Nat)<=(1:Nat))/\((0:Nat)+(Prod.fst x1).length+(1:Nat)<=(1073741824:Nat)))))/\(∃ x20:List Int,((inB x20)/\(((0=0/\((0:Nat)+(Prod.fst x1).length+(1:Nat)=x20.length))/\True)/\((((RLe x20.length ((0:Nat)+(Prod.fst x1).length+(1:Nat)))/\(RowsEq (.int IntKind.u8::[]) x20.length (appRows ((0:Nat)+(Prod.fst x1).length) (appRows 0 (litRows (@List.nil (List D))) 0 (encL encI (Prod.fst x1))) 0 (litRows ((D.i (IntKind.wrap IntKind.u8 (Prod.snd x1))::@List.nil D)::@List.nil (List D)))) (encL encI x20)))/\True)/\(((decide (decE x19=11)=true)->((decide (decE x20=2)=true)/\True))/\((decide (decE x19=11)=false)->(false=true/\True)))))))))))))))))))))))))))/\(((!rightF x14)=true)->(false=true/\True))))))))))))))))))))))=(Keeps cfgL2 Tryd.f5 lw2 noIv) by kernel_rfl) (fun x1=>fun h2=>⟨(default),
 trivial,trivial,trivial,
fun g4=>have h4:=dT g4;⟨rfl,trivial⟩,
fun g5=>have h5:=dF g5;⟨(Prod.fst x1),
(by(try dsimp only at *);exact l2_in h2 h5),
⟨⟨rfl,rfl⟩,trivial⟩,
⟨⟨rl,rr⟩,trivial⟩,
fun g7=>have h7:=dT g7;⟨((decC (Prod.fst x1),{ :Cmd })),
(by(try dsimp only at *);exact dec_n (l2_in h2 h5)),
⟨⟨rfl,rfl,rfl,rfl,rfl,rfl,
⟨rfl,rfl⟩,rfl,rfl,rfl,rfl,rfl,rfl,rfl,rfl,rfl,rfl,rfl,rfl,trivial⟩,
⟨rfl,rfl,rfl,rfl,rfl,rfl,
⟨trivial,rfl,
(by(try dsimp only at *);grind)⟩,rfl,rfl,rfl,rfl,rfl,rfl,rfl,rfl,rfl,rfl,rfl,rfl,trivial⟩,trivial⟩,
⟨⟨rl,rr⟩,
(by(try dsimp only at *);grind),trivial⟩,
fun g9=>have h9:=dT g9;⟨fun g10=>have h10:=dF g10;⟨(by(try dsimp only at *);exact d_e (l2_in h2 h5) ‹_› ‹_›),trivial⟩,
fun g11=>have h11:=dT g11;⟨rfl,trivial⟩⟩,
fun g12=>have h12:=dF g12;⟨(by(try dsimp only at *);exact d_c (l2_in h2 h5) h7 ‹_›),trivial⟩⟩,
fun g13=>have h13:=dF g13;⟨(decC (Prod.fst x1)),
⟨(by(try dsimp only at *);exact dec_n (l2_in h2 h5)),
(by(try dsimp only at *);exact(d_s (l2_in h2 h5) h13).2)⟩,
⟨⟨rfl,rfl,rfl,rfl,rfl,rfl,
⟨rfl,rfl⟩,rfl,rfl,rfl,rfl,rfl,rfl,rfl,rfl,rfl,rfl,rfl,rfl,trivial⟩,trivial⟩,
⟨⟨rl,rr⟩,trivial⟩,
fun h15=>⟨(decC (Prod.fst x1)),
⟨(by(try dsimp only at *);exact dec_n (l2_in h2 h5)),
(by(try dsimp only at *);exact(d_s (l2_in h2 h5) h13).2)⟩,
⟨⟨rfl,rfl,rfl,rfl,rfl,rfl,
⟨rfl,rfl⟩,rfl,rfl,rfl,rfl,rfl,rfl,rfl,rfl,rfl,rfl,rfl,rfl,trivial⟩,trivial⟩,
⟨⟨rl,rr⟩,trivial⟩,
(by(try dsimp only at *);omega),
(by(try dsimp only at *);omega),
fun h17=>⟨(by(try dsimp only at *);exact d_q (l2_in h2 h5) h13 ‹_›),trivial⟩,
fun h18=>⟨⟨(by(try dsimp only at *);omega),
(by(try dsimp only at *);omega)⟩,
⟨(by(try dsimp only at *);omega),
(by(try dsimp only at *);exact d_pos (l2_in h2 h5) h13)⟩,
⟨(by(try dsimp only at *);omega),
(by(try dsimp only at *);exact(d_m (d_pos (l2_in h2 h5) h13)).1),
(by(try dsimp only at *);exact Int.le_of_lt (d_m (d_pos (l2_in h2 h5) h13)).2)⟩,
(List.take (d_j x1) (Prod.fst x1)),
(by(try dsimp only at *);exact inB_take (l2_in h2 h5) _),
⟨⟨(by(try dsimp only at *);omega),
(by(try dsimp only at *);exact d_tl (d_pos (l2_in h2 h5) h13))⟩,trivial⟩,
⟨⟨⟨(by(try dsimp only at *);grind)⟩,
(by(try dsimp only at *);exact d_tr (Nat.le_refl _))⟩,trivial⟩,trivial,
⟨rfl,
(by(try dsimp only at *);omega),
(by(try dsimp only at *);omega),
(by(try dsimp only at *);omega)⟩,
⟨⟨trivial,trivial⟩,trivial⟩,
⟨rfl,
(by(try dsimp only at *);omega),
(by(try dsimp only at *);omega),
(by(try dsimp only at *);omega)⟩,
(Prod.fst x1++IntKind.wrap IntKind.u8 (Prod.snd x1)::@List.nil Int),
(by(try dsimp only at *);exact d_ai h2 h5),
⟨⟨rfl,
(by(try dsimp only at *);grind)⟩,trivial⟩,
⟨⟨⟨(by(try dsimp only at *);grind)⟩,
(by(try dsimp only at *);exact d_ar (Nat.le_refl _))⟩,trivial⟩,
fun g21=>have h21:=dT g21;⟨(by(try dsimp only at *);exact d_2 (l2_in h2 h5) h13 (d_ai h2 h5)),trivial⟩,
fun g22=>have h22:=dF g22;⟨(by(try dsimp only at *);exact d_t (l2_in h2 h5) h13 ‹_›),trivial⟩⟩⟩,
fun h23=>⟨(by(try dsimp only at *);exact d_r (l2_in h2 h5) h13 ‹_›),trivial⟩⟩⟩⟩)
end Go.Sym