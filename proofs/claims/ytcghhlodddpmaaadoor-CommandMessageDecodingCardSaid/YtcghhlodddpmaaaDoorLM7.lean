import Derived.Test.YtcghhlodddpmaaaDoorX8
import Derived.Test.YtcghhlodddpmaaaDoorM2
import Derived.Test.YtcghhlodddpmaaaDoorM3
import Derived.Test.YtcghhlodddpmaaaDoorZ1
import Derived.Test.YtcghhlodddpmaaaDoorXD
namespace Go.Sym
set_option linter.unusedVariables false
set_option linter.unusedSimpArgs false
open Go.Proofs
set_option maxRecDepth 100000
set_option maxHeartbeats 4000000
def cfgL7:Cfg:=⟨T,[],[(10,.one (yesC wkC)),(21,.one dmCt),(23,.one bkCt),(22,.one snC),(24,.one vmC),(25,.one emC)],noInv,60,{}⟩
theorem conL7:ConOk Tryd.prog cfgL7:=ConL.ok (.cons (ConL.one wk_good) (.cons (ConL.one dm_good) (.cons (ConL.one bk_good) (.cons (ConL.one sn_good) (.cons (ConL.one rm_good) (.cons (ConL.one wr_good) .nil))))))
theorem l7_in {x:List Int × Int} (h:isB x.1/\(0<=x.2/\x.2<=65535)) (h5:¬ 400<(x.1.length:Int)):inB x.1:=⟨h.1,by omega⟩
theorem g_b {B:List Int} (h:inB B):isB (dmC B).body:=by
 unfold dmC
 split
 ·intro b hb;cases hb
 ·split
  ·intro b hb
   exact(lnR_ok (dmR_ok h 6)).b b (List.mem_of_mem_drop (List.mem_of_mem_take hb))
  ·intro b hb;cases hb
theorem g_b0:isB ({}:Msg).body:=fun b hb=>by cases hb
theorem g_e {B:List Int} (h:inB B) (h1:dmE B≠0) (h2:¬ dmE B=2):decide (dmE B=11)=true:=decide_eq_true ((dm_err h h1).2.resolve_left h2)
theorem g_c {B:List Int} {p:Prop} (h:inB B) (h1:dmE B≠0) (h2:¬ dmC B={}):p:=absurd (dm_err h h1).1 h2
theorem g_r {B:List Int} {p:Prop} (h:inB B) (h1:¬ dmE B≠0) (h2:(!vM (dmC B))=true):p:=by
 rw[(dm_inv h (Decidable.of_not_not h1)).1]at h2
 cases h2
theorem g_by {B:List Int} (h:inB B) (h1:¬ dmE B≠0):mR (dmC B)=B:=by
 have:=dm_inv h (Decidable.of_not_not h1)
 unfold mR
 rw[if_pos this.1]
 exact this.2
theorem g_q {B:List Int} {p:Prop} (h:inB B) (h1:¬ dmE B≠0) (h2:(!((strOf (mR (dmC B)).length fun r=>encL encI (mR (dmC B)) (0+r)).toList==(strOf B.length fun r=>encL encI B (0+r)).toList))=true):p:=by
 rw[g_by h h1,beq_self_eq_true]at h2
 cases h2
theorem g_pos {B:List Int} (h:inB B) (h1:¬ dmE B≠0):0<(B.length:Int):=by
 have h2:=(dm_inv h (Decidable.of_not_not h1)).2
 have h3:=byZ_pos (dmC B).k
 rw[<- h2]
 unfold byM
 simp only[List.length_append]
 omega
theorem g_11 {x:List Int × Int} (h:inB x.1) (h1:¬ dmE x.1≠0):dmE (x.1.take (d_j x))=11:=by
 have h2:=dm_inv h (Decidable.of_not_not h1)
 have h3:=d_m (x:=x) (g_pos h h1)
 have h4:inB (byM (dmC x.1)):=by rw[h2.2];exact h
 have:=dm_cut h2.1 h4 (j:=d_j x) (by rw[h2.2];unfold d_j;omega)
 rw[h2.2]at this
 exact this
theorem g_t {x:List Int × Int} (h:inB x.1) (h1:¬ dmE x.1≠0):decide (dmE (x.1.take (d_j x))=11)=true:=decide_eq_true (g_11 h h1)
set_option maxRecDepth 100000 in
theorem l7_keeps:Keeps cfgL7 Tryd.f7 lw2 noIv:=Eq.mp (show((∀ x1:List Int × Int,((isB (Prod.fst x1)/\(0:Int)<=Prod.snd x1/\Prod.snd x1<=(65535:Int))->(∃ x3:Unit,(True/\(True/\(True/\(((decide (400<(↑(Prod.fst x1).length:Int))=true)->(true=true/\True))/\((decide (400<(↑(Prod.fst x1).length:Int))=false)->(∃ x6:List Int,((inB x6)/\(((0=0/\((Prod.fst x1).length=x6.length))/\True)/\((((RLe x6.length (Prod.fst x1).length)/\(RowsEq (.int IntKind.u8::[]) x6.length (encL encI (Prod.fst x1)) (encL encI x6)))/\True)/\(((decide (dmE x6≠(0:Int))=true)->(∃ x8:Msg,(True/\(((((dmC x6).k=x8.k)/\(((dmC x6).a=x8.a)/\(((dmC x6).p=x8.p)/\(((dmC x6).q=x8.q)/\(((dmC x6).b=x8.b)/\(((dmC x6).e=x8.e)/\((0=0/\((dmC x6).body.length=x8.body.length))/\True)))))))/\True)/\((((RLe x8.body.length (dmC x6).body.length)/\(RowsEq (.int IntKind.u8::[]) x8.body.length (encL encI (dmC x6).body) (encL encI x8.body)))/\True)/\(∃ x9:Msg × Msg,(((isB (Prod.fst x9).body)/\(isB (Prod.snd x9).body))/\((((x8.k=(Prod.fst x9).k)/\((x8.a=(Prod.fst x9).a)/\((x8.p=(Prod.fst x9).p)/\((x8.q=(Prod.fst x9).q)/\((x8.b=(Prod.fst x9).b)/\((x8.e=(Prod.fst x9).e)/\((0=0/\(x8.body.length=(Prod.fst x9).body.length))/\True)))))))/\(((0=(Prod.snd x9).k)/\((0=(Prod.snd x9).a)/\((0=(Prod.snd x9).p)/\((0=(Prod.snd x9).q)/\((0=(Prod.snd x9).b)/\((0=(Prod.snd x9).e)/\((True/\(0=0/\((Prod.snd x9).body.length=(0:Nat))))/\True)))))))/\True))/\((((RLe (Prod.fst x9).body.length x8.body.length)/\(RowsEq (.int IntKind.u8::[]) (Prod.fst x9).body.length (encL encI x8.body) (encL encI (Prod.fst x9).body)))/\(((Prod.snd x9).body.length=(0:Nat))/\True))/\(((decide (Prod.fst x9=Prod.snd x9)=true)->(((decide (dmE x6=2)=false)->((decide (dmE x6=11)=true)/\True))/\((decide (dmE x6=2)=true)->(true=true/\True))))/\((decide (Prod.fst x9=Prod.snd x9)=false)->(false=true/\True))))))))))))/\((decide (dmE x6≠(0:Int))=false)->(∃ x15:Msg,(True/\(((((dmC x6).k=x15.k)/\(((dmC x6).a=x15.a)/\(((dmC x6).p=x15.p)/\(((dmC x6).q=x15.q)/\(((dmC x6).b=x15.b)/\(((dmC x6).e=x15.e)/\((0=0/\((dmC x6).body.length=x15.body.length))/\True)))))))/\True)/\((((RLe x15.body.length (dmC x6).body.length)/\(RowsEq (.int IntKind.u8::[]) x15.body.length (encL encI (dmC x6).body) (encL encI x15.body)))/\True)/\(∃ x16:Msg,(True/\(((x15.k=x16.k/\(x15.a=x16.a/\(x15.p=x16.p/\(x15.q=x16.q/\(x15.b=x16.b/\(x15.e=x16.e/\((0=0/\x15.body.length=x16.body.length)/\True)))))))/\True)/\((((RLe x16.body.length x15.body.length)/\(RowsEq (.int IntKind.u8::[]) x16.body.length (encL encI x15.body) (encL encI x16.body)))/\True)/\((((!vM x16)=false)->(∃ x18:Msg,(True/\(((((dmC x6).k=x18.k)/\(((dmC x6).a=x18.a)/\(((dmC x6).p=x18.p)/\(((dmC x6).q=x18.q)/\(((dmC x6).b=x18.b)/\(((dmC x6).e=x18.e)/\((0=0/\((dmC x6).body.length=x18.body.length))/\True)))))))/\True)/\((((RLe x18.body.length x15.body.length)/\(RowsEq (.int IntKind.u8::[]) x18.body.length (encL encI x15.body) (encL encI x18.body)))/\True)/\(∃ x19:Msg,(True/\(((x18.k=x19.k/\(x18.a=x19.a/\(x18.p=x19.p/\(x18.q=x19.q/\(x18.b=x19.b/\(x18.e=x19.e/\((0=0/\x18.body.length=x19.body.length)/\True)))))))/\True)/\((((RLe x19.body.length x18.body.length)/\(RowsEq (.int IntKind.u8::[]) x19.body.length (encL encI x18.body) (encL encI x19.body)))/\True)/\(((0:Nat)+(mR x19).length<=(mR x19).length)/\(((0:Nat)+(Prod.fst x1).length<=(Prod.fst x1).length)/\((((!ByteArray.toList (ByteArray.mk (List.toArray (List.map (fun(r:Nat)=>UInt8.ofNat (Int.toNat ((mR x19).getD ((0:Nat)+r) default))) (List.range (mR x19).length))))==ByteArray.toList (ByteArray.mk (List.toArray (List.map (fun(r:Nat)=>UInt8.ofNat (Int.toNat ((Prod.fst x1).getD ((0:Nat)+r) default))) (List.range (Prod.fst x1).length)))))=true)->(false=true/\True))/\(((!ByteArray.toList (ByteArray.mk (List.toArray (List.map (fun(r:Nat)=>UInt8.ofNat (Int.toNat ((mR x19).getD ((0:Nat)+r) default))) (List.range (mR x19).length))))==ByteArray.toList (ByteArray.mk (List.toArray (List.map (fun(r:Nat)=>UInt8.ofNat (Int.toNat ((Prod.fst x1).getD ((0:Nat)+r) default))) (List.range (Prod.fst x1).length)))))=false)->((((-9223372036854775808:Int)<=Prod.snd x1)/\(Prod.snd x1<=(9223372036854775807:Int)))/\((((0:Int)<=Prod.snd x1)/\(0<(↑(Prod.fst x1).length:Int)))/\((((0:Int)<=(0:Int))/\(((0:Int)<=Prod.snd x1%(↑(Prod.fst x1).length:Int))/\(Prod.snd x1%(↑(Prod.fst x1).length:Int)<=(↑(Prod.fst x1).length:Int))))/\(∃ x22:List Int,((inB x22)/\((((0+Int.toNat (0:Int)=(0:Nat))/\(Int.toNat (Prod.snd x1%(↑(Prod.fst x1).length:Int))-Int.toNat 0=x22.length))/\True)/\((((RLe x22.length (Prod.fst x1).length)/\(RowsEq (.int IntKind.u8::[]) x22.length (encL encI (Prod.fst x1)) (encL encI x22)))/\True)/\((decide (dmE x22=11)=true)/\True)))))))))))))))))))))/\(((!vM x16)=true)->(false=true/\True))))))))))))))))))))))))))=(Keeps cfgL7 Tryd.f7 lw2 noIv) by kernel_rfl) (fun x1=>fun h2=>⟨(default),
 trivial,trivial,trivial,
fun g4=>have h4:=dT g4;⟨rfl,trivial⟩,
fun g5=>have h5:=dF g5;⟨(Prod.fst x1),
(by(try dsimp only at *);exact l7_in h2 h5),
⟨⟨rfl,rfl⟩,trivial⟩,
⟨⟨rl,rr⟩,trivial⟩,
fun g7=>have h7:=dT g7;⟨(dmC (Prod.fst x1)),trivial,
⟨⟨rfl,rfl,rfl,rfl,rfl,rfl,
⟨rfl,rfl⟩,trivial⟩,trivial⟩,
⟨⟨rl,rr⟩,trivial⟩,
((dmC (Prod.fst x1),{ :Msg })),
⟨(by(try dsimp only at *);exact g_b (l7_in h2 h5)),
(by(try dsimp only at *);exact g_b0)⟩,
⟨⟨rfl,rfl,rfl,rfl,rfl,rfl,
⟨rfl,rfl⟩,trivial⟩,
⟨rfl,rfl,rfl,rfl,rfl,rfl,
⟨trivial,rfl,
(by(try dsimp only at *);grind)⟩,trivial⟩,trivial⟩,
⟨⟨rl,rr⟩,
(by(try dsimp only at *);grind),trivial⟩,
fun g10=>have h10:=dT g10;⟨fun g11=>have h11:=dF g11;⟨(by(try dsimp only at *);exact g_e (l7_in h2 h5) ‹_› ‹_›),trivial⟩,
fun g12=>have h12:=dT g12;⟨rfl,trivial⟩⟩,
fun g13=>have h13:=dF g13;⟨(by(try dsimp only at *);exact g_c (l7_in h2 h5) h7 ‹_›),trivial⟩⟩,
fun g14=>have h14:=dF g14;⟨(dmC (Prod.fst x1)),trivial,
⟨⟨rfl,rfl,rfl,rfl,rfl,rfl,
⟨rfl,rfl⟩,trivial⟩,trivial⟩,
⟨⟨rl,rr⟩,trivial⟩,
(dmC (Prod.fst x1)),trivial,
⟨⟨rfl,rfl,rfl,rfl,rfl,rfl,
⟨rfl,rfl⟩,trivial⟩,trivial⟩,
⟨⟨rl,rr⟩,trivial⟩,
fun h17=>⟨(dmC (Prod.fst x1)),trivial,
⟨⟨rfl,rfl,rfl,rfl,rfl,rfl,
⟨rfl,rfl⟩,trivial⟩,trivial⟩,
⟨⟨rl,rr⟩,trivial⟩,
(dmC (Prod.fst x1)),trivial,
⟨⟨rfl,rfl,rfl,rfl,rfl,rfl,
⟨rfl,rfl⟩,trivial⟩,trivial⟩,
⟨⟨rl,rr⟩,trivial⟩,
(by(try dsimp only at *);omega),
(by(try dsimp only at *);omega),
fun h20=>⟨(by(try dsimp only at *);exact g_q (l7_in h2 h5) h14 h20),trivial⟩,
fun h21=>⟨⟨(by(try dsimp only at *);omega),
(by(try dsimp only at *);omega)⟩,
⟨(by(try dsimp only at *);omega),
(by(try dsimp only at *);exact g_pos (l7_in h2 h5) h14)⟩,
⟨(by(try dsimp only at *);omega),
(by(try dsimp only at *);exact(d_m (g_pos (l7_in h2 h5) h14)).1),
(by(try dsimp only at *);exact Int.le_of_lt (d_m (g_pos (l7_in h2 h5) h14)).2)⟩,
(List.take (d_j x1) (Prod.fst x1)),
(by(try dsimp only at *);exact inB_take (l7_in h2 h5) _),
⟨⟨(by(try dsimp only at *);omega),
(by(try dsimp only at *);exact d_tl (g_pos (l7_in h2 h5) h14))⟩,trivial⟩,
⟨⟨⟨(by(try dsimp only at *);grind)⟩,
(by(try dsimp only at *);exact d_tr (Nat.le_refl _))⟩,trivial⟩,
(by(try dsimp only at *);exact g_t (l7_in h2 h5) h14),trivial⟩⟩,
fun h23=>⟨(by(try dsimp only at *);exact g_r (l7_in h2 h5) h14 h23),trivial⟩⟩⟩⟩)
theorem l7_good:Good Tryd.prog 7 lw2/\FnOk Tryd.prog 7:=good_of tok conL7 (fn:=Tryd.f7) rfl (by decide+kernel) (fun _=>rfl) l7_keeps
end Go.Sym