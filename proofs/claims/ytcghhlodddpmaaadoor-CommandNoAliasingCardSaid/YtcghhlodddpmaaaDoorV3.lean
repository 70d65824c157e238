import Derived.Test.YtcghhlodddpmaaaDoorV2
import Derived.Test.YtcghhlodddpmaaaDoorV2b
import Derived.Test.YtcghhlodddpmaaaDoorXD
namespace Go.Sym
set_option linter.unusedVariables false
set_option linter.unusedSimpArgs false
open Go.Proofs
set_option maxRecDepth 100000
set_option maxHeartbeats 4000000
def cfg1:Cfg:=⟨T,[],[(28,.one fsCt),(29,.one vcC),(30,.one vnC),(31,.one irC),(32,.one numC),(33,.one setC),(20,.one eqCt)],noInv,60,{}⟩
theorem con1:ConOk Tryd.prog cfg1:=ConL.ok (.cons (ConL.one fs_good) (.cons (ConL.one vc_good) (.cons (ConL.one vn_good) (.cons (ConL.one ir_good) (.cons (ConL.one num_good) (.cons (ConL.one set_good) (.cons (ConL.one eq_good) .nil)))))))
def vdP (c:Cmd) (i:Nat):Prop:=∀ j,j<i->fOk c ((fsC c.kind).getD j 0)=true
def fAt (c:Cmd) (i:Nat):Int:=(fsC c.kind).getD (0+(i:Int).toNat) default
theorem fAt_eq (c:Cmd) (i:Nat):(fsC c.kind).getD i 0=fAt c i:=by
 unfold fAt
 rw[Nat.zero_add]
 rfl
theorem clrs_step {c:Cmd} {i:Nat} (h:(i:Int)<(fsC c.kind).length):clrs c (i+1)=clr (clrs c i) (fAt c i):=by
 have h:i<(fsC c.kind).length:=by omega
 unfold clrs
 rw[List.take_add_one,List.getElem?_eq_getElem h,List.foldl_append,<- fAt_eq,List.getD_eq_getElem?_getD,List.getElem?_eq_getElem h]
 rfl
theorem clrs_4 {c:Cmd} {i:Nat} (h:(i:Int)<(fsC c.kind).length) (h1:fAt c i=4):clrs c (i+1)={ clrs c i with code:=ByteArray.empty }:=by
 rw[clrs_step h,clr,if_pos h1]
theorem clrs_5 {c:Cmd} {i:Nat} (h:(i:Int)<(fsC c.kind).length) (h1:fAt c i=5):clrs c (i+1)={ clrs c i with nodes:=[]}:=by
 rw[clrs_step h,clr,if_neg (by omega),if_pos h1]
theorem clrs_n {c:Cmd} {i:Nat} (h:(i:Int)<(fsC c.kind).length) (h1:¬ fAt c i=4) (h2:¬ fAt c i=5):clrs c (i+1)=setF (clrs c i) (fAt c i) 0:=by
 rw[clrs_step h,clr,if_neg h1,if_neg h2]
theorem clrs_len (c:Cmd) (n:Nat):(clrs c n).nodes.length<=c.nodes.length:=by
 unfold clrs
 generalize(fsC c.kind).take n=l
 suffices h:∀(l:List Int) (d:Cmd),(l.foldl clr d).nodes.length<=d.nodes.length from h l c
 intro l
 induction l with
 |nil=>exact fun d=>Nat.le_refl _
 |cons f l ih=>
  intro d
  refine Nat.le_trans (ih _) ?_
  unfold clr
  split
  ·exact Nat.le_refl _
  ·split
   ·exact Nat.zero_le _
   ·exact Nat.le_refl _
theorem vd_f {c:Cmd} {i:Nat} (h:(i:Int)<(fsC c.kind).length) (h1:fOk c (fAt c i)=false):false=vC c:=by
 unfold vC
 rw[decide_eq_false (p:=∀ i,_) (fun h2=>by have:=h2 i (by omega);rw[fAt_eq,h1]at this;cases this),Bool.false_and,Bool.and_false]
theorem vd_f4 {c:Cmd} {i:Nat} (h:(i:Int)<(fsC c.kind).length) (h1:fAt c i=4) (h2:(!vCode c.code)=true):false=vC c:=
 vd_f h (by rw[fOk,if_pos h1];simpa using h2)
theorem vd_f5 {c:Cmd} {i:Nat} (h:(i:Int)<(fsC c.kind).length) (h1:¬ fAt c i=4) (h3:fAt c i=5) (h2:(!vNodes c.nodes)=true):false=vC c:=
 vd_f h (by rw[fOk,if_neg h1,if_pos h3];simpa using h2)
theorem vd_fn {c:Cmd} {i:Nat} (h:(i:Int)<(fsC c.kind).length) (h1:¬ fAt c i=4) (h3:¬ fAt c i=5) (h2:(!inRF (fAt c i) (numF c (fAt c i)))=true):false=vC c:=
 vd_f h (by rw[fOk,if_neg h1,if_neg h3];simpa using h2)
theorem vd_s {c:Cmd} {i:Nat} (h:vdP c i) (h1:fOk c (fAt c i)=true):vdP c (i+1):=by
 intro j hj
 rcases(show j<i∨j=i by omega)with h3|rfl
 ·exact h j h3
 ·rw[fAt_eq]
  exact h1
theorem vd_s4 {c:Cmd} {i:Nat} (h:vdP c i) (h1:fAt c i=4) (h2:(!vCode c.code)=false):vdP c (i+1):=
 vd_s h (by rw[fOk,if_pos h1];simpa using h2)
theorem vd_s5 {c:Cmd} {i:Nat} (h:vdP c i) (h1:¬ fAt c i=4) (h3:fAt c i=5) (h2:(!vNodes c.nodes)=false):vdP c (i+1):=
 vd_s h (by rw[fOk,if_neg h1,if_pos h3];simpa using h2)
theorem vd_sn {c:Cmd} {i:Nat} (h:vdP c i) (h1:¬ fAt c i=4) (h3:¬ fAt c i=5) (h2:(!inRF (fAt c i) (numF c (fAt c i)))=false):vdP c (i+1):=
 vd_s h (by rw[fOk,if_neg h1,if_neg h3];simpa using h2)
theorem vd_k {c:Cmd} (h:(!kOk c.kind)=true):false=vC c:=by
 unfold vC
 rw[show kOk c.kind=false by simpa using h,Bool.false_and]
theorem vd_m {c:Cmd} (h:c.kind=3) (h1:c.inc=c.oth):false=vC c:=by
 unfold vC
 rw[decide_eq_true (p:=c.kind=3/\c.inc=c.oth) ⟨h,h1⟩,Bool.not_true,Bool.false_and,Bool.and_false,Bool.and_false]
theorem vd_t {c:Cmd} {i:Nat} (h:i<=(fsC c.kind).length/\kOk c.kind=true/\vdP c i) (h1:¬ (i:Int)<(fsC c.kind).length) (h2:¬ (c.kind=3/\c.inc=c.oth)):decide (clrs c i=onlyK c.kind)=vC c:=by
 have e:i=(fsC c.kind).length:=by omega
 unfold vC
 rw[h.2.1,decide_eq_true (p:=∀ i,_) (fun j hj=>h.2.2 j (by omega)),decide_eq_false h2,e]
 rfl
theorem ite_len {p:Prop} [Decidable p] {a b:List Int} (ha:a.length<=5) (hb:b.length<=5):(if p then a else b).length<=5:=by
 by_cases h:p
 ·rw[if_pos h];exact ha
 ·rw[if_neg h];exact hb
theorem fs_small (k:Int):(fsC k).length<=5:=by
 unfold fsC
 iterate 13 refine ite_len (by decide) ?_
 decide
theorem fs_lt {k:Int} {i:Nat} (h:(i:Int)<(fsC k).length):(i:Int)+1<=9223372036854775807:=by
 have:=fs_small k
 omega
def vdI (x:Cmd) (id:Nat):Option Inv:=match id with
 | 0 => some { X := Nat, ok := fun i => i <= (fsC x.kind).length /\ kOk x.kind = true /\ vdP x i, fr := fun i => [(1, .p 311 0 0), (5, .p 312 0 0), (17, .sl 313 0 (fsC x.kind).length), (18, .i .i64 (fsC x.kind).length), (19, .i .i64 i)],
               hp:=fun i=>[(311,.one .own (cl x 100001)),nB 100001 x,(312,.one .own (cl (clrs x i) 314)),nB 314 (clrs x i),(313,.rows .own kN (fsC x.kind).length (encL encI (fsC x.kind)))],me:=fun i=>(fsC x.kind).length-i }
 |_=>none
def vdC:CT where
 X:=Cmd
 pre:=fun x=>x.nodes.length<=1000000
 args:=fun x=>[.agg (cl x 100001)]
 g0:=fun x=>[nB 100001 x]
 res:=fun x=>.b (vC x)
 g1:=fun _=>[]
set_option maxRecDepth 100000 in
theorem vd_keeps:Keeps cfg1 Tryd.f12 vdC vdI:=Eq.mp (show((∀ x1:Cmd,((x1.nodes.length<=(1000000:Nat))->(∃ x3:Int,(True/\((x1.kind=x3/\True)/\(True/\((((!kOk x3)=true)->((false=vC x1)/\True))/\(((!kOk x3)=false)->(∃ x6:Nat,((((x6<=(fsC x1.kind).length)/\((kOk x1.kind=true)/\(vdP x1 x6)))/\(((0=0/\0=0)/\((0=0/\0=0)/\((0=0/\((fsC x3).length=(fsC x1.kind).length))/\(((↑(fsC x3).length:Int)=(↑(fsC x1.kind).length:Int))/\((0=(x6:Int))/\((x1.kind=x1.kind/\(x1.call=x1.call/\(x1.inc=x1.inc/\(x1.oth=x1.oth/\(x1.urg=x1.urg/\(x1.code=x1.code/\((0=0/\x1.nodes.length=x1.nodes.length)/\(x1.dist=x1.dist/\(x1.cen=x1.cen/\(x1.ep=x1.ep/\(x1.tick=x1.tick/\(x1.su=x1.su/\(x1.sq=x1.sq/\(x1.ss=x1.ss/\(x1.sn=x1.sn/\(x1.se=x1.se/\(x1.edge=x1.edge/\(x1.time=x1.time/\(x1.node=x1.node/\True)))))))))))))))))))/\(((!kOk x3)= !kOk x3)/\((kOk x3=kOk x3)/\((kOk x3=kOk x3)/\((kOk x3=kOk x3)/\(x1.kind=x1.kind/\((x1.kind=x1.kind/\(x1.call=x1.call/\(x1.inc=x1.inc/\(x1.oth=x1.oth/\(x1.urg=x1.urg/\(x1.code=x1.code/\((0=0/\x1.nodes.length=x1.nodes.length)/\(x1.dist=x1.dist/\(x1.cen=x1.cen/\(x1.ep=x1.ep/\(x1.tick=x1.tick/\(x1.su=x1.su/\(x1.sq=x1.sq/\(x1.ss=x1.ss/\(x1.sn=x1.sn/\(x1.se=x1.se/\(x1.edge=x1.edge/\(x1.time=x1.time/\(x1.node=x1.node/\True)))))))))))))))))))/\True))))))))))))/\((x1.kind=x1.kind/\(x1.call=x1.call/\(x1.inc=x1.inc/\(x1.oth=x1.oth/\(x1.urg=x1.urg/\(x1.code=x1.code/\((0=0/\x1.nodes.length=x1.nodes.length)/\(x1.dist=x1.dist/\(x1.cen=x1.cen/\(x1.ep=x1.ep/\(x1.tick=x1.tick/\(x1.su=x1.su/\(x1.sq=x1.sq/\(x1.ss=x1.ss/\(x1.sn=x1.sn/\(x1.se=x1.se/\(x1.edge=x1.edge/\(x1.time=x1.time/\(x1.node=x1.node/\True)))))))))))))))))))/\(((RLe x1.nodes.length x1.nodes.length)/\(RI x1.nodes.length x1.nodes x1.nodes))/\(((x1.kind=(clrs x1 x6).kind)/\((x1.call=(clrs x1 x6).call)/\((x1.inc=(clrs x1 x6).inc)/\((x1.oth=(clrs x1 x6).oth)/\((x1.urg=(clrs x1 x6).urg)/\((x1.code=(clrs x1 x6).code)/\((0=0/\(x1.nodes.length=(clrs x1 x6).nodes.length))/\((x1.dist=(clrs x1 x6).dist)/\((x1.cen=(clrs x1 x6).cen)/\((x1.ep=(clrs x1 x6).ep)/\((x1.tick=(clrs x1 x6).tick)/\((x1.su=(clrs x1 x6).su)/\((x1.sq=(clrs x1 x6).sq)/\((x1.ss=(clrs x1 x6).ss)/\((x1.sn=(clrs x1 x6).sn)/\((x1.se=(clrs x1 x6).se)/\((x1.edge=(clrs x1 x6).edge)/\((x1.time=(clrs x1 x6).time)/\((x1.node=(clrs x1 x6).node)/\True)))))))))))))))))))/\(((RLe (clrs x1 x6).nodes.length x1.nodes.length)/\(RowsEq [.int .i64] (clrs x1 x6).nodes.length (encL encI x1.nodes) (encL encI (clrs x1 x6).nodes)))/\(((RLe (fsC x1.kind).length (fsC x3).length)/\(RowsEq [.int .i64] (fsC x1.kind).length (encL encI (fsC x3)) (encL encI (fsC x1.kind))))/\True)))))))/\(∀ x7:Nat,((x7<=(fsC x1.kind).length/\kOk x1.kind=true/\vdP x1 x7)->(((decide ((x7:Int)<(↑(fsC x1.kind).length:Int))=true)->((((0:Int)<=(x7:Int))/\((x7:Int)<(↑(fsC x1.kind).length:Int)))/\((0+Int.toNat (x7:Int)<(fsC x1.kind).length)/\(((decide ((fsC x1.kind).getD (0+Int.toNat (x7:Int)) default=4)=true)->(∃ x11:ByteArray,(True/\((x1.code=x11/\True)/\(True/\((((!vCode x11)=true)->((false=vC x1)/\True))/\(((!vCode x11)=false)->((((-9223372036854775808:Int)<=(x7:Int)+1)/\((x7:Int)+1<=(9223372036854775807:Int)))/\(∃ x14:Nat,(((fsC x1.kind).length-x14<(fsC x1.kind).length-x7)/\(((x14<=(fsC x1.kind).length)/\((kOk x1.kind=true)/\(vdP x1 x14)))/\(((0=0/\0=0)/\((0=0/\0=0)/\((0=0/\((fsC x1.kind).length=(fsC x1.kind).length))/\(((↑(fsC x1.kind).length:Int)=(↑(fsC x1.kind).length:Int))/\(((x7:Int)+1=(x14:Int))/\((x1.kind=x1.kind/\(x1.call=x1.call/\(x1.inc=x1.inc/\(x1.oth=x1.oth/\(x1.urg=x1.urg/\(x1.code=x1.code/\((0=0/\x1.nodes.length=x1.nodes.length)/\(x1.dist=x1.dist/\(x1.cen=x1.cen/\(x1.ep=x1.ep/\(x1.tick=x1.tick/\(x1.su=x1.su/\(x1.sq=x1.sq/\(x1.ss=x1.ss/\(x1.sn=x1.sn/\(x1.se=x1.se/\(x1.edge=x1.edge/\(x1.time=x1.time/\(x1.node=x1.node/\True)))))))))))))))))))/\(((!kOk x3)= !kOk x3)/\((kOk x3=kOk x3)/\((kOk x3=kOk x3)/\((kOk x3=kOk x3)/\(x1.kind=x1.kind/\((x1.kind=x1.kind/\(x1.call=x1.call/\(x1.inc=x1.inc/\(x1.oth=x1.oth/\(x1.urg=x1.urg/\(x1.code=x1.code/\((0=0/\x1.nodes.length=x1.nodes.length)/\(x1.dist=x1.dist/\(x1.cen=x1.cen/\(x1.ep=x1.ep/\(x1.tick=x1.tick/\(x1.su=x1.su/\(x1.sq=x1.sq/\(x1.ss=x1.ss/\(x1.sn=x1.sn/\(x1.se=x1.se/\(x1.edge=x1.edge/\(x1.time=x1.time/\(x1.node=x1.node/\True)))))))))))))))))))/\True))))))))))))/\((x1.kind=x1.kind/\(x1.call=x1.call/\(x1.inc=x1.inc/\(x1.oth=x1.oth/\(x1.urg=x1.urg/\(x1.code=x1.code/\((0=0/\x1.nodes.length=x1.nodes.length)/\(x1.dist=x1.dist/\(x1.cen=x1.cen/\(x1.ep=x1.ep/\(x1.tick=x1.tick/\(x1.su=x1.su/\(x1.sq=x1.sq/\(x1.ss=x1.ss/\(x1.sn=x1.sn/\(x1.se=x1.se/\(x1.edge=x1.edge/\(x1.time=x1.time/\(x1.node=x1.node/\True)))))))))))))))))))/\(((RLe x1.nodes.length x1.nodes.length)/\(RI x1.nodes.length x1.nodes x1.nodes))/\((((clrs x1 x7).kind=(clrs x1 x14).kind)/\(((clrs x1 x7).call=(clrs x1 x14).call)/\(((clrs x1 x7).inc=(clrs x1 x14).inc)/\(((clrs x1 x7).oth=(clrs x1 x14).oth)/\(((clrs x1 x7).urg=(clrs x1 x14).urg)/\(((ByteArray.mk (List.toArray (@List.nil UInt8)))=(clrs x1 x14).code)/\((0=0/\((clrs x1 x7).nodes.length=(clrs x1 x14).nodes.length))/\(((clrs x1 x7).dist=(clrs x1 x14).dist)/\(((clrs x1 x7).cen=(clrs x1 x14).cen)/\(((clrs x1 x7).ep=(clrs x1 x14).ep)/\(((clrs x1 x7).tick=(clrs x1 x14).tick)/\(((clrs x1 x7).su=(clrs x1 x14).su)/\(((clrs x1 x7).sq=(clrs x1 x14).sq)/\(((clrs x1 x7).ss=(clrs x1 x14).ss)/\(((clrs x1 x7).sn=(clrs x1 x14).sn)/\(((clrs x1 x7).se=(clrs x1 x14).se)/\(((clrs x1 x7).edge=(clrs x1 x14).edge)/\(((clrs x1 x7).time=(clrs x1 x14).time)/\(((clrs x1 x7).node=(clrs x1 x14).node)/\True)))))))))))))))))))/\(((RLe (clrs x1 x14).nodes.length (clrs x1 x7).nodes.length)/\(RowsEq [.int .i64] (clrs x1 x14).nodes.length (encL encI (clrs x1 x7).nodes) (encL encI (clrs x1 x14).nodes)))/\(((RLe (fsC x1.kind).length (fsC x1.kind).length)/\(RowsEq [.int .i64] (fsC x1.kind).length (encL encI (fsC x1.kind)) (encL encI (fsC x1.kind))))/\True)))))))))))))))))/\((decide ((fsC x1.kind).getD (0+Int.toNat (x7:Int)) default=4)=false)->(((decide ((fsC x1.kind).getD (0+Int.toNat (x7:Int)) default=5)=true)->(∃ x17:List Int,(True/\(((0=0/\x1.nodes.length=x17.length)/\True)/\((((RLe x17.length x1.nodes.length)/\(RI x17.length x1.nodes x17))/\True)/\((((!vNodes x17)=true)->((false=vC x1)/\True))/\(((!vNodes x17)=false)->((((-9223372036854775808:Int)<=(x7:Int)+1)/\((x7:Int)+1<=(9223372036854775807:Int)))/\(∃ x20:Nat,(((fsC x1.kind).length-x20<(fsC x1.kind).length-x7)/\(((x20<=(fsC x1.kind).length)/\((kOk x1.kind=true)/\(vdP x1 x20)))/\(((0=0/\0=0)/\((0=0/\0=0)/\((0=0/\((fsC x1.kind).length=(fsC x1.kind).length))/\(((↑(fsC x1.kind).length:Int)=(↑(fsC x1.kind).length:Int))/\(((x7:Int)+1=(x20:Int))/\((x1.kind=x1.kind/\(x1.call=x1.call/\(x1.inc=x1.inc/\(x1.oth=x1.oth/\(x1.urg=x1.urg/\(x1.code=x1.code/\((0=0/\x1.nodes.length=x1.nodes.length)/\(x1.dist=x1.dist/\(x1.cen=x1.cen/\(x1.ep=x1.ep/\(x1.tick=x1.tick/\(x1.su=x1.su/\(x1.sq=x1.sq/\(x1.ss=x1.ss/\(x1.sn=x1.sn/\(x1.se=x1.se/\(x1.edge=x1.edge/\(x1.time=x1.time/\(x1.node=x1.node/\True)))))))))))))))))))/\(((!kOk x3)= !kOk x3)/\((kOk x3=kOk x3)/\((kOk x3=kOk x3)/\((kOk x3=kOk x3)/\(x1.kind=x1.kind/\((x1.kind=x1.kind/\(x1.call=x1.call/\(x1.inc=x1.inc/\(x1.oth=x1.oth/\(x1.urg=x1.urg/\(x1.code=x1.code/\((0=0/\x1.nodes.length=x1.nodes.length)/\(x1.dist=x1.dist/\(x1.cen=x1.cen/\(x1.ep=x1.ep/\(x1.tick=x1.tick/\(x1.su=x1.su/\(x1.sq=x1.sq/\(x1.ss=x1.ss/\(x1.sn=x1.sn/\(x1.se=x1.se/\(x1.edge=x1.edge/\(x1.time=x1.time/\(x1.node=x1.node/\True)))))))))))))))))))/\True))))))))))))/\((x1.kind=x1.kind/\(x1.call=x1.call/\(x1.inc=x1.inc/\(x1.oth=x1.oth/\(x1.urg=x1.urg/\(x1.code=x1.code/\((0=0/\x1.nodes.length=x1.nodes.length)/\(x1.dist=x1.dist/\(x1.cen=x1.cen/\(x1.ep=x1.ep/\(x1.tick=x1.tick/\(x1.su=x1.su/\(x1.sq=x1.sq/\(x1.ss=x1.ss/\(x1.sn=x1.sn/\(x1.se=x1.se/\(x1.edge=x1.edge/\(x1.time=x1.time/\(x1.node=x1.node/\True)))))))))))))))))))/\(((RLe x1.nodes.length x1.nodes.length)/\(RI x1.nodes.length x1.nodes x1.nodes))/\((((clrs x1 x7).kind=(clrs x1 x20).kind)/\(((clrs x1 x7).call=(clrs x1 x20).call)/\(((clrs x1 x7).inc=(clrs x1 x20).inc)/\(((clrs x1 x7).oth=(clrs x1 x20).oth)/\(((clrs x1 x7).urg=(clrs x1 x20).urg)/\(((clrs x1 x7).code=(clrs x1 x20).code)/\((True/\(0=0/\((clrs x1 x20).nodes.length=(0:Nat))))/\(((clrs x1 x7).dist=(clrs x1 x20).dist)/\(((clrs x1 x7).cen=(clrs x1 x20).cen)/\(((clrs x1 x7).ep=(clrs x1 x20).ep)/\(((clrs x1 x7).tick=(clrs x1 x20).tick)/\(((clrs x1 x7).su=(clrs x1 x20).su)/\(((clrs x1 x7).sq=(clrs x1 x20).sq)/\(((clrs x1 x7).ss=(clrs x1 x20).ss)/\(((clrs x1 x7).sn=(clrs x1 x20).sn)/\(((clrs x1 x7).se=(clrs x1 x20).se)/\(((clrs x1 x7).edge=(clrs x1 x20).edge)/\(((clrs x1 x7).time=(clrs x1 x20).time)/\(((clrs x1 x7).node=(clrs x1 x20).node)/\True)))))))))))))))))))/\(((clrs x1 x20).nodes.length=(0:Nat))/\(((RLe (fsC x1.kind).length (fsC x1.kind).length)/\(RowsEq [.int .i64] (fsC x1.kind).length (encL encI (fsC x1.kind)) (encL encI (fsC x1.kind))))/\True)))))))))))))))))/\((decide ((fsC x1.kind).getD (0+Int.toNat (x7:Int)) default=5)=false)->(∃ x22:Cmd × Int,(True/\((((x1.kind=(Prod.fst x22).kind)/\((x1.call=(Prod.fst x22).call)/\((x1.inc=(Prod.fst x22).inc)/\((x1.oth=(Prod.fst x22).oth)/\((x1.urg=(Prod.fst x22).urg)/\((x1.code=(Prod.fst x22).code)/\((0=0/\(x1.nodes.length=(Prod.fst x22).nodes.length))/\((x1.dist=(Prod.fst x22).dist)/\((x1.cen=(Prod.fst x22).cen)/\((x1.ep=(Prod.fst x22).ep)/\((x1.tick=(Prod.fst x22).tick)/\((x1.su=(Prod.fst x22).su)/\((x1.sq=(Prod.fst x22).sq)/\((x1.ss=(Prod.fst x22).ss)/\((x1.sn=(Prod.fst x22).sn)/\((x1.se=(Prod.fst x22).se)/\((x1.edge=(Prod.fst x22).edge)/\((x1.time=(Prod.fst x22).time)/\((x1.node=(Prod.fst x22).node)/\True)))))))))))))))))))/\(((fsC x1.kind).getD (0+Int.toNat (x7:Int)) default=Prod.snd x22)/\True))/\((((RLe (Prod.fst x22).nodes.length x1.nodes.length)/\(RowsEq [.int .i64] (Prod.fst x22).nodes.length (encL encI x1.nodes) (encL encI (Prod.fst x22).nodes)))/\True)/\(∃ x23:Int × Int,(True/\((((fsC x1.kind).getD (0+Int.toNat (x7:Int)) default=Prod.fst x23)/\((numF (Prod.fst x22) (Prod.snd x22)=Prod.snd x23)/\True))/\(True/\((((!inRF (Prod.fst x23) (Prod.snd x23))=true)->((false=vC x1)/\True))/\(((!inRF (Prod.fst x23) (Prod.snd x23))=false)->(∃ x26:Cmd × Int × Int,(True/\(((0=0/\0=0)/\(((fsC x1.kind).getD (0+Int.toNat (x7:Int)) default=Prod.fst (Prod.snd x26))/\(((0:Int)=Prod.snd (Prod.snd x26))/\True)))/\(((((clrs x1 x7).kind=(Prod.fst x26).kind)/\(((clrs x1 x7).call=(Prod.fst x26).call)/\(((clrs x1 x7).inc=(Prod.fst x26).inc)/\(((clrs x1 x7).oth=(Prod.fst x26).oth)/\(((clrs x1 x7).urg=(Prod.fst x26).urg)/\(((clrs x1 x7).code=(Prod.fst x26).code)/\((0=0/\((clrs x1 x7).nodes.length=(Prod.fst x26).nodes.length))/\(((clrs x1 x7).dist=(Prod.fst x26).dist)/\(((clrs x1 x7).cen=(Prod.fst x26).cen)/\(((clrs x1 x7).ep=(Prod.fst x26).ep)/\(((clrs x1 x7).tick=(Prod.fst x26).tick)/\(((clrs x1 x7).su=(Prod.fst x26).su)/\(((clrs x1 x7).sq=(Prod.fst x26).sq)/\(((clrs x1 x7).ss=(Prod.fst x26).ss)/\(((clrs x1 x7).sn=(Prod.fst x26).sn)/\(((clrs x1 x7).se=(Prod.fst x26).se)/\(((clrs x1 x7).edge=(Prod.fst x26).edge)/\(((clrs x1 x7).time=(Prod.fst x26).time)/\(((clrs x1 x7).node=(Prod.fst x26).node)/\True)))))))))))))))))))/\(((RLe (Prod.fst x26).nodes.length (clrs x1 x7).nodes.length)/\(RowsEq [.int .i64] (Prod.fst x26).nodes.length (encL encI (clrs x1 x7).nodes) (encL encI (Prod.fst x26).nodes)))/\True))/\((((-9223372036854775808:Int)<=(x7:Int)+1)/\((x7:Int)+1<=(9223372036854775807:Int)))/\(∃ x27:Nat,(((fsC x1.kind).length-x27<(fsC x1.kind).length-x7)/\(((x27<=(fsC x1.kind).length)/\((kOk x1.kind=true)/\(vdP x1 x27)))/\(((0=0/\0=0)/\((0=0/\0=0)/\((0=0/\((fsC x1.kind).length=(fsC x1.kind).length))/\(((↑(fsC x1.kind).length:Int)=(↑(fsC x1.kind).length:Int))/\(((x7:Int)+1=(x27:Int))/\((x1.kind=x1.kind/\(x1.call=x1.call/\(x1.inc=x1.inc/\(x1.oth=x1.oth/\(x1.urg=x1.urg/\(x1.code=x1.code/\((0=0/\x1.nodes.length=x1.nodes.length)/\(x1.dist=x1.dist/\(x1.cen=x1.cen/\(x1.ep=x1.ep/\(x1.tick=x1.tick/\(x1.su=x1.su/\(x1.sq=x1.sq/\(x1.ss=x1.ss/\(x1.sn=x1.sn/\(x1.se=x1.se/\(x1.edge=x1.edge/\(x1.time=x1.time/\(x1.node=x1.node/\True)))))))))))))))))))/\(((!kOk x3)= !kOk x3)/\((kOk x3=kOk x3)/\((kOk x3=kOk x3)/\((kOk x3=kOk x3)/\(x1.kind=x1.kind/\((x1.kind=x1.kind/\(x1.call=x1.call/\(x1.inc=x1.inc/\(x1.oth=x1.oth/\(x1.urg=x1.urg/\(x1.code=x1.code/\((0=0/\x1.nodes.length=x1.nodes.length)/\(x1.dist=x1.dist/\(x1.cen=x1.cen/\(x1.ep=x1.ep/\(x1.tick=x1.tick/\(x1.su=x1.su/\(x1.sq=x1.sq/\(x1.ss=x1.ss/\(x1.sn=x1.sn/\(x1.se=x1.se/\(x1.edge=x1.edge/\(x1.time=x1.time/\(x1.node=x1.node/\True)))))))))))))))))))/\True))))))))))))/\((x1.kind=x1.kind/\(x1.call=x1.call/\(x1.inc=x1.inc/\(x1.oth=x1.oth/\(x1.urg=x1.urg/\(x1.code=x1.code/\((0=0/\x1.nodes.length=x1.nodes.length)/\(x1.dist=x1.dist/\(x1.cen=x1.cen/\(x1.ep=x1.ep/\(x1.tick=x1.tick/\(x1.su=x1.su/\(x1.sq=x1.sq/\(x1.ss=x1.ss/\(x1.sn=x1.sn/\(x1.se=x1.se/\(x1.edge=x1.edge/\(x1.time=x1.time/\(x1.node=x1.node/\True)))))))))))))))))))/\(((RLe x1.nodes.length x1.nodes.length)/\(RI x1.nodes.length x1.nodes x1.nodes))/\((((setF (Prod.fst x26) (Prod.fst (Prod.snd x26)) (Prod.snd (Prod.snd x26))).kind=(clrs x1 x27).kind)/\(((setF (Prod.fst x26) (Prod.fst (Prod.snd x26)) (Prod.snd (Prod.snd x26))).call=(clrs x1 x27).call)/\(((setF (Prod.fst x26) (Prod.fst (Prod.snd x26)) (Prod.snd (Prod.snd x26))).inc=(clrs x1 x27).inc)/\(((setF (Prod.fst x26) (Prod.fst (Prod.snd x26)) (Prod.snd (Prod.snd x26))).oth=(clrs x1 x27).oth)/\(((setF (Prod.fst x26) (Prod.fst (Prod.snd x26)) (Prod.snd (Prod.snd x26))).urg=(clrs x1 x27).urg)/\(((setF (Prod.fst x26) (Prod.fst (Prod.snd x26)) (Prod.snd (Prod.snd x26))).code=(clrs x1 x27).code)/\((0=0/\((setF (Prod.fst x26) (Prod.fst (Prod.snd x26)) (Prod.snd (Prod.snd x26))).nodes.length=(clrs x1 x27).nodes.length))/\(((setF (Prod.fst x26) (Prod.fst (Prod.snd x26)) (Prod.snd (Prod.snd x26))).dist=(clrs x1 x27).dist)/\(((setF (Prod.fst x26) (Prod.fst (Prod.snd x26)) (Prod.snd (Prod.snd x26))).cen=(clrs x1 x27).cen)/\(((setF (Prod.fst x26) (Prod.fst (Prod.snd x26)) (Prod.snd (Prod.snd x26))).ep=(clrs x1 x27).ep)/\(((setF (Prod.fst x26) (Prod.fst (Prod.snd x26)) (Prod.snd (Prod.snd x26))).tick=(clrs x1 x27).tick)/\(((setF (Prod.fst x26) (Prod.fst (Prod.snd x26)) (Prod.snd (Prod.snd x26))).su=(clrs x1 x27).su)/\(((setF (Prod.fst x26) (Prod.fst (Prod.snd x26)) (Prod.snd (Prod.snd x26))).sq=(clrs x1 x27).sq)/\(((setF (Prod.fst x26) (Prod.fst (Prod.snd x26)) (Prod.snd (Prod.snd x26))).ss=(clrs x1 x27).ss)/\(((setF (Prod.fst x26) (Prod.fst (Prod.snd x26)) (Prod.snd (Prod.snd x26))).sn=(clrs x1 x27).sn)/\(((setF (Prod.fst x26) (Prod.fst (Prod.snd x26)) (Prod.snd (Prod.snd x26))).se=(clrs x1 x27).se)/\(((setF (Prod.fst x26) (Prod.fst (Prod.snd x26)) (Prod.snd (Prod.snd x26))).edge=(clrs x1 x27).edge)/\(((setF (Prod.fst x26) (Prod.fst (Prod.snd x26)) (Prod.snd (Prod.snd x26))).time=(clrs x1 x27).time)/\(((setF (Prod.fst x26) (Prod.fst (Prod.snd x26)) (Prod.snd (Prod.snd x26))).node=(clrs x1 x27).node)/\True)))))))))))))))))))/\(((RLe (clrs x1 x27).nodes.length (clrs x1 x7).nodes.length)/\(RowsEq [.int .i64] (clrs x1 x27).nodes.length (encL encI (clrs x1 x7).nodes) (encL encI (clrs x1 x27).nodes)))/\(((RLe (fsC x1.kind).length (fsC x1.kind).length)/\(RowsEq [.int .i64] (fsC x1.kind).length (encL encI (fsC x1.kind)) (encL encI (fsC x1.kind))))/\True)))))))))))))))))))))))))))))))/\((decide ((x7:Int)<(↑(fsC x1.kind).length:Int))=false)->(((decide (x1.kind=(3:Int))=true)->(((decide (x1.inc=x1.oth)=true)->((false=vC x1)/\True))/\((decide (x1.inc=x1.oth)=false)->(∃ x32:Cmd × Cmd,(((Prod.fst x32).nodes.length<=(1000000:Nat))/\(((((clrs x1 x7).kind=(Prod.fst x32).kind)/\(((clrs x1 x7).call=(Prod.fst x32).call)/\(((clrs x1 x7).inc=(Prod.fst x32).inc)/\(((clrs x1 x7).oth=(Prod.fst x32).oth)/\(((clrs x1 x7).urg=(Prod.fst x32).urg)/\(((clrs x1 x7).code=(Prod.fst x32).code)/\((0=0/\((clrs x1 x7).nodes.length=(Prod.fst x32).nodes.length))/\(((clrs x1 x7).dist=(Prod.fst x32).dist)/\(((clrs x1 x7).cen=(Prod.fst x32).cen)/\(((clrs x1 x7).ep=(Prod.fst x32).ep)/\(((clrs x1 x7).tick=(Prod.fst x32).tick)/\(((clrs x1 x7).su=(Prod.fst x32).su)/\(((clrs x1 x7).sq=(Prod.fst x32).sq)/\(((clrs x1 x7).ss=(Prod.fst x32).ss)/\(((clrs x1 x7).sn=(Prod.fst x32).sn)/\(((clrs x1 x7).se=(Prod.fst x32).se)/\(((clrs x1 x7).edge=(Prod.fst x32).edge)/\(((clrs x1 x7).time=(Prod.fst x32).time)/\(((clrs x1 x7).node=(Prod.fst x32).node)/\True)))))))))))))))))))/\(((x1.kind=(Prod.snd x32).kind)/\((0=(Prod.snd x32).call)/\((0=(Prod.snd x32).inc)/\((0=(Prod.snd x32).oth)/\((0=(Prod.snd x32).urg)/\((ByteArray.empty=(Prod.snd x32).code)/\((True/\(0=0/\((Prod.snd x32).nodes.length=(0:Nat))))/\((0=(Prod.snd x32).dist)/\((0=(Prod.snd x32).cen)/\((0=(Prod.snd x32).ep)/\((0=(Prod.snd x32).tick)/\((0=(Prod.snd x32).su)/\((0=(Prod.snd x32).sq)/\((0=(Prod.snd x32).ss)/\((0=(Prod.snd x32).sn)/\((0=(Prod.snd x32).se)/\((0=(Prod.snd x32).edge)/\((0=(Prod.snd x32).time)/\((0=(Prod.snd x32).node)/\True)))))))))))))))))))/\True))/\((((RLe (Prod.fst x32).nodes.length (clrs x1 x7).nodes.length)/\(RowsEq [.int .i64] (Prod.fst x32).nodes.length (encL encI (clrs x1 x7).nodes) (encL encI (Prod.fst x32).nodes)))/\(((Prod.snd x32).nodes.length=(0:Nat))/\True))/\((decide (Prod.fst x32=Prod.snd x32)=vC x1)/\True))))))))/\((decide (x1.kind=(3:Int))=false)->(∃ x34:Cmd × Cmd,(((Prod.fst x34).nodes.length<=(1000000:Nat))/\(((((clrs x1 x7).kind=(Prod.fst x34).kind)/\(((clrs x1 x7).call=(Prod.fst x34).call)/\(((clrs x1 x7).inc=(Prod.fst x34).inc)/\(((clrs x1 x7).oth=(Prod.fst x34).oth)/\(((clrs x1 x7).urg=(Prod.fst x34).urg)/\(((clrs x1 x7).code=(Prod.fst x34).code)/\((0=0/\((clrs x1 x7).nodes.length=(Prod.fst x34).nodes.length))/\(((clrs x1 x7).dist=(Prod.fst x34).dist)/\(((clrs x1 x7).cen=(Prod.fst x34).cen)/\(((clrs x1 x7).ep=(Prod.fst x34).ep)/\(((clrs x1 x7).tick=(Prod.fst x34).tick)/\(((clrs x1 x7).su=(Prod.fst x34).su)/\(((clrs x1 x7).sq=(Prod.fst x34).sq)/\(((clrs x1 x7).ss=(Prod.fst x34).ss)/\(((clrs x1 x7).sn=(Prod.fst x34).sn)/\(((clrs x1 x7).se=(Prod.fst x34).se)/\(((clrs x1 x7).edge=(Prod.fst x34).edge)/\(((clrs x1 x7).time=(Prod.fst x34).time)/\(((clrs x1 x7).node=(Prod.fst x34).node)/\True)))))))))))))))))))/\(((x1.kind=(Prod.snd x34).kind)/\((0=(Prod.snd x34).call)/\((0=(Prod.snd x34).inc)/\((0=(Prod.snd x34).oth)/\((0=(Prod.snd x34).urg)/\((ByteArray.empty=(Prod.snd x34).code)/\((True/\(0=0/\((Prod.snd x34).nodes.length=(0:Nat))))/\((0=(Prod.snd x34).dist)/\((0=(Prod.snd x34).cen)/\((0=(Prod.snd x34).ep)/\((0=(Prod.snd x34).tick)/\((0=(Prod.snd x34).su)/\((0=(Prod.snd x34).sq)/\((0=(Prod.snd x34).ss)/\((0=(Prod.snd x34).sn)/\((0=(Prod.snd x34).se)/\((0=(Prod.snd x34).edge)/\((0=(Prod.snd x34).time)/\((0=(Prod.snd x34).node)/\True)))))))))))))))))))/\True))/\((((RLe (Prod.fst x34).nodes.length (clrs x1 x7).nodes.length)/\(RowsEq [.int .i64] (Prod.fst x34).nodes.length (encL encI (clrs x1 x7).nodes) (encL encI (Prod.fst x34).nodes)))/\(((Prod.snd x34).nodes.length=(0:Nat))/\True))/\((decide (Prod.fst x34=Prod.snd x34)=vC x1)/\True))))))))))))))))))))))=(Keeps cfg1 Tryd.f12 vdC vdI) by kernel_rfl) (fun x1=>fun h2=>⟨(Cmd.kind x1),
 trivial,
⟨rfl,trivial⟩,trivial,
fun h4=>⟨(by(try dsimp only at *);exact vd_k h4),trivial⟩,
fun h5=>⟨((0:Nat)),
⟨⟨(by(try dsimp only at *);omega),
(by(try dsimp only at *);grind),
(by
       exact fun j hj=>absurd hj (Nat.not_lt_zero j))⟩,
⟨⟨rfl,rfl⟩,
⟨rfl,rfl⟩,
⟨rfl,rfl⟩,rfl,
(by(try dsimp only at *);omega),
⟨rfl,rfl,rfl,rfl,rfl,rfl,
⟨rfl,rfl⟩,rfl,rfl,rfl,rfl,rfl,rfl,rfl,rfl,rfl,rfl,rfl,rfl,trivial⟩,rfl,rfl,rfl,rfl,rfl,
⟨rfl,rfl,rfl,rfl,rfl,rfl,
⟨rfl,rfl⟩,rfl,rfl,rfl,rfl,rfl,rfl,rfl,rfl,rfl,rfl,rfl,rfl,trivial⟩,trivial⟩,
⟨rfl,rfl,rfl,rfl,rfl,rfl,
⟨rfl,rfl⟩,rfl,rfl,rfl,rfl,rfl,rfl,rfl,rfl,rfl,rfl,rfl,rfl,trivial⟩,
⟨rl,rr⟩,
⟨(by(try dsimp only at *);rfl),
(by(try dsimp only at *);rfl),
(by(try dsimp only at *);rfl),
(by(try dsimp only at *);rfl),
(by(try dsimp only at *);rfl),
(by(try dsimp only at *);rfl),
⟨rfl,
(by(try dsimp only at *);rfl)⟩,
(by(try dsimp only at *);rfl),
(by(try dsimp only at *);rfl),
(by(try dsimp only at *);rfl),
(by(try dsimp only at *);rfl),
(by(try dsimp only at *);rfl),
(by(try dsimp only at *);rfl),
(by(try dsimp only at *);rfl),
(by(try dsimp only at *);rfl),
(by(try dsimp only at *);rfl),
(by(try dsimp only at *);rfl),
(by(try dsimp only at *);rfl),
(by(try dsimp only at *);rfl),trivial⟩,
⟨⟨(by(try dsimp only at *);exact Nat.le_refl _)⟩,
(by(try dsimp only at *);exact rr)⟩,
⟨rl,rr⟩,trivial⟩,
fun x7=>fun h8=>⟨fun g9=>have h9:=dT g9;⟨⟨(by(try dsimp only at *);omega),
(by(try dsimp only at *);omega)⟩,
(by(try dsimp only at *);omega),
fun g10=>have h10:=dT g10;⟨(Cmd.code x1),trivial,
⟨rfl,trivial⟩,trivial,
fun h12=>⟨(by(try dsimp only at *);exact vd_f4 h9 h10 h12),trivial⟩,
fun h13=>⟨⟨(by(try dsimp only at *);omega),
(by(try dsimp only at *);exact fs_lt h9)⟩,
(x7+(1:Nat)),
(by(try dsimp only at *);omega),
⟨(by(try dsimp only at *);omega),
(by(try dsimp only at *);grind),
(by(try dsimp only at *);exact vd_s4 h8.2.2 h10 h13)⟩,
⟨⟨rfl,rfl⟩,
⟨rfl,rfl⟩,
⟨rfl,rfl⟩,rfl,
(by(try dsimp only at *);omega),
⟨rfl,rfl,rfl,rfl,rfl,rfl,
⟨rfl,rfl⟩,rfl,rfl,rfl,rfl,rfl,rfl,rfl,rfl,rfl,rfl,rfl,rfl,trivial⟩,rfl,rfl,rfl,rfl,rfl,
⟨rfl,rfl,rfl,rfl,rfl,rfl,
⟨rfl,rfl⟩,rfl,rfl,rfl,rfl,rfl,rfl,rfl,rfl,rfl,rfl,rfl,rfl,trivial⟩,trivial⟩,
⟨rfl,rfl,rfl,rfl,rfl,rfl,
⟨rfl,rfl⟩,rfl,rfl,rfl,rfl,rfl,rfl,rfl,rfl,rfl,rfl,rfl,rfl,trivial⟩,
⟨rl,rr⟩,
⟨(by(try dsimp only at *);(rw[clrs_4 h9 h10])),
(by(try dsimp only at *);(rw[clrs_4 h9 h10])),
(by(try dsimp only at *);(rw[clrs_4 h9 h10])),
(by(try dsimp only at *);(rw[clrs_4 h9 h10])),
(by(try dsimp only at *);(rw[clrs_4 h9 h10])),
(by(try dsimp only at *);(rw[clrs_4 h9 h10];rfl)),
⟨rfl,
(by(try dsimp only at *);(rw[clrs_4 h9 h10]))⟩,
(by(try dsimp only at *);(rw[clrs_4 h9 h10])),
(by(try dsimp only at *);(rw[clrs_4 h9 h10])),
(by(try dsimp only at *);(rw[clrs_4 h9 h10])),
(by(try dsimp only at *);(rw[clrs_4 h9 h10])),
(by(try dsimp only at *);(rw[clrs_4 h9 h10])),
(by(try dsimp only at *);(rw[clrs_4 h9 h10])),
(by(try dsimp only at *);(rw[clrs_4 h9 h10])),
(by(try dsimp only at *);(rw[clrs_4 h9 h10])),
(by(try dsimp only at *);(rw[clrs_4 h9 h10])),
(by(try dsimp only at *);(rw[clrs_4 h9 h10])),
(by(try dsimp only at *);(rw[clrs_4 h9 h10])),
(by(try dsimp only at *);(rw[clrs_4 h9 h10])),trivial⟩,
⟨⟨(by(try dsimp only at *);(rw[clrs_4 h9 h10];exact Nat.le_refl _))⟩,
(by(try dsimp only at *);(rw[clrs_4 h9 h10];exact rr))⟩,
⟨rl,rr⟩,trivial⟩⟩,
fun g15=>have h15:=dF g15;⟨fun g16=>have h16:=dT g16;⟨(Cmd.nodes x1),trivial,
⟨⟨rfl,rfl⟩,trivial⟩,
⟨⟨rl,rr⟩,trivial⟩,
fun h18=>⟨(by(try dsimp only at *);exact vd_f5 h9 h15 h16 h18),trivial⟩,
fun h19=>⟨⟨(by(try dsimp only at *);omega),
(by(try dsimp only at *);exact fs_lt h9)⟩,
(x7+(1:Nat)),
(by(try dsimp only at *);omega),
⟨(by(try dsimp only at *);omega),
(by(try dsimp only at *);grind),
(by(try dsimp only at *);exact vd_s5 h8.2.2 h15 h16 h19)⟩,
⟨⟨rfl,rfl⟩,
⟨rfl,rfl⟩,
⟨rfl,rfl⟩,rfl,
(by(try dsimp only at *);omega),
⟨rfl,rfl,rfl,rfl,rfl,rfl,
⟨rfl,rfl⟩,rfl,rfl,rfl,rfl,rfl,rfl,rfl,rfl,rfl,rfl,rfl,rfl,trivial⟩,rfl,rfl,rfl,rfl,rfl,
⟨rfl,rfl,rfl,rfl,rfl,rfl,
⟨rfl,rfl⟩,rfl,rfl,rfl,rfl,rfl,rfl,rfl,rfl,rfl,rfl,rfl,rfl,trivial⟩,trivial⟩,
⟨rfl,rfl,rfl,rfl,rfl,rfl,
⟨rfl,rfl⟩,rfl,rfl,rfl,rfl,rfl,rfl,rfl,rfl,rfl,rfl,rfl,rfl,trivial⟩,
⟨rl,rr⟩,
⟨(by(try dsimp only at *);(rw[clrs_5 h9 h16])),
(by(try dsimp only at *);(rw[clrs_5 h9 h16])),
(by(try dsimp only at *);(rw[clrs_5 h9 h16])),
(by(try dsimp only at *);(rw[clrs_5 h9 h16])),
(by(try dsimp only at *);(rw[clrs_5 h9 h16])),
(by(try dsimp only at *);(rw[clrs_5 h9 h16])),
⟨trivial,rfl,
(by(try dsimp only at *);(rw[clrs_5 h9 h16];rfl))⟩,
(by(try dsimp only at *);(rw[clrs_5 h9 h16])),
(by(try dsimp only at *);(rw[clrs_5 h9 h16])),
(by(try dsimp only at *);(rw[clrs_5 h9 h16])),
(by(try dsimp only at *);(rw[clrs_5 h9 h16])),
(by(try dsimp only at *);(rw[clrs_5 h9 h16])),
(by(try dsimp only at *);(rw[clrs_5 h9 h16])),
(by(try dsimp only at *);(rw[clrs_5 h9 h16])),
(by(try dsimp only at *);(rw[clrs_5 h9 h16])),
(by(try dsimp only at *);(rw[clrs_5 h9 h16])),
(by(try dsimp only at *);(rw[clrs_5 h9 h16])),
(by(try dsimp only at *);(rw[clrs_5 h9 h16])),
(by(try dsimp only at *);(rw[clrs_5 h9 h16])),trivial⟩,
(by(try dsimp only at *);(rw[clrs_5 h9 h16];rfl)),
⟨rl,rr⟩,trivial⟩⟩,
fun g21=>have h21:=dF g21;⟨((x1,List.getD (fsC (Cmd.kind x1)) ((0:Nat)+Int.toNat (↑x7:Int)) default)),trivial,
⟨⟨rfl,rfl,rfl,rfl,rfl,rfl,
⟨rfl,rfl⟩,rfl,rfl,rfl,rfl,rfl,rfl,rfl,rfl,rfl,rfl,rfl,rfl,trivial⟩,rfl,trivial⟩,
⟨⟨rl,rr⟩,trivial⟩,
((List.getD (fsC (Cmd.kind x1)) ((0:Nat)+Int.toNat (↑x7:Int)) default,numF x1 (List.getD (fsC (Cmd.kind x1)) ((0:Nat)+Int.toNat (↑x7:Int)) default))),trivial,
⟨rfl,rfl,trivial⟩,trivial,
fun h24=>⟨(by(try dsimp only at *);exact vd_fn h9 h15 h21 h24),trivial⟩,
fun h25=>⟨((clrs x1 x7,List.getD (fsC (Cmd.kind x1)) ((0:Nat)+Int.toNat (↑x7:Int)) default,(0:Int))),trivial,
⟨⟨rfl,rfl⟩,rfl,rfl,trivial⟩,
⟨⟨rfl,rfl,rfl,rfl,rfl,rfl,
⟨rfl,rfl⟩,rfl,rfl,rfl,rfl,rfl,rfl,rfl,rfl,rfl,rfl,rfl,rfl,trivial⟩,
⟨rl,rr⟩,trivial⟩,
⟨(by(try dsimp only at *);omega),
(by(try dsimp only at *);exact fs_lt h9)⟩,
(x7+(1:Nat)),
(by(try dsimp only at *);omega),
⟨(by(try dsimp only at *);omega),
(by(try dsimp only at *);grind),
(by(try dsimp only at *);exact vd_sn h8.2.2 h15 h21 h25)⟩,
⟨⟨rfl,rfl⟩,
⟨rfl,rfl⟩,
⟨rfl,rfl⟩,rfl,
(by(try dsimp only at *);omega),
⟨rfl,rfl,rfl,rfl,rfl,rfl,
⟨rfl,rfl⟩,rfl,rfl,rfl,rfl,rfl,rfl,rfl,rfl,rfl,rfl,rfl,rfl,trivial⟩,rfl,rfl,rfl,rfl,rfl,
⟨rfl,rfl,rfl,rfl,rfl,rfl,
⟨rfl,rfl⟩,rfl,rfl,rfl,rfl,rfl,rfl,rfl,rfl,rfl,rfl,rfl,rfl,trivial⟩,trivial⟩,
⟨rfl,rfl,rfl,rfl,rfl,rfl,
⟨rfl,rfl⟩,rfl,rfl,rfl,rfl,rfl,rfl,rfl,rfl,rfl,rfl,rfl,rfl,trivial⟩,
⟨rl,rr⟩,
⟨(by(try dsimp only at *);(rw[clrs_n h9 h15 h21];rfl)),
(by(try dsimp only at *);(rw[clrs_n h9 h15 h21];rfl)),
(by(try dsimp only at *);(rw[clrs_n h9 h15 h21];rfl)),
(by(try dsimp only at *);(rw[clrs_n h9 h15 h21];rfl)),
(by(try dsimp only at *);(rw[clrs_n h9 h15 h21];rfl)),
(by(try dsimp only at *);(rw[clrs_n h9 h15 h21];rfl)),
⟨rfl,
(by(try dsimp only at *);(rw[clrs_n h9 h15 h21];rfl))⟩,
(by(try dsimp only at *);(rw[clrs_n h9 h15 h21];rfl)),
(by(try dsimp only at *);(rw[clrs_n h9 h15 h21];rfl)),
(by(try dsimp only at *);(rw[clrs_n h9 h15 h21];rfl)),
(by(try dsimp only at *);(rw[clrs_n h9 h15 h21];rfl)),
(by(try dsimp only at *);(rw[clrs_n h9 h15 h21];rfl)),
(by(try dsimp only at *);(rw[clrs_n h9 h15 h21];rfl)),
(by(try dsimp only at *);(rw[clrs_n h9 h15 h21];rfl)),
(by(try dsimp only at *);(rw[clrs_n h9 h15 h21];rfl)),
(by(try dsimp only at *);(rw[clrs_n h9 h15 h21];rfl)),
(by(try dsimp only at *);(rw[clrs_n h9 h15 h21];rfl)),
(by(try dsimp only at *);(rw[clrs_n h9 h15 h21];rfl)),
(by(try dsimp only at *);(rw[clrs_n h9 h15 h21];rfl)),trivial⟩,
⟨⟨(by(try dsimp only at *);(rw[clrs_n h9 h15 h21];exact Nat.le_refl _))⟩,
(by(try dsimp only at *);(rw[clrs_n h9 h15 h21];exact rr))⟩,
⟨rl,rr⟩,trivial⟩⟩⟩⟩,
fun g28=>have h28:=dF g28;⟨fun g29=>have h29:=dT g29;⟨fun g30=>have h30:=dT g30;⟨(by(try dsimp only at *);exact vd_m h29 h30),trivial⟩,
fun g31=>have h31:=dF g31;⟨((clrs x1 x7,onlyK (Cmd.kind x1))),
(by(try dsimp only at *);exact Nat.le_trans (clrs_len _ _) h2),
⟨⟨rfl,rfl,rfl,rfl,rfl,rfl,
⟨rfl,rfl⟩,rfl,rfl,rfl,rfl,rfl,rfl,rfl,rfl,rfl,rfl,rfl,rfl,trivial⟩,
⟨(by(try dsimp only at *);rfl),
(by(try dsimp only at *);rfl),
(by(try dsimp only at *);rfl),
(by(try dsimp only at *);rfl),
(by(try dsimp only at *);rfl),
(by(try dsimp only at *);rfl),
⟨trivial,rfl,
(by(try dsimp only at *);rfl)⟩,
(by(try dsimp only at *);rfl),
(by(try dsimp only at *);rfl),
(by(try dsimp only at *);rfl),
(by(try dsimp only at *);rfl),
(by(try dsimp only at *);rfl),
(by(try dsimp only at *);rfl),
(by(try dsimp only at *);rfl),
(by(try dsimp only at *);rfl),
(by(try dsimp only at *);rfl),
(by(try dsimp only at *);rfl),
(by(try dsimp only at *);rfl),
(by(try dsimp only at *);rfl),trivial⟩,trivial⟩,
⟨⟨rl,rr⟩,
(by(try dsimp only at *);rfl),trivial⟩,
(by(try dsimp only at *);exact vd_t h8 h28 (by omega)),trivial⟩⟩,
fun g33=>have h33:=dF g33;⟨((clrs x1 x7,onlyK (Cmd.kind x1))),
(by(try dsimp only at *);exact Nat.le_trans (clrs_len _ _) h2),
⟨⟨rfl,rfl,rfl,rfl,rfl,rfl,
⟨rfl,rfl⟩,rfl,rfl,rfl,rfl,rfl,rfl,rfl,rfl,rfl,rfl,rfl,rfl,trivial⟩,
⟨(by(try dsimp only at *);rfl),
(by(try dsimp only at *);rfl),
(by(try dsimp only at *);rfl),
(by(try dsimp only at *);rfl),
(by(try dsimp only at *);rfl),
(by(try dsimp only at *);rfl),
⟨trivial,rfl,
(by(try dsimp only at *);rfl)⟩,
(by(try dsimp only at *);rfl),
(by(try dsimp only at *);rfl),
(by(try dsimp only at *);rfl),
(by(try dsimp only at *);rfl),
(by(try dsimp only at *);rfl),
(by(try dsimp only at *);rfl),
(by(try dsimp only at *);rfl),
(by(try dsimp only at *);rfl),
(by(try dsimp only at *);rfl),
(by(try dsimp only at *);rfl),
(by(try dsimp only at *);rfl),
(by(try dsimp only at *);rfl),trivial⟩,trivial⟩,
⟨⟨rl,rr⟩,
(by(try dsimp only at *);rfl),trivial⟩,
(by(try dsimp only at *);exact vd_t h8 h28 (by omega)),trivial⟩⟩⟩⟩⟩)
theorem vd_good:Good Tryd.prog 12 vdC/\FnOk Tryd.prog 12:=good_of tok con1 (fn:=Tryd.f12) rfl (by decide+kernel) (fun _=>rfl) vd_keeps
end Go.Sym