import Derived.Test.YtcghhlodddpmaaaDoorX8
import Derived.Test.YtcghhlodddpmaaaDoorLM8
import Derived.Test.YtcghhlodddpmaaaDoorXD
namespace Go.Sym
set_option linter.unusedVariables false
set_option linter.unusedSimpArgs false
open Go.Proofs
set_option maxRecDepth 100000
set_option maxHeartbeats 8000000
def lw9:CT:=⟨List Int × List Int,fun x=>isB x.2,fun x=>[.sl 100001 0 x.1.length,.sl 100002 0 x.2.length],fun x=>[(100001,.rows .bor kN x.1.length (encL encI x.1)),(100002,.rows .bor kB x.2.length (encL encI x.2))],fun _=>.b true,fun _=>[]⟩
def nM (x:List Int × List Int):Msg:={ k:=1,body:=x.2 }
def nC (x:List Int × List Int):Cmd:={ kind:=2,call:=1,urg:=1,code:=⟨#[120]⟩,nodes:=x.1 }
structure S9 where
 l:List Int
 i:Nat
def s9 (s:S9):S9:=⟨s.l.set s.i (IntKind.u8.wrap (s.l.getD s.i default+1)),s.i+1⟩
theorem nc_in {c:Cmd} (hk:c.kind=2):inB (byR c):=by
 by_cases hv:rightF c=true
 ·have hv':(!rightF c)=false:=by rw[hv];rfl
  have h1:=pu_l hv' (.inr hk)
  have h2:=pu_2 hv' hk
  refine⟨?_,?_⟩
  ·unfold byR
   rw[if_pos (pu_v hv')]
   exact byC_isB
  ·rw[<- h2]
   obtain⟨a,b,c,d,e⟩:=h1
   simp only[List.length_append]
   omega
 ·have:(byR c).length=0:=pu_n (by simpa using hv)
  have e:byR c=[]:=List.eq_nil_of_length_eq_zero this
  rw[e]
  exact⟨fun b hb=>(by cases hb),Nat.zero_le _⟩
def cfgL9:Cfg:=⟨T,[50,56,86],[(10,.one (yesC wkC)),(26,.one emC),(21,.one dmCt),(15,.one puC),(18,.one dcC),(13,.one rgC),(19,.one eqCt)],noInv,60,{}⟩
theorem conL9:ConOk Tryd.prog cfgL9:=ConL.ok (.cons (ConL.one wk_good) (.cons (ConL.one em_good) (.cons (ConL.one dm_good) (.cons (ConL.one pu_good) (.cons (ConL.one dc_good) (.cons (ConL.one rg_good) (.cons (ConL.one sm_good) .nil)))))))
def l9I (x:List Int × List Int) (id:Nat):Option Inv:=match id with
 | 0 => some { X := S9, ok := fun s => s.l.length = (mR (nM x)).length /\ s.i <= s.l.length,
               fr:=fun s=>[(0,.sl 100001 0 x.1.length),(1,.sl 100002 0 x.2.length),(5,.sl 331 0 x.2.length),(6,.sl 332 0 s.l.length),(7,.p 333 0 0),(8,.i .i64 (dmE (mR (nM x)))),(42,.i .i64 s.l.length),(43,.i .i64 s.i)],
               hp:=fun s=>[(100001,.rows .bor kN x.1.length (encL encI x.1)),(100002,.rows .bor kB x.2.length (encL encI x.2)),(331,.rows .own kB x.2.length (encL encI x.2)),(332,.rows .own kB s.l.length (encL encI s.l)),(333,.one .own (ml (dmC (mR (nM x))) 334)),mO 334 (dmC (mR (nM x)))],
               me:=fun s=>s.l.length-s.i }
 | 2 => some { X := S9, ok := fun s => s.l.length = (byR (nC x)).length /\ s.i <= s.l.length,
               fr:=fun s=>[(10,.p 341 0 0),(11,.sl 342 0 s.l.length),(12,.p 343 0 0),(13,.i .i64 (decE (byR (nC x)))),(78,.i .i64 s.l.length),(79,.i .i64 s.i)],
               hp:=fun s=>[(100001,.rows .bor kN x.1.length (encL encI x.1)),(341,.one .own (cl (nC x) 100001)),(342,.rows .own kB s.l.length (encL encI s.l)),(343,.one .own (cl (decC (byR (nC x))) 344)),nO 344 (decC (byR (nC x)))],
               me:=fun s=>s.l.length-s.i }
 |_=>none
theorem nm_v {x:List Int × List Int} (h:¬ 200<(x.2.length:Int)):vM (nM x)=true:=by
 unfold vM cntP dskP nM
 have:decide ((x.2.length:Int)<=8100)=true:=decide_eq_true (by omega)
 simp only[this]
 rfl
theorem nm_d {x:List Int × List Int} (h2:isB x.2) (h:¬ 200<(x.2.length:Int)):dmC (mR (nM x))=nM x/\dmE (mR (nM x))=0:=mR_y (m:=nM x) h2 (nm_v h)
theorem n_ar {l:List Int} {k:Nat}:RowsEq kB k (appRows 0 (litRows []) 0 (encL encI l)) (encL encI l):=by
 have e:appRows 0 (litRows []) 0 (encL encI l)=encL encI l:=by funext i j;simp[appRows]
 rw[e]
 exact rr
theorem n_i {s:S9} {k:Nat} (hk:k<=1000000) (h:s.l.length=k/\s.i<=s.l.length):(s.i:Int)+1<=9223372036854775807:=by omega
theorem n_ok {s:S9} {k:Nat} (h:s.l.length=k/\s.i<=s.l.length) (h1:(s.i:Int)<s.l.length):(s9 s).l.length=k/\(s9 s).i<=(s9 s).l.length:=by
 have e:(s9 s).l.length=s.l.length:=List.length_set
 rw[e]
 exact⟨h.1,(by show s.i+1<=_;omega)⟩
theorem n_le {s:S9}:s.l.length=(s9 s).l.length:=List.length_set.symm
theorem n_me {s:S9} (h1:(s.i:Int)<s.l.length):(s9 s).l.length-(s9 s).i<s.l.length-s.i:=by
 rw[<- n_le]
 show s.l.length-(s.i+1)<_
 omega
theorem n_r {s:S9} {k:Nat} (h1:(s.i:Int)<s.l.length):RowsEq kB k (setRow (encL encI s.l) (0+(s.i:Int).toNat) 0 [D.i (IntKind.u8.wrap (s.l.getD (0+(s.i:Int).toNat) default+1))]) (encL encI (s9 s).l):=by
 rw[Nat.zero_add,show(s.i:Int).toNat=s.i from rfl]
 exact rowsEq_set (by omega) ⟨rfl,trivial⟩
theorem n_q {x:List Int × List Int} {p:Prop} (h2:isB x.2) (h:¬ 200<(x.2.length:Int)) (h3:(!((strOf (dmC (mR (nM x))).body.length fun r=>encL encI (dmC (mR (nM x))).body (0+r)).toList==(strOf x.2.length fun r=>encL encI x.2 (0+r)).toList))=true):p:=by
 rw[(nm_d h2 h).1,show(nM x).body=x.2 from rfl,beq_self_eq_true]at h3
 cases h3
theorem dec_nil:decE []=11:=by rfl
theorem nc_d {c:Cmd} (hk:c.kind=2):(rightF c=true/\decC (byR c)=c/\decE (byR c)=0)∨(rightF c=false/\decE (byR c)=11):=by
 by_cases hv:rightF c=true
 ·have hv':vC c=true:=by rw[valid_right];exact hv
  have h1:=nc_in hk
  have e:byR c=byC c++[]:=by unfold byR;rw[if_pos hv',List.append_nil]
  rw[e]at h1 ⊢
  have:=dec_app hv' [] h1
  exact .inl ⟨hv,this.1,this.2⟩
 ·refine .inr ⟨by simpa using hv,?_⟩
  have:(byR c).length=0:=pu_n (by simpa using hv)
  rw[List.eq_nil_of_length_eq_zero this]
  exact dec_nil
theorem n_y {c:Cmd} (hk:c.kind=2) (h:¬ decE (byR c)≠0):decide (decC (byR c)=c)=true:=by
 rcases nc_d hk with h1|h1
 ·exact decide_eq_true h1.2.1
 ·rw[h1.2]at h;exact absurd (by decide) h
theorem n_f {c:Cmd} {p:Prop} (hk:c.kind=2) (h:(decide (decE (byR c)=0)==rightF c)=false):p:=by
 rcases nc_d hk with h1|h1
 ·rw[h1.1,h1.2.2]at h;cases h
 ·rw[h1.1,h1.2]at h;cases h
theorem n_e {x:List Int × List Int} {p:Prop} (h2:isB x.2) (h:¬ 200<(x.2.length:Int)) (h3:dmE (mR (nM x))≠0):p:=absurd (nm_d h2 h).2 h3
theorem nc_c {x:List Int × List Int}:(nC x).code.size<=1000000:=by show(1:Nat)<=1000000;decide
theorem nc_n {x:List Int × List Int} (h:¬ 60<(x.1.length:Int)):(nC x).nodes.length<=1000000:=by show x.1.length<=1000000;omega
set_option maxRecDepth 100000 in
theorem l9_keeps:Keeps cfgL9 Tryd.f9 lw9 l9I:=Eq.mp (show((∀ x1:List Int × List Int,((isB (Prod.snd x1))->(∃ x3:Unit,(True/\(True/\(True/\(((decide (60<(↑(Prod.fst x1).length:Int))=false)->(((decide (200<(↑(Prod.snd x1).length:Int))=false)->(((decide ((↑(Prod.snd x1).length:Int)=0)=true)->(true=true/\True))/\((decide ((↑(Prod.snd x1).length:Int)=0)=false)->(True/\((0=0/\(((0:Nat)<=(0:Nat))/\(((0:Nat)+(Prod.snd x1).length<=(Prod.snd x1).length)/\((0:Nat)+(Prod.snd x1).length<=(1073741824:Nat)))))/\(∃ x8:Msg,(True/\(((1=x8.k/\(0=x8.a/\(0=x8.p/\(0=x8.q/\(0=x8.b/\(0=x8.e/\((0=0/\((0:Nat)+(Prod.snd x1).length=x8.body.length))/\True)))))))/\True)/\((((RLe x8.body.length ((0:Nat)+(Prod.snd x1).length))/\(RowsEq (.int IntKind.u8::[]) x8.body.length (appRows 0 (litRows (@List.nil (List D))) 0 (encL encI (Prod.snd x1))) (encL encI x8.body)))/\True)/\(∃ x9:List Int,((inB x9)/\(((0=0/\((mR x8).length=x9.length))/\True)/\((((RLe x9.length (mR x8).length)/\(RowsEq (.int IntKind.u8::[]) x9.length (encL encI (mR x8)) (encL encI x9)))/\True)/\(∃ x10:S9,((((x10.l.length=(mR (nM x1)).length)/\(x10.i<=x10.l.length))/\(((0=0/\((Prod.fst x1).length=(Prod.fst x1).length))/\((0=0/\((Prod.snd x1).length=(Prod.snd x1).length))/\((0=0/\((0:Nat)+(Prod.snd x1).length=(Prod.snd x1).length))/\((0=0/\((mR x8).length=x10.l.length))/\((0=0/\0=0)/\((dmE x9=dmE (mR (nM x1)))/\(((↑(mR x8).length:Int)=(x10.l.length:Int))/\((0=(x10.i:Int))/\((dmE x9=dmE x9)/\((0=0/\((Prod.snd x1).length=(Prod.snd x1).length))/\((decide ((↑(Prod.snd x1).length:Int)=0)=decide ((↑(Prod.snd x1).length:Int)=0))/\((decide ((↑(Prod.snd x1).length:Int)=0)=decide ((↑(Prod.snd x1).length:Int)=0))/\(((↑(Prod.snd x1).length:Int)=(↑(Prod.snd x1).length:Int))/\((0=0/\((Prod.snd x1).length=(Prod.snd x1).length))/\((decide (200<(↑(Prod.snd x1).length:Int))=decide (200<(↑(Prod.snd x1).length:Int)))/\((decide (200<(↑(Prod.snd x1).length:Int))=decide (200<(↑(Prod.snd x1).length:Int)))/\((decide (200<(↑(Prod.snd x1).length:Int))=decide (200<(↑(Prod.snd x1).length:Int)))/\(((↑(Prod.snd x1).length:Int)=(↑(Prod.snd x1).length:Int))/\((0=0/\((Prod.snd x1).length=(Prod.snd x1).length))/\((decide (60<(↑(Prod.fst x1).length:Int))=decide (60<(↑(Prod.fst x1).length:Int)))/\((decide (60<(↑(Prod.fst x1).length:Int))=decide (60<(↑(Prod.fst x1).length:Int)))/\(((↑(Prod.fst x1).length:Int)=(↑(Prod.fst x1).length:Int))/\((0=0/\((Prod.fst x1).length=(Prod.fst x1).length))/\(false=false/\(true=true/\(false=false/\True))))))))))))))))))))))))))/\(((RLe (Prod.fst x1).length (Prod.fst x1).length)/\(RowsEq [.int .i64] (Prod.fst x1).length (encL encI (Prod.fst x1)) (encL encI (Prod.fst x1))))/\(((RLe (Prod.snd x1).length (Prod.snd x1).length)/\(RowsEq (.int IntKind.u8::[]) (Prod.snd x1).length (encL encI (Prod.snd x1)) (encL encI (Prod.snd x1))))/\(((RLe (Prod.snd x1).length ((0:Nat)+(Prod.snd x1).length))/\(RowsEq (.int IntKind.u8::[]) (Prod.snd x1).length (appRows 0 (litRows (@List.nil (List D))) 0 (encL encI (Prod.snd x1))) (encL encI (Prod.snd x1))))/\(((RLe x10.l.length (mR x8).length)/\(RowsEq (.int IntKind.u8::[]) x10.l.length (encL encI (mR x8)) (encL encI x10.l)))/\((((dmC x9).k=(dmC (mR (nM x1))).k)/\(((dmC x9).a=(dmC (mR (nM x1))).a)/\(((dmC x9).p=(dmC (mR (nM x1))).p)/\(((dmC x9).q=(dmC (mR (nM x1))).q)/\(((dmC x9).b=(dmC (mR (nM x1))).b)/\(((dmC x9).e=(dmC (mR (nM x1))).e)/\((0=0/\((dmC x9).body.length=(dmC (mR (nM x1))).body.length))/\True)))))))/\(((RLe (dmC (mR (nM x1))).body.length (dmC x9).body.length)/\(RowsEq (.int IntKind.u8::[]) (dmC (mR (nM x1))).body.length (encL encI (dmC x9).body) (encL encI (dmC (mR (nM x1))).body)))/\True))))))))/\(∀ x11:S9,((x11.l.length=(mR (nM x1)).length/\x11.i<=x11.l.length)->(((decide ((x11.i:Int)<(x11.l.length:Int))=true)->((((0:Int)<=(x11.i:Int))/\((x11.i:Int)<(x11.l.length:Int)))/\((0+Int.toNat (x11.i:Int)<x11.l.length)/\((((0:Int)<=(x11.i:Int))/\((x11.i:Int)<(x11.l.length:Int)))/\(((0+Int.toNat (x11.i:Int)<x11.l.length)/\(True/\True))/\((((-9223372036854775808:Int)<=(x11.i:Int)+1)/\((x11.i:Int)+1<=(9223372036854775807:Int)))/\(∃ x14:S9,((x14.l.length-x14.i<x11.l.length-x11.i)/\(((x14.l.length=(mR (nM x1)).length)/\(x14.i<=x14.l.length))/\(((0=0/\((Prod.fst x1).length=(Prod.fst x1).length))/\((0=0/\((Prod.snd x1).length=(Prod.snd x1).length))/\((0=0/\((Prod.snd x1).length=(Prod.snd x1).length))/\((0=0/\x11.l.length=x14.l.length)/\((0=0/\0=0)/\((dmE (mR (nM x1))=dmE (mR (nM x1)))/\(((x11.l.length:Int)=(x14.l.length:Int))/\(((x11.i:Int)+1=(x14.i:Int))/\((dmE x9=dmE x9)/\((0=0/\((Prod.snd x1).length=(Prod.snd x1).length))/\((decide ((↑(Prod.snd x1).length:Int)=0)=decide ((↑(Prod.snd x1).length:Int)=0))/\((decide ((↑(Prod.snd x1).length:Int)=0)=decide ((↑(Prod.snd x1).length:Int)=0))/\(((↑(Prod.snd x1).length:Int)=(↑(Prod.snd x1).length:Int))/\((0=0/\((Prod.snd x1).length=(Prod.snd x1).length))/\((decide (200<(↑(Prod.snd x1).length:Int))=decide (200<(↑(Prod.snd x1).length:Int)))/\((decide (200<(↑(Prod.snd x1).length:Int))=decide (200<(↑(Prod.snd x1).length:Int)))/\((decide (200<(↑(Prod.snd x1).length:Int))=decide (200<(↑(Prod.snd x1).length:Int)))/\(((↑(Prod.snd x1).length:Int)=(↑(Prod.snd x1).length:Int))/\((0=0/\((Prod.snd x1).length=(Prod.snd x1).length))/\((decide (60<(↑(Prod.fst x1).length:Int))=decide (60<(↑(Prod.fst x1).length:Int)))/\((decide (60<(↑(Prod.fst x1).length:Int))=decide (60<(↑(Prod.fst x1).length:Int)))/\(((↑(Prod.fst x1).length:Int)=(↑(Prod.fst x1).length:Int))/\((0=0/\((Prod.fst x1).length=(Prod.fst x1).length))/\(false=false/\(true=true/\(false=false/\True))))))))))))))))))))))))))/\(((RLe (Prod.fst x1).length (Prod.fst x1).length)/\(RowsEq [.int .i64] (Prod.fst x1).length (encL encI (Prod.fst x1)) (encL encI (Prod.fst x1))))/\(((RLe (Prod.snd x1).length (Prod.snd x1).length)/\(RowsEq (.int IntKind.u8::[]) (Prod.snd x1).length (encL encI (Prod.snd x1)) (encL encI (Prod.snd x1))))/\(((RLe (Prod.snd x1).length (Prod.snd x1).length)/\(RowsEq (.int IntKind.u8::[]) (Prod.snd x1).length (encL encI (Prod.snd x1)) (encL encI (Prod.snd x1))))/\(((RLe x14.l.length x11.l.length)/\(RowsEq (.int IntKind.u8::[]) x14.l.length (setRow (encL encI x11.l) (0+Int.toNat (x11.i:Int)) 0 (D.i (IntKind.wrap IntKind.u8 (x11.l.getD (0+Int.toNat (x11.i:Int)) default+1))::@List.nil D)) (encL encI x14.l)))/\((((dmC (mR (nM x1))).k=(dmC (mR (nM x1))).k)/\(((dmC (mR (nM x1))).a=(dmC (mR (nM x1))).a)/\(((dmC (mR (nM x1))).p=(dmC (mR (nM x1))).p)/\(((dmC (mR (nM x1))).q=(dmC (mR (nM x1))).q)/\(((dmC (mR (nM x1))).b=(dmC (mR (nM x1))).b)/\(((dmC (mR (nM x1))).e=(dmC (mR (nM x1))).e)/\((0=0/\((dmC (mR (nM x1))).body.length=(dmC (mR (nM x1))).body.length))/\True)))))))/\(((RLe (dmC (mR (nM x1))).body.length (dmC (mR (nM x1))).body.length)/\(RowsEq (.int IntKind.u8::[]) (dmC (mR (nM x1))).body.length (encL encI (dmC (mR (nM x1))).body) (encL encI (dmC (mR (nM x1))).body)))/\True))))))))))))))))/\((decide ((x11.i:Int)<(x11.l.length:Int))=false)->((((0:Int)<=(0:Int))/\(0<(↑(Prod.snd x1).length:Int)))/\((0+Int.toNat 0<(Prod.snd x1).length)/\((((0:Int)<=(0:Int))/\(0<(↑(Prod.snd x1).length:Int)))/\(((0+Int.toNat 0<(Prod.snd x1).length)/\(True/\True))/\(((decide (dmE (mR (nM x1))≠(0:Int))=false)->(((0:Nat)+(dmC (mR (nM x1))).body.length<=(dmC (mR (nM x1))).body.length)/\(((0:Nat)+(Prod.snd x1).length<=(Prod.snd x1).length)/\((((!ByteArray.toList (ByteArray.mk (List.toArray (List.map (fun(r:Nat)=>UInt8.ofNat (Int.toNat ((dmC (mR (nM x1))).body.getD ((0:Nat)+r) default))) (List.range (dmC (mR (nM x1))).body.length))))==ByteArray.toList (ByteArray.mk (List.toArray (List.map (fun(r:Nat)=>UInt8.ofNat (Int.toNat ((Prod.snd x1).getD ((0:Nat)+r) default))) (List.range (Prod.snd x1).length)))))=true)->(false=true/\True))/\(((!ByteArray.toList (ByteArray.mk (List.toArray (List.map (fun(r:Nat)=>UInt8.ofNat (Int.toNat ((dmC (mR (nM x1))).body.getD ((0:Nat)+r) default))) (List.range (dmC (mR (nM x1))).body.length))))==ByteArray.toList (ByteArray.mk (List.toArray (List.map (fun(r:Nat)=>UInt8.ofNat (Int.toNat ((Prod.snd x1).getD ((0:Nat)+r) default))) (List.range (Prod.snd x1).length)))))=false)->(∃ x19:Cmd,(((x19.nodes.length<=(1000000:Nat))/\(ByteArray.size x19.code<=(1000000:Nat)))/\(((2=x19.kind/\(1=x19.call/\(0=x19.inc/\(0=x19.oth/\(1=x19.urg/\(((ByteArray.mk (List.toArray ((120:UInt8)::@List.nil UInt8)))=x19.code)/\((0=0/\((Prod.fst x1).length=x19.nodes.length))/\(0=x19.dist/\(0=x19.cen/\(0=x19.ep/\(0=x19.tick/\(0=x19.su/\(0=x19.sq/\(0=x19.ss/\(0=x19.sn/\(0=x19.se/\(0=x19.edge/\(0=x19.time/\(0=x19.node/\True)))))))))))))))))))/\True)/\((((RLe x19.nodes.length (Prod.fst x1).length)/\(RI x19.nodes.length (Prod.fst x1) x19.nodes))/\True)/\(∃ x20:List Int,((inB x20)/\(((0=0/\((byR x19).length=x20.length))/\True)/\((((RLe x20.length (byR x19).length)/\(RowsEq (.int IntKind.u8::[]) x20.length (encL encI (byR x19)) (encL encI x20)))/\True)/\(∃ x21:S9,((((x21.l.length=(byR (nC x1)).length)/\(x21.i<=x21.l.length))/\(((0=0/\0=0)/\((0=0/\((byR x19).length=x21.l.length))/\((0=0/\0=0)/\((decE x20=decE (byR (nC x1)))/\(((↑(byR x19).length:Int)=(x21.l.length:Int))/\((0=(x21.i:Int))/\((decide (dmE (mR (nM x1))≠(0:Int))=decide (dmE (mR (nM x1))≠(0:Int)))/\((dmE (mR (nM x1))=dmE (mR (nM x1)))/\(((0+Int.toNat (0:Int)=0+Int.toNat (0:Int))/\0=0)/\((IntKind.wrap IntKind.u8 ((Prod.snd x1).getD (0+Int.toNat (0:Int)) default+1)=IntKind.wrap IntKind.u8 ((Prod.snd x1).getD (0+Int.toNat (0:Int)) default+1))/\(((Prod.snd x1).getD (0+Int.toNat (0:Int)) default=(Prod.snd x1).getD (0+Int.toNat (0:Int)) default)/\(((0+Int.toNat (0:Int)=0+Int.toNat (0:Int))/\0=0)/\((0=0/\((Prod.snd x1).length=(Prod.snd x1).length))/\((decide ((x11.i:Int)<(x11.l.length:Int))=decide ((x11.i:Int)<(x11.l.length:Int)))/\((0=0/\((Prod.fst x1).length=(Prod.fst x1).length))/\((0=0/\((Prod.snd x1).length=(Prod.snd x1).length))/\((0=0/\((Prod.snd x1).length=(Prod.snd x1).length))/\((0=0/\x11.l.length=x11.l.length)/\((0=0/\0=0)/\((dmE (mR (nM x1))=dmE (mR (nM x1)))/\(((x11.l.length:Int)=(x11.l.length:Int))/\(((x11.i:Int)=(x11.i:Int))/\((dmE x9=dmE x9)/\((0=0/\((Prod.snd x1).length=(Prod.snd x1).length))/\((decide ((↑(Prod.snd x1).length:Int)=0)=decide ((↑(Prod.snd x1).length:Int)=0))/\((decide ((↑(Prod.snd x1).length:Int)=0)=decide ((↑(Prod.snd x1).length:Int)=0))/\(((↑(Prod.snd x1).length:Int)=(↑(Prod.snd x1).length:Int))/\((0=0/\((Prod.snd x1).length=(Prod.snd x1).length))/\((decide (200<(↑(Prod.snd x1).length:Int))=decide (200<(↑(Prod.snd x1).length:Int)))/\((decide (200<(↑(Prod.snd x1).length:Int))=decide (200<(↑(Prod.snd x1).length:Int)))/\((decide (200<(↑(Prod.snd x1).length:Int))=decide (200<(↑(Prod.snd x1).length:Int)))/\(((↑(Prod.snd x1).length:Int)=(↑(Prod.snd x1).length:Int))/\((0=0/\((Prod.snd x1).length=(Prod.snd x1).length))/\((decide (60<(↑(Prod.fst x1).length:Int))=decide (60<(↑(Prod.fst x1).length:Int)))/\((decide (60<(↑(Prod.fst x1).length:Int))=decide (60<(↑(Prod.fst x1).length:Int)))/\(((↑(Prod.fst x1).length:Int)=(↑(Prod.fst x1).length:Int))/\((0=0/\((Prod.fst x1).length=(Prod.fst x1).length))/\(false=false/\(true=true/\(false=false/\True))))))))))))))))))))))))))))))))))))))))/\(((RLe (Prod.fst x1).length (Prod.fst x1).length)/\(RowsEq [.int .i64] (Prod.fst x1).length (encL encI (Prod.fst x1)) (encL encI (Prod.fst x1))))/\(((2=(nC x1).kind)/\((1=(nC x1).call)/\((0=(nC x1).inc)/\((0=(nC x1).oth)/\((1=(nC x1).urg)/\(((ByteArray.mk (List.toArray ((120:UInt8)::@List.nil UInt8)))=(nC x1).code)/\((0=0/\((Prod.fst x1).length=(nC x1).nodes.length))/\((0=(nC x1).dist)/\((0=(nC x1).cen)/\((0=(nC x1).ep)/\((0=(nC x1).tick)/\((0=(nC x1).su)/\((0=(nC x1).sq)/\((0=(nC x1).ss)/\((0=(nC x1).sn)/\((0=(nC x1).se)/\((0=(nC x1).edge)/\((0=(nC x1).time)/\((0=(nC x1).node)/\True)))))))))))))))))))/\(((RLe x21.l.length (byR x19).length)/\(RowsEq (.int IntKind.u8::[]) x21.l.length (encL encI (byR x19)) (encL encI x21.l)))/\((((decC x20).kind=(decC (byR (nC x1))).kind)/\(((decC x20).call=(decC (byR (nC x1))).call)/\(((decC x20).inc=(decC (byR (nC x1))).inc)/\(((decC x20).oth=(decC (byR (nC x1))).oth)/\(((decC x20).urg=(decC (byR (nC x1))).urg)/\(((decC x20).code=(decC (byR (nC x1))).code)/\((0=0/\((decC x20).nodes.length=(decC (byR (nC x1))).nodes.length))/\(((decC x20).dist=(decC (byR (nC x1))).dist)/\(((decC x20).cen=(decC (byR (nC x1))).cen)/\(((decC x20).ep=(decC (byR (nC x1))).ep)/\(((decC x20).tick=(decC (byR (nC x1))).tick)/\(((decC x20).su=(decC (byR (nC x1))).su)/\(((decC x20).sq=(decC (byR (nC x1))).sq)/\(((decC x20).ss=(decC (byR (nC x1))).ss)/\(((decC x20).sn=(decC (byR (nC x1))).sn)/\(((decC x20).se=(decC (byR (nC x1))).se)/\(((decC x20).edge=(decC (byR (nC x1))).edge)/\(((decC x20).time=(decC (byR (nC x1))).time)/\(((decC x20).node=(decC (byR (nC x1))).node)/\True)))))))))))))))))))/\(((RLe (decC (byR (nC x1))).nodes.length (decC x20).nodes.length)/\(RowsEq [.int .i64] (decC (byR (nC x1))).nodes.length (encL encI (decC x20).nodes) (encL encI (decC (byR (nC x1))).nodes)))/\(((RLe (Prod.snd x1).length (Prod.snd x1).length)/\(RowsEq (.int IntKind.u8::[]) (Prod.snd x1).length (setRow (encL encI (Prod.snd x1)) (0+Int.toNat (0:Int)) 0 (D.i (IntKind.wrap IntKind.u8 ((Prod.snd x1).getD (0+Int.toNat (0:Int)) default+1))::@List.nil D)) (setRow (encL encI (Prod.snd x1)) (0+Int.toNat (0:Int)) 0 (D.i (IntKind.wrap IntKind.u8 ((Prod.snd x1).getD (0+Int.toNat (0:Int)) default+1))::@List.nil D))))/\(((RLe (Prod.snd x1).length (Prod.snd x1).length)/\(RowsEq (.int IntKind.u8::[]) (Prod.snd x1).length (encL encI (Prod.snd x1)) (encL encI (Prod.snd x1))))/\(((RLe x11.l.length x11.l.length)/\(RowsEq (.int IntKind.u8::[]) x11.l.length (encL encI x11.l) (encL encI x11.l)))/\((((dmC (mR (nM x1))).k=(dmC (mR (nM x1))).k)/\(((dmC (mR (nM x1))).a=(dmC (mR (nM x1))).a)/\(((dmC (mR (nM x1))).p=(dmC (mR (nM x1))).p)/\(((dmC (mR (nM x1))).q=(dmC (mR (nM x1))).q)/\(((dmC (mR (nM x1))).b=(dmC (mR (nM x1))).b)/\(((dmC (mR (nM x1))).e=(dmC (mR (nM x1))).e)/\((0=0/\((dmC (mR (nM x1))).body.length=(dmC (mR (nM x1))).body.length))/\True)))))))/\(((RLe (dmC (mR (nM x1))).body.length (dmC (mR (nM x1))).body.length)/\(RowsEq (.int IntKind.u8::[]) (dmC (mR (nM x1))).body.length (encL encI (dmC (mR (nM x1))).body) (encL encI (dmC (mR (nM x1))).body)))/\True))))))))))))/\(∀ x22:S9,((x22.l.length=(byR (nC x1)).length/\x22.i<=x22.l.length)->(((decide ((x22.i:Int)<(x22.l.length:Int))=true)->((((0:Int)<=(x22.i:Int))/\((x22.i:Int)<(x22.l.length:Int)))/\((0+Int.toNat (x22.i:Int)<x22.l.length)/\((((0:Int)<=(x22.i:Int))/\((x22.i:Int)<(x22.l.length:Int)))/\(((0+Int.toNat (x22.i:Int)<x22.l.length)/\(True/\True))/\((((-9223372036854775808:Int)<=(x22.i:Int)+1)/\((x22.i:Int)+1<=(9223372036854775807:Int)))/\(∃ x25:S9,((x25.l.length-x25.i<x22.l.length-x22.i)/\(((x25.l.length=(byR (nC x1)).length)/\(x25.i<=x25.l.length))/\(((0=0/\0=0)/\((0=0/\x22.l.length=x25.l.length)/\((0=0/\0=0)/\((decE (byR (nC x1))=decE (byR (nC x1)))/\(((x22.l.length:Int)=(x25.l.length:Int))/\(((x22.i:Int)+1=(x25.i:Int))/\((decide (dmE (mR (nM x1))≠(0:Int))=decide (dmE (mR (nM x1))≠(0:Int)))/\((dmE (mR (nM x1))=dmE (mR (nM x1)))/\(((0+Int.toNat (0:Int)=0+Int.toNat (0:Int))/\0=0)/\((IntKind.wrap IntKind.u8 ((Prod.snd x1).getD (0+Int.toNat (0:Int)) default+1)=IntKind.wrap IntKind.u8 ((Prod.snd x1).getD (0+Int.toNat (0:Int)) default+1))/\(((Prod.snd x1).getD (0+Int.toNat (0:Int)) default=(Prod.snd x1).getD (0+Int.toNat (0:Int)) default)/\(((0+Int.toNat (0:Int)=0+Int.toNat (0:Int))/\0=0)/\((0=0/\((Prod.snd x1).length=(Prod.snd x1).length))/\((decide ((x11.i:Int)<(x11.l.length:Int))=decide ((x11.i:Int)<(x11.l.length:Int)))/\((0=0/\((Prod.fst x1).length=(Prod.fst x1).length))/\((0=0/\((Prod.snd x1).length=(Prod.snd x1).length))/\((0=0/\((Prod.snd x1).length=(Prod.snd x1).length))/\((0=0/\x11.l.length=x11.l.length)/\((0=0/\0=0)/\((dmE (mR (nM x1))=dmE (mR (nM x1)))/\(((x11.l.length:Int)=(x11.l.length:Int))/\(((x11.i:Int)=(x11.i:Int))/\((dmE x9=dmE x9)/\((0=0/\((Prod.snd x1).length=(Prod.snd x1).length))/\((decide ((↑(Prod.snd x1).length:Int)=0)=decide ((↑(Prod.snd x1).length:Int)=0))/\((decide ((↑(Prod.snd x1).length:Int)=0)=decide ((↑(Prod.snd x1).length:Int)=0))/\(((↑(Prod.snd x1).length:Int)=(↑(Prod.snd x1).length:Int))/\((0=0/\((Prod.snd x1).length=(Prod.snd x1).length))/\((decide (200<(↑(Prod.snd x1).length:Int))=decide (200<(↑(Prod.snd x1).length:Int)))/\((decide (200<(↑(Prod.snd x1).length:Int))=decide (200<(↑(Prod.snd x1).length:Int)))/\((decide (200<(↑(Prod.snd x1).length:Int))=decide (200<(↑(Prod.snd x1).length:Int)))/\(((↑(Prod.snd x1).length:Int)=(↑(Prod.snd x1).length:Int))/\((0=0/\((Prod.snd x1).length=(Prod.snd x1).length))/\((decide (60<(↑(Prod.fst x1).length:Int))=decide (60<(↑(Prod.fst x1).length:Int)))/\((decide (60<(↑(Prod.fst x1).length:Int))=decide (60<(↑(Prod.fst x1).length:Int)))/\(((↑(Prod.fst x1).length:Int)=(↑(Prod.fst x1).length:Int))/\((0=0/\((Prod.fst x1).length=(Prod.fst x1).length))/\(false=false/\(true=true/\(false=false/\True))))))))))))))))))))))))))))))))))))))))/\(((RLe (Prod.fst x1).length (Prod.fst x1).length)/\(RowsEq [.int .i64] (Prod.fst x1).length (encL encI (Prod.fst x1)) (encL encI (Prod.fst x1))))/\((((nC x1).kind=(nC x1).kind)/\(((nC x1).call=(nC x1).call)/\(((nC x1).inc=(nC x1).inc)/\(((nC x1).oth=(nC x1).oth)/\(((nC x1).urg=(nC x1).urg)/\(((nC x1).code=(nC x1).code)/\((0=0/\((nC x1).nodes.length=(nC x1).nodes.length))/\(((nC x1).dist=(nC x1).dist)/\(((nC x1).cen=(nC x1).cen)/\(((nC x1).ep=(nC x1).ep)/\(((nC x1).tick=(nC x1).tick)/\(((nC x1).su=(nC x1).su)/\(((nC x1).sq=(nC x1).sq)/\(((nC x1).ss=(nC x1).ss)/\(((nC x1).sn=(nC x1).sn)/\(((nC x1).se=(nC x1).se)/\(((nC x1).edge=(nC x1).edge)/\(((nC x1).time=(nC x1).time)/\(((nC x1).node=(nC x1).node)/\True)))))))))))))))))))/\(((RLe x25.l.length x22.l.length)/\(RowsEq (.int IntKind.u8::[]) x25.l.length (setRow (encL encI x22.l) (0+Int.toNat (x22.i:Int)) 0 (D.i (IntKind.wrap IntKind.u8 (x22.l.getD (0+Int.toNat (x22.i:Int)) default+1))::@List.nil D)) (encL encI x25.l)))/\((((decC (byR (nC x1))).kind=(decC (byR (nC x1))).kind)/\(((decC (byR (nC x1))).call=(decC (byR (nC x1))).call)/\(((decC (byR (nC x1))).inc=(decC (byR (nC x1))).inc)/\(((decC (byR (nC x1))).oth=(decC (byR (nC x1))).oth)/\(((decC (byR (nC x1))).urg=(decC (byR (nC x1))).urg)/\(((decC (byR (nC x1))).code=(decC (byR (nC x1))).code)/\((0=0/\((decC (byR (nC x1))).nodes.length=(decC (byR (nC x1))).nodes.length))/\(((decC (byR (nC x1))).dist=(decC (byR (nC x1))).dist)/\(((decC (byR (nC x1))).cen=(decC (byR (nC x1))).cen)/\(((decC (byR (nC x1))).ep=(decC (byR (nC x1))).ep)/\(((decC (byR (nC x1))).tick=(decC (byR (nC x1))).tick)/\(((decC (byR (nC x1))).su=(decC (byR (nC x1))).su)/\(((decC (byR (nC x1))).sq=(decC (byR (nC x1))).sq)/\(((decC (byR (nC x1))).ss=(decC (byR (nC x1))).ss)/\(((decC (byR (nC x1))).sn=(decC (byR (nC x1))).sn)/\(((decC (byR (nC x1))).se=(decC (byR (nC x1))).se)/\(((decC (byR (nC x1))).edge=(decC (byR (nC x1))).edge)/\(((decC (byR (nC x1))).time=(decC (byR (nC x1))).time)/\(((decC (byR (nC x1))).node=(decC (byR (nC x1))).node)/\True)))))))))))))))))))/\(((RLe (decC (byR (nC x1))).nodes.length (decC (byR (nC x1))).nodes.length)/\(RowsEq [.int .i64] (decC (byR (nC x1))).nodes.length (encL encI (decC (byR (nC x1))).nodes) (encL encI (decC (byR (nC x1))).nodes)))/\(((RLe (Prod.snd x1).length (Prod.snd x1).length)/\(RowsEq (.int IntKind.u8::[]) (Prod.snd x1).length (setRow (encL encI (Prod.snd x1)) (0+Int.toNat (0:Int)) 0 (D.i (IntKind.wrap IntKind.u8 ((Prod.snd x1).getD (0+Int.toNat (0:Int)) default+1))::@List.nil D)) (setRow (encL encI (Prod.snd x1)) (0+Int.toNat (0:Int)) 0 (D.i (IntKind.wrap IntKind.u8 ((Prod.snd x1).getD (0+Int.toNat (0:Int)) default+1))::@List.nil D))))/\(((RLe (Prod.snd x1).length (Prod.snd x1).length)/\(RowsEq (.int IntKind.u8::[]) (Prod.snd x1).length (encL encI (Prod.snd x1)) (encL encI (Prod.snd x1))))/\(((RLe x11.l.length x11.l.length)/\(RowsEq (.int IntKind.u8::[]) x11.l.length (encL encI x11.l) (encL encI x11.l)))/\((((dmC (mR (nM x1))).k=(dmC (mR (nM x1))).k)/\(((dmC (mR (nM x1))).a=(dmC (mR (nM x1))).a)/\(((dmC (mR (nM x1))).p=(dmC (mR (nM x1))).p)/\(((dmC (mR (nM x1))).q=(dmC (mR (nM x1))).q)/\(((dmC (mR (nM x1))).b=(dmC (mR (nM x1))).b)/\(((dmC (mR (nM x1))).e=(dmC (mR (nM x1))).e)/\((0=0/\((dmC (mR (nM x1))).body.length=(dmC (mR (nM x1))).body.length))/\True)))))))/\(((RLe (dmC (mR (nM x1))).body.length (dmC (mR (nM x1))).body.length)/\(RowsEq (.int IntKind.u8::[]) (dmC (mR (nM x1))).body.length (encL encI (dmC (mR (nM x1))).body) (encL encI (dmC (mR (nM x1))).body)))/\True))))))))))))))))))))/\((decide ((x22.i:Int)<(x22.l.length:Int))=false)->(∃ x27:Cmd,(((x27.nodes.length<=(1000000:Nat))/\(ByteArray.size x27.code<=(1000000:Nat)))/\(((((nC x1).kind=x27.kind)/\(((nC x1).call=x27.call)/\(((nC x1).inc=x27.inc)/\(((nC x1).oth=x27.oth)/\(((nC x1).urg=x27.urg)/\(((nC x1).code=x27.code)/\((0=0/\((nC x1).nodes.length=x27.nodes.length))/\(((nC x1).dist=x27.dist)/\(((nC x1).cen=x27.cen)/\(((nC x1).ep=x27.ep)/\(((nC x1).tick=x27.tick)/\(((nC x1).su=x27.su)/\(((nC x1).sq=x27.sq)/\(((nC x1).ss=x27.ss)/\(((nC x1).sn=x27.sn)/\(((nC x1).se=x27.se)/\(((nC x1).edge=x27.edge)/\(((nC x1).time=x27.time)/\(((nC x1).node=x27.node)/\True)))))))))))))))))))/\True)/\((((RLe x27.nodes.length (Prod.fst x1).length)/\(RI x27.nodes.length (Prod.fst x1) x27.nodes))/\True)/\((((decide (decE (byR (nC x1))=(0:Int))==rightF x27)=true)->(((decide (decE (byR (nC x1))≠(0:Int))=false)->(∃ x30:Cmd × Cmd,(((Prod.fst x30).nodes.length<=(1000000:Nat))/\(((((decC (byR (nC x1))).kind=(Prod.fst x30).kind)/\(((decC (byR (nC x1))).call=(Prod.fst x30).call)/\(((decC (byR (nC x1))).inc=(Prod.fst x30).inc)/\(((decC (byR (nC x1))).oth=(Prod.fst x30).oth)/\(((decC (byR (nC x1))).urg=(Prod.fst x30).urg)/\(((decC (byR (nC x1))).code=(Prod.fst x30).code)/\((0=0/\((decC (byR (nC x1))).nodes.length=(Prod.fst x30).nodes.length))/\(((decC (byR (nC x1))).dist=(Prod.fst x30).dist)/\(((decC (byR (nC x1))).cen=(Prod.fst x30).cen)/\(((decC (byR (nC x1))).ep=(Prod.fst x30).ep)/\(((decC (byR (nC x1))).tick=(Prod.fst x30).tick)/\(((decC (byR (nC x1))).su=(Prod.fst x30).su)/\(((decC (byR (nC x1))).sq=(Prod.fst x30).sq)/\(((decC (byR (nC x1))).ss=(Prod.fst x30).ss)/\(((decC (byR (nC x1))).sn=(Prod.fst x30).sn)/\(((decC (byR (nC x1))).se=(Prod.fst x30).se)/\(((decC (byR (nC x1))).edge=(Prod.fst x30).edge)/\(((decC (byR (nC x1))).time=(Prod.fst x30).time)/\(((decC (byR (nC x1))).node=(Prod.fst x30).node)/\True)))))))))))))))))))/\((((nC x1).kind=(Prod.snd x30).kind)/\(((nC x1).call=(Prod.snd x30).call)/\(((nC x1).inc=(Prod.snd x30).inc)/\(((nC x1).oth=(Prod.snd x30).oth)/\(((nC x1).urg=(Prod.snd x30).urg)/\(((nC x1).code=(Prod.snd x30).code)/\((0=0/\((nC x1).nodes.length=(Prod.snd x30).nodes.length))/\(((nC x1).dist=(Prod.snd x30).dist)/\(((nC x1).cen=(Prod.snd x30).cen)/\(((nC x1).ep=(Prod.snd x30).ep)/\(((nC x1).tick=(Prod.snd x30).tick)/\(((nC x1).su=(Prod.snd x30).su)/\(((nC x1).sq=(Prod.snd x30).sq)/\(((nC x1).ss=(Prod.snd x30).ss)/\(((nC x1).sn=(Prod.snd x30).sn)/\(((nC x1).se=(Prod.snd x30).se)/\(((nC x1).edge=(Prod.snd x30).edge)/\(((nC x1).time=(Prod.snd x30).time)/\(((nC x1).node=(Prod.snd x30).node)/\True)))))))))))))))))))/\True))/\((((RLe (Prod.fst x30).nodes.length (decC (byR (nC x1))).nodes.length)/\(RowsEq [.int .i64] (Prod.fst x30).nodes.length (encL encI (decC (byR (nC x1))).nodes) (encL encI (Prod.fst x30).nodes)))/\(((RLe (Prod.snd x30).nodes.length (Prod.fst x1).length)/\(RowsEq [.int .i64] (Prod.snd x30).nodes.length (encL encI (Prod.fst x1)) (encL encI (Prod.snd x30).nodes)))/\True))/\((decide (Prod.fst x30=Prod.snd x30)=true)/\True))))))/\((decide (decE (byR (nC x1))≠(0:Int))=true)->(true=true/\True))))/\(((decide (decE (byR (nC x1))=(0:Int))==rightF x27)=false)->(false=true/\True))))))))))))))))))))))))))/\((decide (dmE (mR (nM x1))≠(0:Int))=true)->(false=true/\True))))))))))))))))))))))))))/\((decide (200<(↑(Prod.snd x1).length:Int))=true)->(true=true/\True))))/\((decide (60<(↑(Prod.fst x1).length:Int))=true)->(true=true/\True))))))))))=(Keeps cfgL9 Tryd.f9 lw9 l9I) by kernel_rfl) (fun x1=>fun h2=>⟨(default),
 trivial,trivial,trivial,
fun g4=>have h4:=dF g4;⟨fun g5=>have h5:=dF g5;⟨fun g6=>have h6:=dT g6;⟨rfl,trivial⟩,
fun g7=>have h7:=dF g7;⟨trivial,
⟨rfl,
(by(try dsimp only at *);omega),
(by(try dsimp only at *);omega),
(by(try dsimp only at *);omega)⟩,
(nM x1),trivial,
⟨⟨(by(try dsimp only at *);rfl),
(by(try dsimp only at *);rfl),
(by(try dsimp only at *);rfl),
(by(try dsimp only at *);rfl),
(by(try dsimp only at *);rfl),
(by(try dsimp only at *);rfl),
⟨rfl,
(by(try dsimp only at *);exact Nat.zero_add _)⟩,trivial⟩,trivial⟩,
⟨⟨⟨(by(try dsimp only at *);exact Nat.le_of_eq (Nat.zero_add _).symm)⟩,
(by(try dsimp only at *);exact n_ar)⟩,trivial⟩,
(mR (nM x1)),
(by(try dsimp only at *);exact mR_in (m:=nM x1) h2),
⟨⟨rfl,rfl⟩,trivial⟩,
⟨⟨rl,rr⟩,trivial⟩,
({ l:=mR (nM x1),i:=(0:Nat):S9 }),
⟨⟨rfl,
(by(try dsimp only at *);omega)⟩,
⟨⟨rfl,rfl⟩,
⟨rfl,rfl⟩,
⟨rfl,
(by(try dsimp only at *);omega)⟩,
⟨rfl,rfl⟩,
⟨rfl,rfl⟩,rfl,rfl,
(by(try dsimp only at *);omega),rfl,
⟨rfl,rfl⟩,rfl,rfl,rfl,
⟨rfl,rfl⟩,rfl,rfl,rfl,rfl,
⟨rfl,rfl⟩,rfl,rfl,rfl,
⟨rfl,rfl⟩,rfl,rfl,rfl,trivial⟩,
⟨rl,rr⟩,
⟨rl,rr⟩,
⟨⟨(by(try dsimp only at *);omega)⟩,
(by(try dsimp only at *);exact n_ar)⟩,
⟨rl,rr⟩,
⟨rfl,rfl,rfl,rfl,rfl,rfl,
⟨rfl,rfl⟩,trivial⟩,
⟨rl,rr⟩,trivial⟩,
fun x11=>fun h12=>⟨fun g13=>have h13:=dT g13;⟨⟨(by(try dsimp only at *);omega),
(by(try dsimp only at *);omega)⟩,
(by(try dsimp only at *);omega),
⟨(by(try dsimp only at *);omega),
(by(try dsimp only at *);omega)⟩,
⟨(by(try dsimp only at *);omega),trivial,trivial⟩,
⟨(by(try dsimp only at *);omega),
(by(try dsimp only at *);exact n_i (mR_in (m:=nM x1) h2).2 h12)⟩,
(s9 x11),
(by(try dsimp only at *);exact n_me ‹_›),
⟨(by(try dsimp only at *);exact(n_ok h12 h13).1),
(by(try dsimp only at *);exact(n_ok h12 h13).2)⟩,
⟨⟨rfl,rfl⟩,
⟨rfl,rfl⟩,
⟨rfl,rfl⟩,
⟨rfl,
(by(try dsimp only at *);exact n_le)⟩,
⟨rfl,rfl⟩,rfl,
(by(try dsimp only at *);exact congrArg Int.ofNat n_le),
(by(try dsimp only at *);rfl),rfl,
⟨rfl,rfl⟩,rfl,rfl,rfl,
⟨rfl,rfl⟩,rfl,rfl,rfl,rfl,
⟨rfl,rfl⟩,rfl,rfl,rfl,
⟨rfl,rfl⟩,rfl,rfl,rfl,trivial⟩,
⟨rl,rr⟩,
⟨rl,rr⟩,
⟨rl,rr⟩,
⟨⟨(by(try dsimp only at *);exact Nat.le_of_eq n_le.symm)⟩,
(by(try dsimp only at *);exact n_r ‹_›)⟩,
⟨rfl,rfl,rfl,rfl,rfl,rfl,
⟨rfl,rfl⟩,trivial⟩,
⟨rl,rr⟩,trivial⟩,
fun g15=>have h15:=dF g15;⟨⟨(by(try dsimp only at *);omega),
(by(try dsimp only at *);omega)⟩,
(by(try dsimp only at *);omega),
⟨(by(try dsimp only at *);omega),
(by(try dsimp only at *);omega)⟩,
⟨(by(try dsimp only at *);omega),trivial,trivial⟩,
fun g16=>have h16:=dF g16;⟨(by(try dsimp only at *);omega),
(by(try dsimp only at *);omega),
fun h17=>⟨(by(try dsimp only at *);exact n_q h2 h5 h17),trivial⟩,
fun h18=>⟨(nC x1),
⟨(by(try dsimp only at *);exact nc_n h4),
(by(try dsimp only at *);exact nc_c)⟩,
⟨⟨(by(try dsimp only at *);rfl),
(by(try dsimp only at *);rfl),
(by(try dsimp only at *);rfl),
(by(try dsimp only at *);rfl),
(by(try dsimp only at *);rfl),
(by(try dsimp only at *);rfl),
⟨rfl,
(by(try dsimp only at *);rfl)⟩,
(by(try dsimp only at *);rfl),
(by(try dsimp only at *);rfl),
(by(try dsimp only at *);rfl),
(by(try dsimp only at *);rfl),
(by(try dsimp only at *);rfl),
(by(try dsimp only at *);rfl),
(by(try dsimp only at *);rfl),
(by(try dsimp only at *);rfl),
(by(try dsimp only at *);rfl),
(by(try dsimp only at *);rfl),
(by(try dsimp only at *);rfl),
(by(try dsimp only at *);rfl),trivial⟩,trivial⟩,
⟨⟨⟨(by(try dsimp only at *);exact Nat.le_refl _)⟩,
(by(try dsimp only at *);exact rr)⟩,trivial⟩,
(byR (nC x1)),
(by(try dsimp only at *);exact nc_in rfl),
⟨⟨rfl,rfl⟩,trivial⟩,
⟨⟨rl,rr⟩,trivial⟩,
({ l:=byR (nC x1),i:=(0:Nat):S9 }),
⟨⟨rfl,
(by(try dsimp only at *);omega)⟩,
⟨⟨rfl,rfl⟩,
⟨rfl,rfl⟩,
⟨rfl,rfl⟩,rfl,rfl,
(by(try dsimp only at *);omega),rfl,rfl,
⟨rfl,rfl⟩,rfl,rfl,
⟨rfl,rfl⟩,
⟨rfl,rfl⟩,rfl,
⟨rfl,rfl⟩,
⟨rfl,rfl⟩,
⟨rfl,rfl⟩,
⟨rfl,rfl⟩,
⟨rfl,rfl⟩,rfl,rfl,rfl,rfl,
⟨rfl,rfl⟩,rfl,rfl,rfl,
⟨rfl,rfl⟩,rfl,rfl,rfl,rfl,
⟨rfl,rfl⟩,rfl,rfl,rfl,
⟨rfl,rfl⟩,rfl,rfl,rfl,trivial⟩,
⟨rl,rr⟩,
⟨(by(try dsimp only at *);rfl),
(by(try dsimp only at *);rfl),
(by(try dsimp only at *);rfl),
(by(try dsimp only at *);rfl),
(by(try dsimp only at *);rfl),
(by(try dsimp only at *);rfl),
⟨rfl,
(by(try dsimp only at *);rfl)⟩,
(by(try dsimp only at *);rfl),
(by(try dsimp only at *);rfl),
(by(try dsimp only at *);rfl),
(by(try dsimp only at *);rfl),
(by(try dsimp only at *);rfl),
(by(try dsimp only at *);rfl),
(by(try dsimp only at *);rfl),
(by(try dsimp only at *);rfl),
(by(try dsimp only at *);rfl),
(by(try dsimp only at *);rfl),
(by(try dsimp only at *);rfl),
(by(try dsimp only at *);rfl),trivial⟩,
⟨rl,rr⟩,
⟨rfl,rfl,rfl,rfl,rfl,rfl,
⟨rfl,rfl⟩,rfl,rfl,rfl,rfl,rfl,rfl,rfl,rfl,rfl,rfl,rfl,rfl,trivial⟩,
⟨rl,rr⟩,
⟨rl,rr⟩,
⟨rl,rr⟩,
⟨rl,rr⟩,
⟨rfl,rfl,rfl,rfl,rfl,rfl,
⟨rfl,rfl⟩,trivial⟩,
⟨rl,rr⟩,trivial⟩,
fun x22=>fun h23=>⟨fun g24=>have h24:=dT g24;⟨⟨(by(try dsimp only at *);omega),
(by(try dsimp only at *);omega)⟩,
(by(try dsimp only at *);omega),
⟨(by(try dsimp only at *);omega),
(by(try dsimp only at *);omega)⟩,
⟨(by(try dsimp only at *);omega),trivial,trivial⟩,
⟨(by(try dsimp only at *);omega),
(by(try dsimp only at *);exact n_i (nc_in (c:=nC x1) rfl).2 h23)⟩,
(s9 x22),
(by(try dsimp only at *);exact n_me ‹_›),
⟨(by(try dsimp only at *);exact(n_ok h23 h24).1),
(by(try dsimp only at *);exact(n_ok h23 h24).2)⟩,
⟨⟨rfl,rfl⟩,
⟨rfl,
(by(try dsimp only at *);exact n_le)⟩,
⟨rfl,rfl⟩,rfl,
(by(try dsimp only at *);exact congrArg Int.ofNat n_le),
(by(try dsimp only at *);rfl),rfl,rfl,
⟨rfl,rfl⟩,rfl,rfl,
⟨rfl,rfl⟩,
⟨rfl,rfl⟩,rfl,
⟨rfl,rfl⟩,
⟨rfl,rfl⟩,
⟨rfl,rfl⟩,
⟨rfl,rfl⟩,
⟨rfl,rfl⟩,rfl,rfl,rfl,rfl,
⟨rfl,rfl⟩,rfl,rfl,rfl,
⟨rfl,rfl⟩,rfl,rfl,rfl,rfl,
⟨rfl,rfl⟩,rfl,rfl,rfl,
⟨rfl,rfl⟩,rfl,rfl,rfl,trivial⟩,
⟨rl,rr⟩,
⟨rfl,rfl,rfl,rfl,rfl,rfl,
⟨rfl,rfl⟩,rfl,rfl,rfl,rfl,rfl,rfl,rfl,rfl,rfl,rfl,rfl,rfl,trivial⟩,
⟨⟨(by(try dsimp only at *);exact Nat.le_of_eq n_le.symm)⟩,
(by(try dsimp only at *);exact n_r ‹_›)⟩,
⟨rfl,rfl,rfl,rfl,rfl,rfl,
⟨rfl,rfl⟩,rfl,rfl,rfl,rfl,rfl,rfl,rfl,rfl,rfl,rfl,rfl,rfl,trivial⟩,
⟨rl,rr⟩,
⟨rl,rr⟩,
⟨rl,rr⟩,
⟨rl,rr⟩,
⟨rfl,rfl,rfl,rfl,rfl,rfl,
⟨rfl,rfl⟩,trivial⟩,
⟨rl,rr⟩,trivial⟩,
fun g26=>have h26:=dF g26;⟨(nC x1),
⟨(by(try dsimp only at *);exact nc_n h4),
(by(try dsimp only at *);exact nc_c)⟩,
⟨⟨rfl,rfl,rfl,rfl,rfl,rfl,
⟨rfl,rfl⟩,rfl,rfl,rfl,rfl,rfl,rfl,rfl,rfl,rfl,rfl,rfl,rfl,trivial⟩,trivial⟩,
⟨⟨⟨(by(try dsimp only at *);exact Nat.le_refl _)⟩,
(by(try dsimp only at *);exact rr)⟩,trivial⟩,
fun h28=>⟨fun g29=>have h29:=dF g29;⟨((decC (byR (nC x1)),nC x1)),
(by(try dsimp only at *);exact dec_n (nc_in (c:=nC x1) rfl)),
⟨⟨rfl,rfl,rfl,rfl,rfl,rfl,
⟨rfl,rfl⟩,rfl,rfl,rfl,rfl,rfl,rfl,rfl,rfl,rfl,rfl,rfl,rfl,trivial⟩,
⟨rfl,rfl,rfl,rfl,rfl,rfl,
⟨rfl,rfl⟩,rfl,rfl,rfl,rfl,rfl,rfl,rfl,rfl,rfl,rfl,rfl,rfl,trivial⟩,trivial⟩,
⟨⟨rl,rr⟩,
⟨⟨(by(try dsimp only at *);exact Nat.le_refl _)⟩,
(by(try dsimp only at *);exact rr)⟩,trivial⟩,
(by(try dsimp only at *);exact n_y (c:=nC x1) rfl h29),trivial⟩,
fun g31=>have h31:=dT g31;⟨rfl,trivial⟩⟩,
fun h32=>⟨(by(try dsimp only at *);exact n_f (c:=nC x1) rfl h32),trivial⟩⟩⟩⟩⟩,
fun g33=>have h33:=dT g33;⟨(by(try dsimp only at *);exact n_e h2 h5 h33),trivial⟩⟩⟩⟩⟩,
fun g34=>have h34:=dT g34;⟨rfl,trivial⟩⟩,
fun g35=>have h35:=dT g35;⟨rfl,trivial⟩⟩)
theorem l9_good:Good Tryd.prog 9 lw9/\FnOk Tryd.prog 9:=good_of tok conL9 (fn:=Tryd.f9) rfl (by decide+kernel) (fun _=>rfl) l9_keeps
end Go.Sym