import Derived.Test.YtcghhlodddpmaaaDoorX4
import Derived.Test.YtcghhlodddpmaaaDoorX6
import Derived.Test.YtcghhlodddpmaaaDoorV6
import Derived.Test.YtcghhlodddpmaaaDoorXD
namespace Go.Sym
set_option linter.unusedVariables false
set_option linter.unusedSimpArgs false
open Go.Proofs
set_option maxRecDepth 100000
set_option maxHeartbeats 8000000
def cfgP:Cfg:=⟨T,[],[(13,.one rgC),(40,.one isC),(41,.one txC),(42,.one liC)],noInv,60,{}⟩
theorem conP:ConOk Tryd.prog cfgP:=ConL.ok (.cons (ConL.one rg_good) (.cons (ConL.one is_good) (.cons (ConL.one tx_good) (.cons (ConL.one li_good) .nil))))
def puC:CT where
 X:=Cmd
 pre:=fun x=>x.nodes.length<=1000000/\x.code.size<=1000000
 args:=fun x=>[.agg (cl x 100001)]
 g0:=fun x=>[nB 100001 x]
 res:=fun x=>.sl 1 0 (byR x).length
 g1:=fun x=>[(1,.rows .own kB (byR x).length (encL encI (byR x)))]
theorem pu_v {c:Cmd} (h:(!rightF c)=false):vC c=true:=by rw[valid_right];simpa using h
theorem pu_f {c:Cmd} (h:(!rightF c)=false):∀ f∈fsC c.kind,fOk c f=true:=((vC_iff c).1 (pu_v h)).2.1
theorem pu_n {c:Cmd} (h:(!rightF c)=true):(byR c).length=0:=by
 rw[byR_f (by rw[valid_right];simpa using h)]
 rfl
theorem pu_len {a b R:List Int} (h:a++b=R):a.length+b.length=R.length:=by rw[<- h,List.length_append]
theorem pu_rows {a b R:List Int} {k:Nat} (h:a++b=R):RowsEq kB k (appRows a.length (encL encI a) 0 (encL encI b)) (encL encI R):=by rw[appE rfl,h];exact rr
theorem cap2 {a b:List Int} (ha:a.length<=5) (hb:b.length<=5):(byIs a).length+(byIs b).length<=1073741824:=by
 have:=byIs_len a
 have:=byIs_len b
 omega
theorem litN {l:List Int} {rs:List (List D)} (h:rs=l.map fun n=>[D.i n]):RowsEq kN l.length (litRows rs) (encL encI l):=by
 subst h
 refine⟨fun r hr=>?_⟩
 unfold litRows encL
 simp only[rowEq,and_true,Kd.eqv]
 simp[List.getD_eq_getElem?_getD,List.getElem?_map,List.getElem?_eq_getElem hr,encI,D.toI]
theorem pu_k {c:Cmd} (h:(!rightF c)=false):∀ n∈[c.kind],r64 n:=fun n hn=>by
 simp at hn
 subst hn
 exact kind_r (pu_v h)
theorem pu_3 {c:Cmd} (h:(!rightF c)=false) (hk:c.kind=3):(∀ n∈[c.inc,c.oth],r64 n)/\byIs [c.kind]++byIs [c.inc,c.oth]=byR c:=by
 have hf:=pu_f h
 have e:fsC c.kind=[1,2]:=by rw[hk];rfl
 rw[e]at hf
 refine⟨fun n hn=>?_,?_⟩
 ·simp only[List.mem_cons,List.not_mem_nil,or_false]at hn
  rcases hn with rfl|rfl
  ·exact inRF_r (fOkn (hf 1 (by simp)) (by decide) (by decide))
  ·exact inRF_r (fOkn (hf 2 (by simp)) (by decide) (by decide))
 ·unfold byR byC;rw[if_pos (pu_v h),e];simp[byIs,byF,numF]
theorem pu_4 {c:Cmd} (h:(!rightF c)=false) (hk:c.kind=4):(∀ n∈[c.call,c.inc],r64 n)/\byIs [c.kind]++byIs [c.call,c.inc]=byR c:=by
 have hf:=pu_f h
 have e:fsC c.kind=[0,1]:=by rw[hk];rfl
 rw[e]at hf
 refine⟨fun n hn=>?_,?_⟩
 ·simp only[List.mem_cons,List.not_mem_nil,or_false]at hn
  rcases hn with rfl|rfl
  ·exact inRF_r (fOkn (hf 0 (by simp)) (by decide) (by decide))
  ·exact inRF_r (fOkn (hf 1 (by simp)) (by decide) (by decide))
 ·unfold byR byC;rw[if_pos (pu_v h),e];simp[byIs,byF,numF]
theorem pu_5 {c:Cmd} (h:(!rightF c)=false) (hk:c.kind=5):(∀ n∈[c.su,c.sq,c.ss,c.sn,c.se],r64 n)/\byIs [c.kind]++byIs [c.su,c.sq,c.ss,c.sn,c.se]=byR c:=by
 have hf:=pu_f h
 have e:fsC c.kind=[10,11,12,13,14]:=by rw[hk];rfl
 rw[e]at hf
 refine⟨fun n hn=>?_,?_⟩
 ·simp only[List.mem_cons,List.not_mem_nil,or_false]at hn
  rcases hn with rfl|rfl|rfl|rfl|rfl
  ·exact inRF_r (fOkn (hf 10 (by simp)) (by decide) (by decide))
  ·exact inRF_r (fOkn (hf 11 (by simp)) (by decide) (by decide))
  ·exact inRF_r (fOkn (hf 12 (by simp)) (by decide) (by decide))
  ·exact inRF_r (fOkn (hf 13 (by simp)) (by decide) (by decide))
  ·exact inRF_r (fOkn (hf 14 (by simp)) (by decide) (by decide))
 ·unfold byR byC;rw[if_pos (pu_v h),e];simp[byIs,byF,numF]
theorem pu_7 {c:Cmd} (h:(!rightF c)=false) (hk:c.kind=7):(∀ n∈[c.su,c.inc],r64 n)/\byIs [c.kind]++byIs [c.su,c.inc]=byR c:=by
 have hf:=pu_f h
 have e:fsC c.kind=[10,1]:=by rw[hk];rfl
 rw[e]at hf
 refine⟨fun n hn=>?_,?_⟩
 ·simp only[List.mem_cons,List.not_mem_nil,or_false]at hn
  rcases hn with rfl|rfl
  ·exact inRF_r (fOkn (hf 10 (by simp)) (by decide) (by decide))
  ·exact inRF_r (fOkn (hf 1 (by simp)) (by decide) (by decide))
 ·unfold byR byC;rw[if_pos (pu_v h),e];simp[byIs,byF,numF]
theorem pu_8 {c:Cmd} (h:(!rightF c)=false) (hk:c.kind=8):(∀ n∈[c.dist,c.cen,c.ep],r64 n)/\byIs [c.kind]++byIs [c.dist,c.cen,c.ep]=byR c:=by
 have hf:=pu_f h
 have e:fsC c.kind=[6,7,8]:=by rw[hk];rfl
 rw[e]at hf
 refine⟨fun n hn=>?_,?_⟩
 ·simp only[List.mem_cons,List.not_mem_nil,or_false]at hn
  rcases hn with rfl|rfl|rfl
  ·exact inRF_r (fOkn (hf 6 (by simp)) (by decide) (by decide))
  ·exact inRF_r (fOkn (hf 7 (by simp)) (by decide) (by decide))
  ·exact inRF_r (fOkn (hf 8 (by simp)) (by decide) (by decide))
 ·unfold byR byC;rw[if_pos (pu_v h),e];simp[byIs,byF,numF]
theorem pu_9 {c:Cmd} (h:(!rightF c)=false) (hk:c.kind=9):(∀ n∈[c.dist,c.cen,c.ep],r64 n)/\byIs [c.kind]++byIs [c.dist,c.cen,c.ep]=byR c:=by
 have hf:=pu_f h
 have e:fsC c.kind=[6,7,8]:=by rw[hk];rfl
 rw[e]at hf
 refine⟨fun n hn=>?_,?_⟩
 ·simp only[List.mem_cons,List.not_mem_nil,or_false]at hn
  rcases hn with rfl|rfl|rfl
  ·exact inRF_r (fOkn (hf 6 (by simp)) (by decide) (by decide))
  ·exact inRF_r (fOkn (hf 7 (by simp)) (by decide) (by decide))
  ·exact inRF_r (fOkn (hf 8 (by simp)) (by decide) (by decide))
 ·unfold byR byC;rw[if_pos (pu_v h),e];simp[byIs,byF,numF]
theorem pu_10 {c:Cmd} (h:(!rightF c)=false) (hk:c.kind=10):(∀ n∈[c.dist,c.cen,c.ep],r64 n)/\byIs [c.kind]++byIs [c.dist,c.cen,c.ep]=byR c:=by
 have hf:=pu_f h
 have e:fsC c.kind=[6,7,8]:=by rw[hk];rfl
 rw[e]at hf
 refine⟨fun n hn=>?_,?_⟩
 ·simp only[List.mem_cons,List.not_mem_nil,or_false]at hn
  rcases hn with rfl|rfl|rfl
  ·exact inRF_r (fOkn (hf 6 (by simp)) (by decide) (by decide))
  ·exact inRF_r (fOkn (hf 7 (by simp)) (by decide) (by decide))
  ·exact inRF_r (fOkn (hf 8 (by simp)) (by decide) (by decide))
 ·unfold byR byC;rw[if_pos (pu_v h),e];simp[byIs,byF,numF]
theorem pu_11 {c:Cmd} (h:(!rightF c)=false) (hk:c.kind=11):(∀ n∈[c.edge,c.time],r64 n)/\byIs [c.kind]++byIs [c.edge,c.time]=byR c:=by
 have hf:=pu_f h
 have e:fsC c.kind=[15,16]:=by rw[hk];rfl
 rw[e]at hf
 refine⟨fun n hn=>?_,?_⟩
 ·simp only[List.mem_cons,List.not_mem_nil,or_false]at hn
  rcases hn with rfl|rfl
  ·exact inRF_r (fOkn (hf 15 (by simp)) (by decide) (by decide))
  ·exact inRF_r (fOkn (hf 16 (by simp)) (by decide) (by decide))
 ·unfold byR byC;rw[if_pos (pu_v h),e];simp[byIs,byF,numF]
theorem pu_12 {c:Cmd} (h:(!rightF c)=false) (hk:c.kind=12):(∀ n∈[c.tick],r64 n)/\byIs [c.kind]++byIs [c.tick]=byR c:=by
 have hf:=pu_f h
 have e:fsC c.kind=[9]:=by rw[hk];rfl
 rw[e]at hf
 refine⟨fun n hn=>?_,?_⟩
 ·simp only[List.mem_cons,List.not_mem_nil,or_false]at hn
  rcases hn with rfl
  ·exact inRF_r (fOkn (hf 9 (by simp)) (by decide) (by decide))
 ·unfold byR byC;rw[if_pos (pu_v h),e];simp[byIs,byF,numF]
theorem pu_13 {c:Cmd} (h:(!rightF c)=false) (hk:c.kind=13):(∀ n∈[c.inc],r64 n)/\byIs [c.kind]++byIs [c.inc]=byR c:=by
 have hf:=pu_f h
 have e:fsC c.kind=[1]:=by rw[hk];rfl
 rw[e]at hf
 refine⟨fun n hn=>?_,?_⟩
 ·simp only[List.mem_cons,List.not_mem_nil,or_false]at hn
  rcases hn with rfl
  ·exact inRF_r (fOkn (hf 1 (by simp)) (by decide) (by decide))
 ·unfold byR byC;rw[if_pos (pu_v h),e];simp[byIs,byF,numF]
theorem pu_14 {c:Cmd} (h:(!rightF c)=false) (hk:c.kind=14):(∀ n∈[c.su,c.node],r64 n)/\byIs [c.kind]++byIs [c.su,c.node]=byR c:=by
 have hf:=pu_f h
 have e:fsC c.kind=[10,17]:=by rw[hk];rfl
 rw[e]at hf
 refine⟨fun n hn=>?_,?_⟩
 ·simp only[List.mem_cons,List.not_mem_nil,or_false]at hn
  rcases hn with rfl|rfl
  ·exact inRF_r (fOkn (hf 10 (by simp)) (by decide) (by decide))
  ·exact inRF_r (fOkn (hf 17 (by simp)) (by decide) (by decide))
 ·unfold byR byC;rw[if_pos (pu_v h),e];simp[byIs,byF,numF]
theorem pu_15 {c:Cmd} (h:(!rightF c)=false) (hk:c.kind=15):(∀ n∈[c.call],r64 n)/\byIs [c.kind]++byIs [c.call]=byR c:=by
 have hf:=pu_f h
 have e:fsC c.kind=[0]:=by rw[hk];rfl
 rw[e]at hf
 refine⟨fun n hn=>?_,?_⟩
 ·simp only[List.mem_cons,List.not_mem_nil,or_false]at hn
  rcases hn with rfl
  ·exact inRF_r (fOkn (hf 0 (by simp)) (by decide) (by decide))
 ·unfold byR byC;rw[if_pos (pu_v h),e];simp[byIs,byF,numF]
theorem puOU {c:Cmd} (h:(!rightF c)=false) (hk:c.kind=1∨c.kind=2):(∀ n∈[c.call,c.urg],r64 n)/\c.code.size<=40/\c.nodes.length<=2000/\∀ n∈c.nodes,r64 n:=by
 have hf:=pu_f h
 have hm:∀ f∈[(0:Int),3,4,5],fOk c f=true:=by
  intro f hf2
  refine hf f ?_
  rcases hk with e|e <;>(rw[e];revert f;decide)
 have h5:=vNodes_r (fOk5 (hm 5 (by simp)) (by decide) rfl)
 refine⟨fun n hn=>?_,vCode_r (fOk4 (hm 4 (by simp)) rfl),h5.1,h5.2⟩
 simp only[List.mem_cons,List.not_mem_nil,or_false]at hn
 rcases hn with rfl|rfl
 ·exact inRF_r (fOkn (hm 0 (by simp)) (by decide) (by decide))
 ·exact inRF_r (fOkn (hm 3 (by simp)) (by decide) (by decide))
theorem pu_1 {c:Cmd} (h:(!rightF c)=false) (hk:c.kind=1):(∀ n∈[c.dist],r64 n)/\byIs [c.kind]++byIs [c.call,c.urg]++bySt c.code++byLs c.nodes++byIs [c.dist]=byR c:=by
 have hf:=pu_f h
 have e:fsC c.kind=[0,3,4,5,6]:=by rw[hk];rfl
 rw[e]at hf
 refine⟨fun n hn=>?_,?_⟩
 ·simp only[List.mem_cons,List.not_mem_nil,or_false]at hn
  subst hn
  exact inRF_r (fOkn (hf 6 (by simp)) (by decide) (by decide))
 ·unfold byR byC;rw[if_pos (pu_v h),e];simp[byIs,byF,numF]
theorem pu_2 {c:Cmd} (h:(!rightF c)=false) (hk:c.kind=2):byIs [c.kind]++byIs [c.call,c.urg]++bySt c.code++byLs c.nodes=byR c:=by
 have e:fsC c.kind=[0,3,4,5]:=by rw[hk];rfl
 unfold byR byC
 rw[if_pos (pu_v h),e]
 simp[byIs,byF,numF]
theorem pu_6 {c:Cmd} (h:(!rightF c)=false) (hk:c.kind=6):byIs [c.kind]=byR c:=by
 have e:fsC c.kind=[]:=by rw[hk];rfl
 unfold byR byC
 rw[if_pos (pu_v h),e]
 simp[byIs]
structure PuL (a b c d e:Nat):Prop where
 a:a<=50
 b:b<=50
 c:c<=60
 d:d<=20010
 e:e<=50
theorem pu_l {c:Cmd} (h:(!rightF c)=false) (hk:c.kind=1∨c.kind=2):PuL (byIs [c.kind]).length (byIs [c.call,c.urg]).length (bySt c.code).length (byLs c.nodes).length (byIs [c.dist]).length:=by
 obtain⟨_,h2,h3,_⟩:=puOU h hk
 have q1:=byIs_len [c.kind]
 have q2:=byIs_len [c.call,c.urg]
 have q3:=byIs_len [c.dist]
 have q4:=byIs_len c.nodes
 have q5:=byZ_len (c.nodes.length:Int)
 have q6:=byZ_len (c.code.size:Int)
 simp only[List.length_cons,List.length_nil]at q1 q2 q3
 refine⟨by omega,by omega,?_,?_,by omega⟩
 ·unfold bySt
  rw[List.length_append,strL_len]
  omega
 ·unfold byLs
  rw[List.length_append]
  omega
theorem cap3 {a b c d e:Nat} (h:PuL a b c d e):a+b+c<=1073741824:=by obtain⟨h1,h2,h3,h4,h5⟩:=h;omega
theorem cap4 {a b c d e:Nat} (h:PuL a b c d e):a+b+c+d<=1073741824:=by obtain⟨h1,h2,h3,h4,h5⟩:=h;omega
theorem cap5 {a b c d e:Nat} (h:PuL a b c d e):a+b+c+d+e<=1073741824:=by obtain⟨h1,h2,h3,h4,h5⟩:=h;omega
theorem len4 {a b c d R:List Int} (h:a++b++c++d=R):a.length+b.length+c.length+d.length=R.length:=by rw[<- h];simp only[List.length_append]
theorem len5 {a b c d e R:List Int} (h:a++b++c++d++e=R):a.length+b.length+c.length+d.length+e.length=R.length:=by rw[<- h];simp only[List.length_append]
theorem puR4 {a b c d R:List Int} {k:Nat} (h:a++b++c++d=R):RowsEq kB k (appRows (a.length+b.length+c.length) (appRows (a.length+b.length) (appRows a.length (encL encI a) 0 (encL encI b)) 0 (encL encI c)) 0 (encL encI d)) (encL encI R):=by
 rw[appE rfl,appE (by rw[List.length_append]),appE (by simp only[List.length_append]),h]
 exact rr
theorem puR5 {a b c d e R:List Int} {k:Nat} (h:a++b++c++d++e=R):RowsEq kB k (appRows (a.length+b.length+c.length+d.length) (appRows (a.length+b.length+c.length) (appRows (a.length+b.length) (appRows a.length (encL encI a) 0 (encL encI b)) 0 (encL encI c)) 0 (encL encI d)) 0 (encL encI e)) (encL encI R):=by
 rw[appE rfl,appE (by rw[List.length_append]),appE (by simp only[List.length_append]),appE (by simp only[List.length_append]),h]
 exact rr
theorem k6 {c:Cmd} (h:(!rightF c)=false) (hn:∀ k∈[(1:Int),2,3,4,5,7,8,9,10,11,12,13,14,15],c.kind≠k):c.kind=6:=by
 have:=kOk_no (vC_k (pu_v h))
 simp only[List.mem_cons,List.not_mem_nil,or_false,forall_eq_or_imp,forall_eq]at hn
 omega
set_option maxRecDepth 100000 in
theorem pu_keeps:Keeps cfgP Tryd.f15 puC noIv:=Eq.mp (show((∀ x1:Cmd,((x1.nodes.length<=(1000000:Nat)/\ByteArray.size x1.code<=(1000000:Nat))->(∃ x3:Cmd,(((x3.nodes.length<=(1000000:Nat))/\(ByteArray.size x3.code<=(1000000:Nat)))/\(((x1.kind=x3.kind/\(x1.call=x3.call/\(x1.inc=x3.inc/\(x1.oth=x3.oth/\(x1.urg=x3.urg/\(x1.code=x3.code/\((0=0/\x1.nodes.length=x3.nodes.length)/\(x1.dist=x3.dist/\(x1.cen=x3.cen/\(x1.ep=x3.ep/\(x1.tick=x3.tick/\(x1.su=x3.su/\(x1.sq=x3.sq/\(x1.ss=x3.ss/\(x1.sn=x3.sn/\(x1.se=x3.se/\(x1.edge=x3.edge/\(x1.time=x3.time/\(x1.node=x3.node/\True)))))))))))))))))))/\True)/\((((RLe x3.nodes.length x1.nodes.length)/\(RI x3.nodes.length x1.nodes x3.nodes))/\True)/\((((!rightF x3)=true)->((True/\(0=0/\((byR x1).length=(0:Nat))))/\(((byR x1).length=(0:Nat))/\True)))/\(((!rightF x3)=false)->(((True/\True)/\True)/\(∃ x6:List Int,(((x6.length<=(3000:Nat))/\(∀ n7:Int,((n7∈x6)->(r64 n7))))/\(((0=0/\((1:Nat)=x6.length))/\True)/\((((RLe x6.length 1)/\(RowsEq [.int .i64] x6.length (litRows ((D.i x1.kind::@List.nil D)::@List.nil (List D))) (encL encI x6)))/\True)/\(((decide (x1.kind=(1:Int))=true)->(((decide (x1.kind=(1:Int))=true)->(((True/\True)/\((True/\True)/\True))/\(∃ x11:List Int,(((x11.length<=(3000:Nat))/\(∀ n12:Int,((n12∈x11)->(r64 n12))))/\(((0=0/\((2:Nat)=x11.length))/\True)/\((((RLe x11.length 2)/\(RowsEq [.int .i64] x11.length (litRows ((D.i x1.call::@List.nil D)::(D.i x1.urg::@List.nil D)::@List.nil (List D))) (encL encI x11)))/\True)/\((0=0/\(((byIs x6).length<=(byIs x6).length)/\(((0:Nat)+(byIs x11).length<=(byIs x11).length)/\((byIs x6).length+(byIs x11).length<=(1073741824:Nat)))))/\(∃ x14:ByteArray,((ByteArray.size x14<=(100000:Nat))/\((x1.code=x14/\True)/\(True/\((0=0/\(((byIs x6).length+(byIs x11).length<=(byIs x6).length+(byIs x11).length)/\(((0:Nat)+(bySt x14).length<=(bySt x14).length)/\((byIs x6).length+(byIs x11).length+(bySt x14).length<=(1073741824:Nat)))))/\(∃ x15:List Int,(((x15.length<=(2000:Nat))/\(∀ n16:Int,((n16∈x15)->(r64 n16))))/\(((0=0/\x1.nodes.length=x15.length)/\True)/\((((RLe x15.length x1.nodes.length)/\(RI x15.length x1.nodes x15))/\True)/\((0=0/\(((byIs x6).length+(byIs x11).length+(bySt x14).length<=(byIs x6).length+(byIs x11).length+(bySt x14).length)/\(((0:Nat)+(byLs x15).length<=(byLs x15).length)/\((byIs x6).length+(byIs x11).length+(bySt x14).length+(byLs x15).length<=(1073741824:Nat)))))/\(((decide (x1.kind=(1:Int))=true)->(((True/\True)/\True)/\(∃ x19:List Int,(((x19.length<=(3000:Nat))/\(∀ n20:Int,((n20∈x19)->(r64 n20))))/\(((0=0/\((1:Nat)=x19.length))/\True)/\((((RLe x19.length 1)/\(RowsEq [.int .i64] x19.length (litRows ((D.i x1.dist::@List.nil D)::@List.nil (List D))) (encL encI x19)))/\True)/\((0=0/\(((byIs x6).length+(byIs x11).length+(bySt x14).length+(byLs x15).length<=(byIs x6).length+(byIs x11).length+(bySt x14).length+(byLs x15).length)/\(((0:Nat)+(byIs x19).length<=(byIs x19).length)/\((byIs x6).length+(byIs x11).length+(bySt x14).length+(byLs x15).length+(byIs x19).length<=(1073741824:Nat)))))/\((0=0/\((byIs x6).length+(byIs x11).length+(bySt x14).length+(byLs x15).length+(byIs x19).length=(byR x1).length))/\(((RLe (byR x1).length ((byIs x6).length+(byIs x11).length+(bySt x14).length+(byLs x15).length+(byIs x19).length))/\(RowsEq (.int IntKind.u8::[]) (byR x1).length (appRows ((byIs x6).length+(byIs x11).length+(bySt x14).length+(byLs x15).length) (appRows ((byIs x6).length+(byIs x11).length+(bySt x14).length) (appRows ((byIs x6).length+(byIs x11).length) (appRows (byIs x6).length (encL encI (byIs x6)) 0 (encL encI (byIs x11))) 0 (encL encI (bySt x14))) 0 (encL encI (byLs x15))) 0 (encL encI (byIs x19))) (encL encI (byR x1))))/\True)))))))))/\((decide (x1.kind=(1:Int))=false)->((0=0/\((byIs x6).length+(byIs x11).length+(bySt x14).length+(byLs x15).length=(byR x1).length))/\(((RLe (byR x1).length ((byIs x6).length+(byIs x11).length+(bySt x14).length+(byLs x15).length))/\(RowsEq (.int IntKind.u8::[]) (byR x1).length (appRows ((byIs x6).length+(byIs x11).length+(bySt x14).length) (appRows ((byIs x6).length+(byIs x11).length) (appRows (byIs x6).length (encL encI (byIs x6)) 0 (encL encI (byIs x11))) 0 (encL encI (bySt x14))) 0 (encL encI (byLs x15))) (encL encI (byR x1))))/\True)))))))))))))))))))))/\((decide (x1.kind=(1:Int))=false)->(((decide (x1.kind=(3:Int))=true)->(((True/\True)/\((True/\True)/\True))/\(∃ x25:List Int,(((x25.length<=(3000:Nat))/\(∀ n26:Int,((n26∈x25)->(r64 n26))))/\(((0=0/\((2:Nat)=x25.length))/\True)/\((((RLe x25.length 2)/\(RowsEq [.int .i64] x25.length (litRows ((D.i x1.inc::@List.nil D)::(D.i x1.oth::@List.nil D)::@List.nil (List D))) (encL encI x25)))/\True)/\((0=0/\(((byIs x6).length<=(byIs x6).length)/\(((0:Nat)+(byIs x25).length<=(byIs x25).length)/\((byIs x6).length+(byIs x25).length<=(1073741824:Nat)))))/\((0=0/\((byIs x6).length+(byIs x25).length=(byR x1).length))/\(((RLe (byR x1).length ((byIs x6).length+(byIs x25).length))/\(RowsEq (.int IntKind.u8::[]) (byR x1).length (appRows (byIs x6).length (encL encI (byIs x6)) 0 (encL encI (byIs x25))) (encL encI (byR x1))))/\True)))))))))/\((decide (x1.kind=(3:Int))=false)->(((decide (x1.kind=(4:Int))=true)->(((True/\True)/\((True/\True)/\True))/\(∃ x30:List Int,(((x30.length<=(3000:Nat))/\(∀ n31:Int,((n31∈x30)->(r64 n31))))/\(((0=0/\((2:Nat)=x30.length))/\True)/\((((RLe x30.length 2)/\(RowsEq [.int .i64] x30.length (litRows ((D.i x1.call::@List.nil D)::(D.i x1.inc::@List.nil D)::@List.nil (List D))) (encL encI x30)))/\True)/\((0=0/\(((byIs x6).length<=(byIs x6).length)/\(((0:Nat)+(byIs x30).length<=(byIs x30).length)/\((byIs x6).length+(byIs x30).length<=(1073741824:Nat)))))/\((0=0/\((byIs x6).length+(byIs x30).length=(byR x1).length))/\(((RLe (byR x1).length ((byIs x6).length+(byIs x30).length))/\(RowsEq (.int IntKind.u8::[]) (byR x1).length (appRows (byIs x6).length (encL encI (byIs x6)) 0 (encL encI (byIs x30))) (encL encI (byR x1))))/\True)))))))))/\((decide (x1.kind=(4:Int))=false)->(((decide (x1.kind=(5:Int))=true)->(((True/\True)/\((True/\True)/\((True/\True)/\((True/\True)/\((True/\True)/\True)))))/\(∃ x35:List Int,(((x35.length<=(3000:Nat))/\(∀ n36:Int,((n36∈x35)->(r64 n36))))/\(((0=0/\((5:Nat)=x35.length))/\True)/\((((RLe x35.length 5)/\(RowsEq [.int .i64] x35.length (litRows ((D.i x1.su::@List.nil D)::(D.i x1.sq::@List.nil D)::(D.i x1.ss::@List.nil D)::(D.i x1.sn::@List.nil D)::(D.i x1.se::@List.nil D)::@List.nil (List D))) (encL encI x35)))/\True)/\((0=0/\(((byIs x6).length<=(byIs x6).length)/\(((0:Nat)+(byIs x35).length<=(byIs x35).length)/\((byIs x6).length+(byIs x35).length<=(1073741824:Nat)))))/\((0=0/\((byIs x6).length+(byIs x35).length=(byR x1).length))/\(((RLe (byR x1).length ((byIs x6).length+(byIs x35).length))/\(RowsEq (.int IntKind.u8::[]) (byR x1).length (appRows (byIs x6).length (encL encI (byIs x6)) 0 (encL encI (byIs x35))) (encL encI (byR x1))))/\True)))))))))/\((decide (x1.kind=(5:Int))=false)->(((decide (x1.kind=(7:Int))=true)->(((True/\True)/\((True/\True)/\True))/\(∃ x40:List Int,(((x40.length<=(3000:Nat))/\(∀ n41:Int,((n41∈x40)->(r64 n41))))/\(((0=0/\((2:Nat)=x40.length))/\True)/\((((RLe x40.length 2)/\(RowsEq [.int .i64] x40.length (litRows ((D.i x1.su::@List.nil D)::(D.i x1.inc::@List.nil D)::@List.nil (List D))) (encL encI x40)))/\True)/\((0=0/\(((byIs x6).length<=(byIs x6).length)/\(((0:Nat)+(byIs x40).length<=(byIs x40).length)/\((byIs x6).length+(byIs x40).length<=(1073741824:Nat)))))/\((0=0/\((byIs x6).length+(byIs x40).length=(byR x1).length))/\(((RLe (byR x1).length ((byIs x6).length+(byIs x40).length))/\(RowsEq (.int IntKind.u8::[]) (byR x1).length (appRows (byIs x6).length (encL encI (byIs x6)) 0 (encL encI (byIs x40))) (encL encI (byR x1))))/\True)))))))))/\((decide (x1.kind=(7:Int))=false)->(((decide (x1.kind=(8:Int))=true)->(((decide (x1.kind=(8:Int))=true)->(((True/\True)/\((True/\True)/\((True/\True)/\True)))/\(∃ x46:List Int,(((x46.length<=(3000:Nat))/\(∀ n47:Int,((n47∈x46)->(r64 n47))))/\(((0=0/\((3:Nat)=x46.length))/\True)/\((((RLe x46.length 3)/\(RowsEq [.int .i64] x46.length (litRows ((D.i x1.dist::@List.nil D)::(D.i x1.cen::@List.nil D)::(D.i x1.ep::@List.nil D)::@List.nil (List D))) (encL encI x46)))/\True)/\((0=0/\(((byIs x6).length<=(byIs x6).length)/\(((0:Nat)+(byIs x46).length<=(byIs x46).length)/\((byIs x6).length+(byIs x46).length<=(1073741824:Nat)))))/\((0=0/\((byIs x6).length+(byIs x46).length=(byR x1).length))/\(((RLe (byR x1).length ((byIs x6).length+(byIs x46).length))/\(RowsEq (.int IntKind.u8::[]) (byR x1).length (appRows (byIs x6).length (encL encI (byIs x6)) 0 (encL encI (byIs x46))) (encL encI (byR x1))))/\True)))))))))/\((decide (x1.kind=(8:Int))=false)->(((decide (x1.kind=(11:Int))=true)->(((True/\True)/\((True/\True)/\True))/\(∃ x51:List Int,(((x51.length<=(3000:Nat))/\(∀ n52:Int,((n52∈x51)->(r64 n52))))/\(((0=0/\((2:Nat)=x51.length))/\True)/\((((RLe x51.length 2)/\(RowsEq [.int .i64] x51.length (litRows ((D.i x1.edge::@List.nil D)::(D.i x1.time::@List.nil D)::@List.nil (List D))) (encL encI x51)))/\True)/\((0=0/\(((byIs x6).length<=(byIs x6).length)/\(((0:Nat)+(byIs x51).length<=(byIs x51).length)/\((byIs x6).length+(byIs x51).length<=(1073741824:Nat)))))/\((0=0/\((byIs x6).length+(byIs x51).length=(byR x1).length))/\(((RLe (byR x1).length ((byIs x6).length+(byIs x51).length))/\(RowsEq (.int IntKind.u8::[]) (byR x1).length (appRows (byIs x6).length (encL encI (byIs x6)) 0 (encL encI (byIs x51))) (encL encI (byR x1))))/\True)))))))))/\((decide (x1.kind=(11:Int))=false)->(((decide (x1.kind=(12:Int))=true)->(((True/\True)/\True)/\(∃ x56:List Int,(((x56.length<=(3000:Nat))/\(∀ n57:Int,((n57∈x56)->(r64 n57))))/\(((0=0/\((1:Nat)=x56.length))/\True)/\((((RLe x56.length 1)/\(RowsEq [.int .i64] x56.length (litRows ((D.i x1.tick::@List.nil D)::@List.nil (List D))) (encL encI x56)))/\True)/\((0=0/\(((byIs x6).length<=(byIs x6).length)/\(((0:Nat)+(byIs x56).length<=(byIs x56).length)/\((byIs x6).length+(byIs x56).length<=(1073741824:Nat)))))/\((0=0/\((byIs x6).length+(byIs x56).length=(byR x1).length))/\(((RLe (byR x1).length ((byIs x6).length+(byIs x56).length))/\(RowsEq (.int IntKind.u8::[]) (byR x1).length (appRows (byIs x6).length (encL encI (byIs x6)) 0 (encL encI (byIs x56))) (encL encI (byR x1))))/\True)))))))))/\((decide (x1.kind=(12:Int))=false)->(((decide (x1.kind=(13:Int))=true)->(((True/\True)/\True)/\(∃ x61:List Int,(((x61.length<=(3000:Nat))/\(∀ n62:Int,((n62∈x61)->(r64 n62))))/\(((0=0/\((1:Nat)=x61.length))/\True)/\((((RLe x61.length 1)/\(RowsEq [.int .i64] x61.length (litRows ((D.i x1.inc::@List.nil D)::@List.nil (List D))) (encL encI x61)))/\True)/\((0=0/\(((byIs x6).length<=(byIs x6).length)/\(((0:Nat)+(byIs x61).length<=(byIs x61).length)/\((byIs x6).length+(byIs x61).length<=(1073741824:Nat)))))/\((0=0/\((byIs x6).length+(byIs x61).length=(byR x1).length))/\(((RLe (byR x1).length ((byIs x6).length+(byIs x61).length))/\(RowsEq (.int IntKind.u8::[]) (byR x1).length (appRows (byIs x6).length (encL encI (byIs x6)) 0 (encL encI (byIs x61))) (encL encI (byR x1))))/\True)))))))))/\((decide (x1.kind=(13:Int))=false)->(((decide (x1.kind=(14:Int))=true)->(((True/\True)/\((True/\True)/\True))/\(∃ x66:List Int,(((x66.length<=(3000:Nat))/\(∀ n67:Int,((n67∈x66)->(r64 n67))))/\(((0=0/\((2:Nat)=x66.length))/\True)/\((((RLe x66.length 2)/\(RowsEq [.int .i64] x66.length (litRows ((D.i x1.su::@List.nil D)::(D.i x1.node::@List.nil D)::@List.nil (List D))) (encL encI x66)))/\True)/\((0=0/\(((byIs x6).length<=(byIs x6).length)/\(((0:Nat)+(byIs x66).length<=(byIs x66).length)/\((byIs x6).length+(byIs x66).length<=(1073741824:Nat)))))/\((0=0/\((byIs x6).length+(byIs x66).length=(byR x1).length))/\(((RLe (byR x1).length ((byIs x6).length+(byIs x66).length))/\(RowsEq (.int IntKind.u8::[]) (byR x1).length (appRows (byIs x6).length (encL encI (byIs x6)) 0 (encL encI (byIs x66))) (encL encI (byR x1))))/\True)))))))))/\((decide (x1.kind=(14:Int))=false)->(((decide (x1.kind=(15:Int))=true)->(((True/\True)/\True)/\(∃ x71:List Int,(((x71.length<=(3000:Nat))/\(∀ n72:Int,((n72∈x71)->(r64 n72))))/\(((0=0/\((1:Nat)=x71.length))/\True)/\((((RLe x71.length 1)/\(RowsEq [.int .i64] x71.length (litRows ((D.i x1.call::@List.nil D)::@List.nil (List D))) (encL encI x71)))/\True)/\((0=0/\(((byIs x6).length<=(byIs x6).length)/\(((0:Nat)+(byIs x71).length<=(byIs x71).length)/\((byIs x6).length+(byIs x71).length<=(1073741824:Nat)))))/\((0=0/\((byIs x6).length+(byIs x71).length=(byR x1).length))/\(((RLe (byR x1).length ((byIs x6).length+(byIs x71).length))/\(RowsEq (.int IntKind.u8::[]) (byR x1).length (appRows (byIs x6).length (encL encI (byIs x6)) 0 (encL encI (byIs x71))) (encL encI (byR x1))))/\True)))))))))/\((decide (x1.kind=(15:Int))=false)->((0=0/\((byIs x6).length=(byR x1).length))/\(((RLe (byR x1).length (byIs x6).length)/\(RowsEq (.int IntKind.u8::[]) (byR x1).length (encL encI (byIs x6)) (encL encI (byR x1))))/\True)))))))))))))))/\((decide (x1.kind=(8:Int))=false)->(((decide (x1.kind=(9:Int))=true)->(((decide (x1.kind=(9:Int))=true)->(((True/\True)/\((True/\True)/\((True/\True)/\True)))/\(∃ x78:List Int,(((x78.length<=(3000:Nat))/\(∀ n79:Int,((n79∈x78)->(r64 n79))))/\(((0=0/\((3:Nat)=x78.length))/\True)/\((((RLe x78.length 3)/\(RowsEq [.int .i64] x78.length (litRows ((D.i x1.dist::@List.nil D)::(D.i x1.cen::@List.nil D)::(D.i x1.ep::@List.nil D)::@List.nil (List D))) (encL encI x78)))/\True)/\((0=0/\(((byIs x6).length<=(byIs x6).length)/\(((0:Nat)+(byIs x78).length<=(byIs x78).length)/\((byIs x6).length+(byIs x78).length<=(1073741824:Nat)))))/\((0=0/\((byIs x6).length+(byIs x78).length=(byR x1).length))/\(((RLe (byR x1).length ((byIs x6).length+(byIs x78).length))/\(RowsEq (.int IntKind.u8::[]) (byR x1).length (appRows (byIs x6).length (encL encI (byIs x6)) 0 (encL encI (byIs x78))) (encL encI (byR x1))))/\True)))))))))/\((decide (x1.kind=(9:Int))=false)->(((decide (x1.kind=(11:Int))=true)->(((True/\True)/\((True/\True)/\True))/\(∃ x83:List Int,(((x83.length<=(3000:Nat))/\(∀ n84:Int,((n84∈x83)->(r64 n84))))/\(((0=0/\((2:Nat)=x83.length))/\True)/\((((RLe x83.length 2)/\(RowsEq [.int .i64] x83.length (litRows ((D.i x1.edge::@List.nil D)::(D.i x1.time::@List.nil D)::@List.nil (List D))) (encL encI x83)))/\True)/\((0=0/\(((byIs x6).length<=(byIs x6).length)/\(((0:Nat)+(byIs x83).length<=(byIs x83).length)/\((byIs x6).length+(byIs x83).length<=(1073741824:Nat)))))/\((0=0/\((byIs x6).length+(byIs x83).length=(byR x1).length))/\(((RLe (byR x1).length ((byIs x6).length+(byIs x83).length))/\(RowsEq (.int IntKind.u8::[]) (byR x1).length (appRows (byIs x6).length (encL encI (byIs x6)) 0 (encL encI (byIs x83))) (encL encI (byR x1))))/\True)))))))))/\((decide (x1.kind=(11:Int))=false)->(((decide (x1.kind=(12:Int))=true)->(((True/\True)/\True)/\(∃ x88:List Int,(((x88.length<=(3000:Nat))/\(∀ n89:Int,((n89∈x88)->(r64 n89))))/\(((0=0/\((1:Nat)=x88.length))/\True)/\((((RLe x88.length 1)/\(RowsEq [.int .i64] x88.length (litRows ((D.i x1.tick::@List.nil D)::@List.nil (List D))) (encL encI x88)))/\True)/\((0=0/\(((byIs x6).length<=(byIs x6).length)/\(((0:Nat)+(byIs x88).length<=(byIs x88).length)/\((byIs x6).length+(byIs x88).length<=(1073741824:Nat)))))/\((0=0/\((byIs x6).length+(byIs x88).length=(byR x1).length))/\(((RLe (byR x1).length ((byIs x6).length+(byIs x88).length))/\(RowsEq (.int IntKind.u8::[]) (byR x1).length (appRows (byIs x6).length (encL encI (byIs x6)) 0 (encL encI (byIs x88))) (encL encI (byR x1))))/\True)))))))))/\((decide (x1.kind=(12:Int))=false)->(((decide (x1.kind=(13:Int))=true)->(((True/\True)/\True)/\(∃ x93:List Int,(((x93.length<=(3000:Nat))/\(∀ n94:Int,((n94∈x93)->(r64 n94))))/\(((0=0/\((1:Nat)=x93.length))/\True)/\((((RLe x93.length 1)/\(RowsEq [.int .i64] x93.length (litRows ((D.i x1.inc::@List.nil D)::@List.nil (List D))) (encL encI x93)))/\True)/\((0=0/\(((byIs x6).length<=(byIs x6).length)/\(((0:Nat)+(byIs x93).length<=(byIs x93).length)/\((byIs x6).length+(byIs x93).length<=(1073741824:Nat)))))/\((0=0/\((byIs x6).length+(byIs x93).length=(byR x1).length))/\(((RLe (byR x1).length ((byIs x6).length+(byIs x93).length))/\(RowsEq (.int IntKind.u8::[]) (byR x1).length (appRows (byIs x6).length (encL encI (byIs x6)) 0 (encL encI (byIs x93))) (encL encI (byR x1))))/\True)))))))))/\((decide (x1.kind=(13:Int))=false)->(((decide (x1.kind=(14:Int))=true)->(((True/\True)/\((True/\True)/\True))/\(∃ x98:List Int,(((x98.length<=(3000:Nat))/\(∀ n99:Int,((n99∈x98)->(r64 n99))))/\(((0=0/\((2:Nat)=x98.length))/\True)/\((((RLe x98.length 2)/\(RowsEq [.int .i64] x98.length (litRows ((D.i x1.su::@List.nil D)::(D.i x1.node::@List.nil D)::@List.nil (List D))) (encL encI x98)))/\True)/\((0=0/\(((byIs x6).length<=(byIs x6).length)/\(((0:Nat)+(byIs x98).length<=(byIs x98).length)/\((byIs x6).length+(byIs x98).length<=(1073741824:Nat)))))/\((0=0/\((byIs x6).length+(byIs x98).length=(byR x1).length))/\(((RLe (byR x1).length ((byIs x6).length+(byIs x98).length))/\(RowsEq (.int IntKind.u8::[]) (byR x1).length (appRows (byIs x6).length (encL encI (byIs x6)) 0 (encL encI (byIs x98))) (encL encI (byR x1))))/\True)))))))))/\((decide (x1.kind=(14:Int))=false)->(((decide (x1.kind=(15:Int))=true)->(((True/\True)/\True)/\(∃ x103:List Int,(((x103.length<=(3000:Nat))/\(∀ n104:Int,((n104∈x103)->(r64 n104))))/\(((0=0/\((1:Nat)=x103.length))/\True)/\((((RLe x103.length 1)/\(RowsEq [.int .i64] x103.length (litRows ((D.i x1.call::@List.nil D)::@List.nil (List D))) (encL encI x103)))/\True)/\((0=0/\(((byIs x6).length<=(byIs x6).length)/\(((0:Nat)+(byIs x103).length<=(byIs x103).length)/\((byIs x6).length+(byIs x103).length<=(1073741824:Nat)))))/\((0=0/\((byIs x6).length+(byIs x103).length=(byR x1).length))/\(((RLe (byR x1).length ((byIs x6).length+(byIs x103).length))/\(RowsEq (.int IntKind.u8::[]) (byR x1).length (appRows (byIs x6).length (encL encI (byIs x6)) 0 (encL encI (byIs x103))) (encL encI (byR x1))))/\True)))))))))/\((decide (x1.kind=(15:Int))=false)->((0=0/\((byIs x6).length=(byR x1).length))/\(((RLe (byR x1).length (byIs x6).length)/\(RowsEq (.int IntKind.u8::[]) (byR x1).length (encL encI (byIs x6)) (encL encI (byR x1))))/\True)))))))))))))))/\((decide (x1.kind=(9:Int))=false)->(((decide (x1.kind=(10:Int))=true)->(((True/\True)/\((True/\True)/\((True/\True)/\True)))/\(∃ x109:List Int,(((x109.length<=(3000:Nat))/\(∀ n110:Int,((n110∈x109)->(r64 n110))))/\(((0=0/\((3:Nat)=x109.length))/\True)/\((((RLe x109.length 3)/\(RowsEq [.int .i64] x109.length (litRows ((D.i x1.dist::@List.nil D)::(D.i x1.cen::@List.nil D)::(D.i x1.ep::@List.nil D)::@List.nil (List D))) (encL encI x109)))/\True)/\((0=0/\(((byIs x6).length<=(byIs x6).length)/\(((0:Nat)+(byIs x109).length<=(byIs x109).length)/\((byIs x6).length+(byIs x109).length<=(1073741824:Nat)))))/\((0=0/\((byIs x6).length+(byIs x109).length=(byR x1).length))/\(((RLe (byR x1).length ((byIs x6).length+(byIs x109).length))/\(RowsEq (.int IntKind.u8::[]) (byR x1).length (appRows (byIs x6).length (encL encI (byIs x6)) 0 (encL encI (byIs x109))) (encL encI (byR x1))))/\True)))))))))/\((decide (x1.kind=(10:Int))=false)->(((decide (x1.kind=(11:Int))=true)->(((True/\True)/\((True/\True)/\True))/\(∃ x114:List Int,(((x114.length<=(3000:Nat))/\(∀ n115:Int,((n115∈x114)->(r64 n115))))/\(((0=0/\((2:Nat)=x114.length))/\True)/\((((RLe x114.length 2)/\(RowsEq [.int .i64] x114.length (litRows ((D.i x1.edge::@List.nil D)::(D.i x1.time::@List.nil D)::@List.nil (List D))) (encL encI x114)))/\True)/\((0=0/\(((byIs x6).length<=(byIs x6).length)/\(((0:Nat)+(byIs x114).length<=(byIs x114).length)/\((byIs x6).length+(byIs x114).length<=(1073741824:Nat)))))/\((0=0/\((byIs x6).length+(byIs x114).length=(byR x1).length))/\(((RLe (byR x1).length ((byIs x6).length+(byIs x114).length))/\(RowsEq (.int IntKind.u8::[]) (byR x1).length (appRows (byIs x6).length (encL encI (byIs x6)) 0 (encL encI (byIs x114))) (encL encI (byR x1))))/\True)))))))))/\((decide (x1.kind=(11:Int))=false)->(((decide (x1.kind=(12:Int))=true)->(((True/\True)/\True)/\(∃ x119:List Int,(((x119.length<=(3000:Nat))/\(∀ n120:Int,((n120∈x119)->(r64 n120))))/\(((0=0/\((1:Nat)=x119.length))/\True)/\((((RLe x119.length 1)/\(RowsEq [.int .i64] x119.length (litRows ((D.i x1.tick::@List.nil D)::@List.nil (List D))) (encL encI x119)))/\True)/\((0=0/\(((byIs x6).length<=(byIs x6).length)/\(((0:Nat)+(byIs x119).length<=(byIs x119).length)/\((byIs x6).length+(byIs x119).length<=(1073741824:Nat)))))/\((0=0/\((byIs x6).length+(byIs x119).length=(byR x1).length))/\(((RLe (byR x1).length ((byIs x6).length+(byIs x119).length))/\(RowsEq (.int IntKind.u8::[]) (byR x1).length (appRows (byIs x6).length (encL encI (byIs x6)) 0 (encL encI (byIs x119))) (encL encI (byR x1))))/\True)))))))))/\((decide (x1.kind=(12:Int))=false)->(((decide (x1.kind=(13:Int))=true)->(((True/\True)/\True)/\(∃ x124:List Int,(((x124.length<=(3000:Nat))/\(∀ n125:Int,((n125∈x124)->(r64 n125))))/\(((0=0/\((1:Nat)=x124.length))/\True)/\((((RLe x124.length 1)/\(RowsEq [.int .i64] x124.length (litRows ((D.i x1.inc::@List.nil D)::@List.nil (List D))) (encL encI x124)))/\True)/\((0=0/\(((byIs x6).length<=(byIs x6).length)/\(((0:Nat)+(byIs x124).length<=(byIs x124).length)/\((byIs x6).length+(byIs x124).length<=(1073741824:Nat)))))/\((0=0/\((byIs x6).length+(byIs x124).length=(byR x1).length))/\(((RLe (byR x1).length ((byIs x6).length+(byIs x124).length))/\(RowsEq (.int IntKind.u8::[]) (byR x1).length (appRows (byIs x6).length (encL encI (byIs x6)) 0 (encL encI (byIs x124))) (encL encI (byR x1))))/\True)))))))))/\((decide (x1.kind=(13:Int))=false)->(((decide (x1.kind=(14:Int))=true)->(((True/\True)/\((True/\True)/\True))/\(∃ x129:List Int,(((x129.length<=(3000:Nat))/\(∀ n130:Int,((n130∈x129)->(r64 n130))))/\(((0=0/\((2:Nat)=x129.length))/\True)/\((((RLe x129.length 2)/\(RowsEq [.int .i64] x129.length (litRows ((D.i x1.su::@List.nil D)::(D.i x1.node::@List.nil D)::@List.nil (List D))) (encL encI x129)))/\True)/\((0=0/\(((byIs x6).length<=(byIs x6).length)/\(((0:Nat)+(byIs x129).length<=(byIs x129).length)/\((byIs x6).length+(byIs x129).length<=(1073741824:Nat)))))/\((0=0/\((byIs x6).length+(byIs x129).length=(byR x1).length))/\(((RLe (byR x1).length ((byIs x6).length+(byIs x129).length))/\(RowsEq (.int IntKind.u8::[]) (byR x1).length (appRows (byIs x6).length (encL encI (byIs x6)) 0 (encL encI (byIs x129))) (encL encI (byR x1))))/\True)))))))))/\((decide (x1.kind=(14:Int))=false)->(((decide (x1.kind=(15:Int))=true)->(((True/\True)/\True)/\(∃ x134:List Int,(((x134.length<=(3000:Nat))/\(∀ n135:Int,((n135∈x134)->(r64 n135))))/\(((0=0/\((1:Nat)=x134.length))/\True)/\((((RLe x134.length 1)/\(RowsEq [.int .i64] x134.length (litRows ((D.i x1.call::@List.nil D)::@List.nil (List D))) (encL encI x134)))/\True)/\((0=0/\(((byIs x6).length<=(byIs x6).length)/\(((0:Nat)+(byIs x134).length<=(byIs x134).length)/\((byIs x6).length+(byIs x134).length<=(1073741824:Nat)))))/\((0=0/\((byIs x6).length+(byIs x134).length=(byR x1).length))/\(((RLe (byR x1).length ((byIs x6).length+(byIs x134).length))/\(RowsEq (.int IntKind.u8::[]) (byR x1).length (appRows (byIs x6).length (encL encI (byIs x6)) 0 (encL encI (byIs x134))) (encL encI (byR x1))))/\True)))))))))/\((decide (x1.kind=(15:Int))=false)->((0=0/\((byIs x6).length=(byR x1).length))/\(((RLe (byR x1).length (byIs x6).length)/\(RowsEq (.int IntKind.u8::[]) (byR x1).length (encL encI (byIs x6)) (encL encI (byR x1))))/\True)))))))))))))))))))))))))))))/\((decide (x1.kind=(1:Int))=false)->(((decide (x1.kind=(2:Int))=true)->(((True/\True)/\((True/\True)/\True))/\(∃ x140:List Int,(((x140.length<=(3000:Nat))/\(∀ n141:Int,((n141∈x140)->(r64 n141))))/\(((0=0/\((2:Nat)=x140.length))/\True)/\((((RLe x140.length 2)/\(RowsEq [.int .i64] x140.length (litRows ((D.i x1.call::@List.nil D)::(D.i x1.urg::@List.nil D)::@List.nil (List D))) (encL encI x140)))/\True)/\((0=0/\(((byIs x6).length<=(byIs x6).length)/\(((0:Nat)+(byIs x140).length<=(byIs x140).length)/\((byIs x6).length+(byIs x140).length<=(1073741824:Nat)))))/\(∃ x143:ByteArray,((ByteArray.size x143<=(100000:Nat))/\((x1.code=x143/\True)/\(True/\((0=0/\(((byIs x6).length+(byIs x140).length<=(byIs x6).length+(byIs x140).length)/\(((0:Nat)+(bySt x143).length<=(bySt x143).length)/\((byIs x6).length+(byIs x140).length+(bySt x143).length<=(1073741824:Nat)))))/\(∃ x144:List Int,(((x144.length<=(2000:Nat))/\(∀ n145:Int,((n145∈x144)->(r64 n145))))/\(((0=0/\x1.nodes.length=x144.length)/\True)/\((((RLe x144.length x1.nodes.length)/\(RI x144.length x1.nodes x144))/\True)/\((0=0/\(((byIs x6).length+(byIs x140).length+(bySt x143).length<=(byIs x6).length+(byIs x140).length+(bySt x143).length)/\(((0:Nat)+(byLs x144).length<=(byLs x144).length)/\((byIs x6).length+(byIs x140).length+(bySt x143).length+(byLs x144).length<=(1073741824:Nat)))))/\(((decide (x1.kind=(1:Int))=true)->(((True/\True)/\True)/\(∃ x148:List Int,(((x148.length<=(3000:Nat))/\(∀ n149:Int,((n149∈x148)->(r64 n149))))/\(((0=0/\((1:Nat)=x148.length))/\True)/\((((RLe x148.length 1)/\(RowsEq [.int .i64] x148.length (litRows ((D.i x1.dist::@List.nil D)::@List.nil (List D))) (encL encI x148)))/\True)/\((0=0/\(((byIs x6).length+(byIs x140).length+(bySt x143).length+(byLs x144).length<=(byIs x6).length+(byIs x140).length+(bySt x143).length+(byLs x144).length)/\(((0:Nat)+(byIs x148).length<=(byIs x148).length)/\((byIs x6).length+(byIs x140).length+(bySt x143).length+(byLs x144).length+(byIs x148).length<=(1073741824:Nat)))))/\((0=0/\((byIs x6).length+(byIs x140).length+(bySt x143).length+(byLs x144).length+(byIs x148).length=(byR x1).length))/\(((RLe (byR x1).length ((byIs x6).length+(byIs x140).length+(bySt x143).length+(byLs x144).length+(byIs x148).length))/\(RowsEq (.int IntKind.u8::[]) (byR x1).length (appRows ((byIs x6).length+(byIs x140).length+(bySt x143).length+(byLs x144).length) (appRows ((byIs x6).length+(byIs x140).length+(bySt x143).length) (appRows ((byIs x6).length+(byIs x140).length) (appRows (byIs x6).length (encL encI (byIs x6)) 0 (encL encI (byIs x140))) 0 (encL encI (bySt x143))) 0 (encL encI (byLs x144))) 0 (encL encI (byIs x148))) (encL encI (byR x1))))/\True)))))))))/\((decide (x1.kind=(1:Int))=false)->((0=0/\((byIs x6).length+(byIs x140).length+(bySt x143).length+(byLs x144).length=(byR x1).length))/\(((RLe (byR x1).length ((byIs x6).length+(byIs x140).length+(bySt x143).length+(byLs x144).length))/\(RowsEq (.int IntKind.u8::[]) (byR x1).length (appRows ((byIs x6).length+(byIs x140).length+(bySt x143).length) (appRows ((byIs x6).length+(byIs x140).length) (appRows (byIs x6).length (encL encI (byIs x6)) 0 (encL encI (byIs x140))) 0 (encL encI (bySt x143))) 0 (encL encI (byLs x144))) (encL encI (byR x1))))/\True)))))))))))))))))))))/\((decide (x1.kind=(2:Int))=false)->(((decide (x1.kind=(3:Int))=true)->(((True/\True)/\((True/\True)/\True))/\(∃ x154:List Int,(((x154.length<=(3000:Nat))/\(∀ n155:Int,((n155∈x154)->(r64 n155))))/\(((0=0/\((2:Nat)=x154.length))/\True)/\((((RLe x154.length 2)/\(RowsEq [.int .i64] x154.length (litRows ((D.i x1.inc::@List.nil D)::(D.i x1.oth::@List.nil D)::@List.nil (List D))) (encL encI x154)))/\True)/\((0=0/\(((byIs x6).length<=(byIs x6).length)/\(((0:Nat)+(byIs x154).length<=(byIs x154).length)/\((byIs x6).length+(byIs x154).length<=(1073741824:Nat)))))/\((0=0/\((byIs x6).length+(byIs x154).length=(byR x1).length))/\(((RLe (byR x1).length ((byIs x6).length+(byIs x154).length))/\(RowsEq (.int IntKind.u8::[]) (byR x1).length (appRows (byIs x6).length (encL encI (byIs x6)) 0 (encL encI (byIs x154))) (encL encI (byR x1))))/\True)))))))))/\((decide (x1.kind=(3:Int))=false)->(((decide (x1.kind=(4:Int))=true)->(((True/\True)/\((True/\True)/\True))/\(∃ x159:List Int,(((x159.length<=(3000:Nat))/\(∀ n160:Int,((n160∈x159)->(r64 n160))))/\(((0=0/\((2:Nat)=x159.length))/\True)/\((((RLe x159.length 2)/\(RowsEq [.int .i64] x159.length (litRows ((D.i x1.call::@List.nil D)::(D.i x1.inc::@List.nil D)::@List.nil (List D))) (encL encI x159)))/\True)/\((0=0/\(((byIs x6).length<=(byIs x6).length)/\(((0:Nat)+(byIs x159).length<=(byIs x159).length)/\((byIs x6).length+(byIs x159).length<=(1073741824:Nat)))))/\((0=0/\((byIs x6).length+(byIs x159).length=(byR x1).length))/\(((RLe (byR x1).length ((byIs x6).length+(byIs x159).length))/\(RowsEq (.int IntKind.u8::[]) (byR x1).length (appRows (byIs x6).length (encL encI (byIs x6)) 0 (encL encI (byIs x159))) (encL encI (byR x1))))/\True)))))))))/\((decide (x1.kind=(4:Int))=false)->(((decide (x1.kind=(5:Int))=true)->(((True/\True)/\((True/\True)/\((True/\True)/\((True/\True)/\((True/\True)/\True)))))/\(∃ x164:List Int,(((x164.length<=(3000:Nat))/\(∀ n165:Int,((n165∈x164)->(r64 n165))))/\(((0=0/\((5:Nat)=x164.length))/\True)/\((((RLe x164.length 5)/\(RowsEq [.int .i64] x164.length (litRows ((D.i x1.su::@List.nil D)::(D.i x1.sq::@List.nil D)::(D.i x1.ss::@List.nil D)::(D.i x1.sn::@List.nil D)::(D.i x1.se::@List.nil D)::@List.nil (List D))) (encL encI x164)))/\True)/\((0=0/\(((byIs x6).length<=(byIs x6).length)/\(((0:Nat)+(byIs x164).length<=(byIs x164).length)/\((byIs x6).length+(byIs x164).length<=(1073741824:Nat)))))/\((0=0/\((byIs x6).length+(byIs x164).length=(byR x1).length))/\(((RLe (byR x1).length ((byIs x6).length+(byIs x164).length))/\(RowsEq (.int IntKind.u8::[]) (byR x1).length (appRows (byIs x6).length (encL encI (byIs x6)) 0 (encL encI (byIs x164))) (encL encI (byR x1))))/\True)))))))))/\((decide (x1.kind=(5:Int))=false)->(((decide (x1.kind=(7:Int))=true)->(((True/\True)/\((True/\True)/\True))/\(∃ x169:List Int,(((x169.length<=(3000:Nat))/\(∀ n170:Int,((n170∈x169)->(r64 n170))))/\(((0=0/\((2:Nat)=x169.length))/\True)/\((((RLe x169.length 2)/\(RowsEq [.int .i64] x169.length (litRows ((D.i x1.su::@List.nil D)::(D.i x1.inc::@List.nil D)::@List.nil (List D))) (encL encI x169)))/\True)/\((0=0/\(((byIs x6).length<=(byIs x6).length)/\(((0:Nat)+(byIs x169).length<=(byIs x169).length)/\((byIs x6).length+(byIs x169).length<=(1073741824:Nat)))))/\((0=0/\((byIs x6).length+(byIs x169).length=(byR x1).length))/\(((RLe (byR x1).length ((byIs x6).length+(byIs x169).length))/\(RowsEq (.int IntKind.u8::[]) (byR x1).length (appRows (byIs x6).length (encL encI (byIs x6)) 0 (encL encI (byIs x169))) (encL encI (byR x1))))/\True)))))))))/\((decide (x1.kind=(7:Int))=false)->(((decide (x1.kind=(8:Int))=true)->(((decide (x1.kind=(8:Int))=true)->(((True/\True)/\((True/\True)/\((True/\True)/\True)))/\(∃ x175:List Int,(((x175.length<=(3000:Nat))/\(∀ n176:Int,((n176∈x175)->(r64 n176))))/\(((0=0/\((3:Nat)=x175.length))/\True)/\((((RLe x175.length 3)/\(RowsEq [.int .i64] x175.length (litRows ((D.i x1.dist::@List.nil D)::(D.i x1.cen::@List.nil D)::(D.i x1.ep::@List.nil D)::@List.nil (List D))) (encL encI x175)))/\True)/\((0=0/\(((byIs x6).length<=(byIs x6).length)/\(((0:Nat)+(byIs x175).length<=(byIs x175).length)/\((byIs x6).length+(byIs x175).length<=(1073741824:Nat)))))/\((0=0/\((byIs x6).length+(byIs x175).length=(byR x1).length))/\(((RLe (byR x1).length ((byIs x6).length+(byIs x175).length))/\(RowsEq (.int IntKind.u8::[]) (byR x1).length (appRows (byIs x6).length (encL encI (byIs x6)) 0 (encL encI (byIs x175))) (encL encI (byR x1))))/\True)))))))))/\((decide (x1.kind=(8:Int))=false)->(((decide (x1.kind=(11:Int))=true)->(((True/\True)/\((True/\True)/\True))/\(∃ x180:List Int,(((x180.length<=(3000:Nat))/\(∀ n181:Int,((n181∈x180)->(r64 n181))))/\(((0=0/\((2:Nat)=x180.length))/\True)/\((((RLe x180.length 2)/\(RowsEq [.int .i64] x180.length (litRows ((D.i x1.edge::@List.nil D)::(D.i x1.time::@List.nil D)::@List.nil (List D))) (encL encI x180)))/\True)/\((0=0/\(((byIs x6).length<=(byIs x6).length)/\(((0:Nat)+(byIs x180).length<=(byIs x180).length)/\((byIs x6).length+(byIs x180).length<=(1073741824:Nat)))))/\((0=0/\((byIs x6).length+(byIs x180).length=(byR x1).length))/\(((RLe (byR x1).length ((byIs x6).length+(byIs x180).length))/\(RowsEq (.int IntKind.u8::[]) (byR x1).length (appRows (byIs x6).length (encL encI (byIs x6)) 0 (encL encI (byIs x180))) (encL encI (byR x1))))/\True)))))))))/\((decide (x1.kind=(11:Int))=false)->(((decide (x1.kind=(12:Int))=true)->(((True/\True)/\True)/\(∃ x185:List Int,(((x185.length<=(3000:Nat))/\(∀ n186:Int,((n186∈x185)->(r64 n186))))/\(((0=0/\((1:Nat)=x185.length))/\True)/\((((RLe x185.length 1)/\(RowsEq [.int .i64] x185.length (litRows ((D.i x1.tick::@List.nil D)::@List.nil (List D))) (encL encI x185)))/\True)/\((0=0/\(((byIs x6).length<=(byIs x6).length)/\(((0:Nat)+(byIs x185).length<=(byIs x185).length)/\((byIs x6).length+(byIs x185).length<=(1073741824:Nat)))))/\((0=0/\((byIs x6).length+(byIs x185).length=(byR x1).length))/\(((RLe (byR x1).length ((byIs x6).length+(byIs x185).length))/\(RowsEq (.int IntKind.u8::[]) (byR x1).length (appRows (byIs x6).length (encL encI (byIs x6)) 0 (encL encI (byIs x185))) (encL encI (byR x1))))/\True)))))))))/\((decide (x1.kind=(12:Int))=false)->(((decide (x1.kind=(13:Int))=true)->(((True/\True)/\True)/\(∃ x190:List Int,(((x190.length<=(3000:Nat))/\(∀ n191:Int,((n191∈x190)->(r64 n191))))/\(((0=0/\((1:Nat)=x190.length))/\True)/\((((RLe x190.length 1)/\(RowsEq [.int .i64] x190.length (litRows ((D.i x1.inc::@List.nil D)::@List.nil (List D))) (encL encI x190)))/\True)/\((0=0/\(((byIs x6).length<=(byIs x6).length)/\(((0:Nat)+(byIs x190).length<=(byIs x190).length)/\((byIs x6).length+(byIs x190).length<=(1073741824:Nat)))))/\((0=0/\((byIs x6).length+(byIs x190).length=(byR x1).length))/\(((RLe (byR x1).length ((byIs x6).length+(byIs x190).length))/\(RowsEq (.int IntKind.u8::[]) (byR x1).length (appRows (byIs x6).length (encL encI (byIs x6)) 0 (encL encI (byIs x190))) (encL encI (byR x1))))/\True)))))))))/\((decide (x1.kind=(13:Int))=false)->(((decide (x1.kind=(14:Int))=true)->(((True/\True)/\((True/\True)/\True))/\(∃ x195:List Int,(((x195.length<=(3000:Nat))/\(∀ n196:Int,((n196∈x195)->(r64 n196))))/\(((0=0/\((2:Nat)=x195.length))/\True)/\((((RLe x195.length 2)/\(RowsEq [.int .i64] x195.length (litRows ((D.i x1.su::@List.nil D)::(D.i x1.node::@List.nil D)::@List.nil (List D))) (encL encI x195)))/\True)/\((0=0/\(((byIs x6).length<=(byIs x6).length)/\(((0:Nat)+(byIs x195).length<=(byIs x195).length)/\((byIs x6).length+(byIs x195).length<=(1073741824:Nat)))))/\((0=0/\((byIs x6).length+(byIs x195).length=(byR x1).length))/\(((RLe (byR x1).length ((byIs x6).length+(byIs x195).length))/\(RowsEq (.int IntKind.u8::[]) (byR x1).length (appRows (byIs x6).length (encL encI (byIs x6)) 0 (encL encI (byIs x195))) (encL encI (byR x1))))/\True)))))))))/\((decide (x1.kind=(14:Int))=false)->(((decide (x1.kind=(15:Int))=true)->(((True/\True)/\True)/\(∃ x200:List Int,(((x200.length<=(3000:Nat))/\(∀ n201:Int,((n201∈x200)->(r64 n201))))/\(((0=0/\((1:Nat)=x200.length))/\True)/\((((RLe x200.length 1)/\(RowsEq [.int .i64] x200.length (litRows ((D.i x1.call::@List.nil D)::@List.nil (List D))) (encL encI x200)))/\True)/\((0=0/\(((byIs x6).length<=(byIs x6).length)/\(((0:Nat)+(byIs x200).length<=(byIs x200).length)/\((byIs x6).length+(byIs x200).length<=(1073741824:Nat)))))/\((0=0/\((byIs x6).length+(byIs x200).length=(byR x1).length))/\(((RLe (byR x1).length ((byIs x6).length+(byIs x200).length))/\(RowsEq (.int IntKind.u8::[]) (byR x1).length (appRows (byIs x6).length (encL encI (byIs x6)) 0 (encL encI (byIs x200))) (encL encI (byR x1))))/\True)))))))))/\((decide (x1.kind=(15:Int))=false)->((0=0/\((byIs x6).length=(byR x1).length))/\(((RLe (byR x1).length (byIs x6).length)/\(RowsEq (.int IntKind.u8::[]) (byR x1).length (encL encI (byIs x6)) (encL encI (byR x1))))/\True)))))))))))))))/\((decide (x1.kind=(8:Int))=false)->(((decide (x1.kind=(9:Int))=true)->(((decide (x1.kind=(9:Int))=true)->(((True/\True)/\((True/\True)/\((True/\True)/\True)))/\(∃ x207:List Int,(((x207.length<=(3000:Nat))/\(∀ n208:Int,((n208∈x207)->(r64 n208))))/\(((0=0/\((3:Nat)=x207.length))/\True)/\((((RLe x207.length 3)/\(RowsEq [.int .i64] x207.length (litRows ((D.i x1.dist::@List.nil D)::(D.i x1.cen::@List.nil D)::(D.i x1.ep::@List.nil D)::@List.nil (List D))) (encL encI x207)))/\True)/\((0=0/\(((byIs x6).length<=(byIs x6).length)/\(((0:Nat)+(byIs x207).length<=(byIs x207).length)/\((byIs x6).length+(byIs x207).length<=(1073741824:Nat)))))/\((0=0/\((byIs x6).length+(byIs x207).length=(byR x1).length))/\(((RLe (byR x1).length ((byIs x6).length+(byIs x207).length))/\(RowsEq (.int IntKind.u8::[]) (byR x1).length (appRows (byIs x6).length (encL encI (byIs x6)) 0 (encL encI (byIs x207))) (encL encI (byR x1))))/\True)))))))))/\((decide (x1.kind=(9:Int))=false)->(((decide (x1.kind=(11:Int))=true)->(((True/\True)/\((True/\True)/\True))/\(∃ x212:List Int,(((x212.length<=(3000:Nat))/\(∀ n213:Int,((n213∈x212)->(r64 n213))))/\(((0=0/\((2:Nat)=x212.length))/\True)/\((((RLe x212.length 2)/\(RowsEq [.int .i64] x212.length (litRows ((D.i x1.edge::@List.nil D)::(D.i x1.time::@List.nil D)::@List.nil (List D))) (encL encI x212)))/\True)/\((0=0/\(((byIs x6).length<=(byIs x6).length)/\(((0:Nat)+(byIs x212).length<=(byIs x212).length)/\((byIs x6).length+(byIs x212).length<=(1073741824:Nat)))))/\((0=0/\((byIs x6).length+(byIs x212).length=(byR x1).length))/\(((RLe (byR x1).length ((byIs x6).length+(byIs x212).length))/\(RowsEq (.int IntKind.u8::[]) (byR x1).length (appRows (byIs x6).length (encL encI (byIs x6)) 0 (encL encI (byIs x212))) (encL encI (byR x1))))/\True)))))))))/\((decide (x1.kind=(11:Int))=false)->(((decide (x1.kind=(12:Int))=true)->(((True/\True)/\True)/\(∃ x217:List Int,(((x217.length<=(3000:Nat))/\(∀ n218:Int,((n218∈x217)->(r64 n218))))/\(((0=0/\((1:Nat)=x217.length))/\True)/\((((RLe x217.length 1)/\(RowsEq [.int .i64] x217.length (litRows ((D.i x1.tick::@List.nil D)::@List.nil (List D))) (encL encI x217)))/\True)/\((0=0/\(((byIs x6).length<=(byIs x6).length)/\(((0:Nat)+(byIs x217).length<=(byIs x217).length)/\((byIs x6).length+(byIs x217).length<=(1073741824:Nat)))))/\((0=0/\((byIs x6).length+(byIs x217).length=(byR x1).length))/\(((RLe (byR x1).length ((byIs x6).length+(byIs x217).length))/\(RowsEq (.int IntKind.u8::[]) (byR x1).length (appRows (byIs x6).length (encL encI (byIs x6)) 0 (encL encI (byIs x217))) (encL encI (byR x1))))/\True)))))))))/\((decide (x1.kind=(12:Int))=false)->(((decide (x1.kind=(13:Int))=true)->(((True/\True)/\True)/\(∃ x222:List Int,(((x222.length<=(3000:Nat))/\(∀ n223:Int,((n223∈x222)->(r64 n223))))/\(((0=0/\((1:Nat)=x222.length))/\True)/\((((RLe x222.length 1)/\(RowsEq [.int .i64] x222.length (litRows ((D.i x1.inc::@List.nil D)::@List.nil (List D))) (encL encI x222)))/\True)/\((0=0/\(((byIs x6).length<=(byIs x6).length)/\(((0:Nat)+(byIs x222).length<=(byIs x222).length)/\((byIs x6).length+(byIs x222).length<=(1073741824:Nat)))))/\((0=0/\((byIs x6).length+(byIs x222).length=(byR x1).length))/\(((RLe (byR x1).length ((byIs x6).length+(byIs x222).length))/\(RowsEq (.int IntKind.u8::[]) (byR x1).length (appRows (byIs x6).length (encL encI (byIs x6)) 0 (encL encI (byIs x222))) (encL encI (byR x1))))/\True)))))))))/\((decide (x1.kind=(13:Int))=false)->(((decide (x1.kind=(14:Int))=true)->(((True/\True)/\((True/\True)/\True))/\(∃ x227:List Int,(((x227.length<=(3000:Nat))/\(∀ n228:Int,((n228∈x227)->(r64 n228))))/\(((0=0/\((2:Nat)=x227.length))/\True)/\((((RLe x227.length 2)/\(RowsEq [.int .i64] x227.length (litRows ((D.i x1.su::@List.nil D)::(D.i x1.node::@List.nil D)::@List.nil (List D))) (encL encI x227)))/\True)/\((0=0/\(((byIs x6).length<=(byIs x6).length)/\(((0:Nat)+(byIs x227).length<=(byIs x227).length)/\((byIs x6).length+(byIs x227).length<=(1073741824:Nat)))))/\((0=0/\((byIs x6).length+(byIs x227).length=(byR x1).length))/\(((RLe (byR x1).length ((byIs x6).length+(byIs x227).length))/\(RowsEq (.int IntKind.u8::[]) (byR x1).length (appRows (byIs x6).length (encL encI (byIs x6)) 0 (encL encI (byIs x227))) (encL encI (byR x1))))/\True)))))))))/\((decide (x1.kind=(14:Int))=false)->(((decide (x1.kind=(15:Int))=true)->(((True/\True)/\True)/\(∃ x232:List Int,(((x232.length<=(3000:Nat))/\(∀ n233:Int,((n233∈x232)->(r64 n233))))/\(((0=0/\((1:Nat)=x232.length))/\True)/\((((RLe x232.length 1)/\(RowsEq [.int .i64] x232.length (litRows ((D.i x1.call::@List.nil D)::@List.nil (List D))) (encL encI x232)))/\True)/\((0=0/\(((byIs x6).length<=(byIs x6).length)/\(((0:Nat)+(byIs x232).length<=(byIs x232).length)/\((byIs x6).length+(byIs x232).length<=(1073741824:Nat)))))/\((0=0/\((byIs x6).length+(byIs x232).length=(byR x1).length))/\(((RLe (byR x1).length ((byIs x6).length+(byIs x232).length))/\(RowsEq (.int IntKind.u8::[]) (byR x1).length (appRows (byIs x6).length (encL encI (byIs x6)) 0 (encL encI (byIs x232))) (encL encI (byR x1))))/\True)))))))))/\((decide (x1.kind=(15:Int))=false)->((0=0/\((byIs x6).length=(byR x1).length))/\(((RLe (byR x1).length (byIs x6).length)/\(RowsEq (.int IntKind.u8::[]) (byR x1).length (encL encI (byIs x6)) (encL encI (byR x1))))/\True)))))))))))))))/\((decide (x1.kind=(9:Int))=false)->(((decide (x1.kind=(10:Int))=true)->(((True/\True)/\((True/\True)/\((True/\True)/\True)))/\(∃ x238:List Int,(((x238.length<=(3000:Nat))/\(∀ n239:Int,((n239∈x238)->(r64 n239))))/\(((0=0/\((3:Nat)=x238.length))/\True)/\((((RLe x238.length 3)/\(RowsEq [.int .i64] x238.length (litRows ((D.i x1.dist::@List.nil D)::(D.i x1.cen::@List.nil D)::(D.i x1.ep::@List.nil D)::@List.nil (List D))) (encL encI x238)))/\True)/\((0=0/\(((byIs x6).length<=(byIs x6).length)/\(((0:Nat)+(byIs x238).length<=(byIs x238).length)/\((byIs x6).length+(byIs x238).length<=(1073741824:Nat)))))/\((0=0/\((byIs x6).length+(byIs x238).length=(byR x1).length))/\(((RLe (byR x1).length ((byIs x6).length+(byIs x238).length))/\(RowsEq (.int IntKind.u8::[]) (byR x1).length (appRows (byIs x6).length (encL encI (byIs x6)) 0 (encL encI (byIs x238))) (encL encI (byR x1))))/\True)))))))))/\((decide (x1.kind=(10:Int))=false)->(((decide (x1.kind=(11:Int))=true)->(((True/\True)/\((True/\True)/\True))/\(∃ x243:List Int,(((x243.length<=(3000:Nat))/\(∀ n244:Int,((n244∈x243)->(r64 n244))))/\(((0=0/\((2:Nat)=x243.length))/\True)/\((((RLe x243.length 2)/\(RowsEq [.int .i64] x243.length (litRows ((D.i x1.edge::@List.nil D)::(D.i x1.time::@List.nil D)::@List.nil (List D))) (encL encI x243)))/\True)/\((0=0/\(((byIs x6).length<=(byIs x6).length)/\(((0:Nat)+(byIs x243).length<=(byIs x243).length)/\((byIs x6).length+(byIs x243).length<=(1073741824:Nat)))))/\((0=0/\((byIs x6).length+(byIs x243).length=(byR x1).length))/\(((RLe (byR x1).length ((byIs x6).length+(byIs x243).length))/\(RowsEq (.int IntKind.u8::[]) (byR x1).length (appRows (byIs x6).length (encL encI (byIs x6)) 0 (encL encI (byIs x243))) (encL encI (byR x1))))/\True)))))))))/\((decide (x1.kind=(11:Int))=false)->(((decide (x1.kind=(12:Int))=true)->(((True/\True)/\True)/\(∃ x248:List Int,(((x248.length<=(3000:Nat))/\(∀ n249:Int,((n249∈x248)->(r64 n249))))/\(((0=0/\((1:Nat)=x248.length))/\True)/\((((RLe x248.length 1)/\(RowsEq [.int .i64] x248.length (litRows ((D.i x1.tick::@List.nil D)::@List.nil (List D))) (encL encI x248)))/\True)/\((0=0/\(((byIs x6).length<=(byIs x6).length)/\(((0:Nat)+(byIs x248).length<=(byIs x248).length)/\((byIs x6).length+(byIs x248).length<=(1073741824:Nat)))))/\((0=0/\((byIs x6).length+(byIs x248).length=(byR x1).length))/\(((RLe (byR x1).length ((byIs x6).length+(byIs x248).length))/\(RowsEq (.int IntKind.u8::[]) (byR x1).length (appRows (byIs x6).length (encL encI (byIs x6)) 0 (encL encI (byIs x248))) (encL encI (byR x1))))/\True)))))))))/\((decide (x1.kind=(12:Int))=false)->(((decide (x1.kind=(13:Int))=true)->(((True/\True)/\True)/\(∃ x253:List Int,(((x253.length<=(3000:Nat))/\(∀ n254:Int,((n254∈x253)->(r64 n254))))/\(((0=0/\((1:Nat)=x253.length))/\True)/\((((RLe x253.length 1)/\(RowsEq [.int .i64] x253.length (litRows ((D.i x1.inc::@List.nil D)::@List.nil (List D))) (encL encI x253)))/\True)/\((0=0/\(((byIs x6).length<=(byIs x6).length)/\(((0:Nat)+(byIs x253).length<=(byIs x253).length)/\((byIs x6).length+(byIs x253).length<=(1073741824:Nat)))))/\((0=0/\((byIs x6).length+(byIs x253).length=(byR x1).length))/\(((RLe (byR x1).length ((byIs x6).length+(byIs x253).length))/\(RowsEq (.int IntKind.u8::[]) (byR x1).length (appRows (byIs x6).length (encL encI (byIs x6)) 0 (encL encI (byIs x253))) (encL encI (byR x1))))/\True)))))))))/\((decide (x1.kind=(13:Int))=false)->(((decide (x1.kind=(14:Int))=true)->(((True/\True)/\((True/\True)/\True))/\(∃ x258:List Int,(((x258.length<=(3000:Nat))/\(∀ n259:Int,((n259∈x258)->(r64 n259))))/\(((0=0/\((2:Nat)=x258.length))/\True)/\((((RLe x258.length 2)/\(RowsEq [.int .i64] x258.length (litRows ((D.i x1.su::@List.nil D)::(D.i x1.node::@List.nil D)::@List.nil (List D))) (encL encI x258)))/\True)/\((0=0/\(((byIs x6).length<=(byIs x6).length)/\(((0:Nat)+(byIs x258).length<=(byIs x258).length)/\((byIs x6).length+(byIs x258).length<=(1073741824:Nat)))))/\((0=0/\((byIs x6).length+(byIs x258).length=(byR x1).length))/\(((RLe (byR x1).length ((byIs x6).length+(byIs x258).length))/\(RowsEq (.int IntKind.u8::[]) (byR x1).length (appRows (byIs x6).length (encL encI (byIs x6)) 0 (encL encI (byIs x258))) (encL encI (byR x1))))/\True)))))))))/\((decide (x1.kind=(14:Int))=false)->(((decide (x1.kind=(15:Int))=true)->(((True/\True)/\True)/\(∃ x263:List Int,(((x263.length<=(3000:Nat))/\(∀ n264:Int,((n264∈x263)->(r64 n264))))/\(((0=0/\((1:Nat)=x263.length))/\True)/\((((RLe x263.length 1)/\(RowsEq [.int .i64] x263.length (litRows ((D.i x1.call::@List.nil D)::@List.nil (List D))) (encL encI x263)))/\True)/\((0=0/\(((byIs x6).length<=(byIs x6).length)/\(((0:Nat)+(byIs x263).length<=(byIs x263).length)/\((byIs x6).length+(byIs x263).length<=(1073741824:Nat)))))/\((0=0/\((byIs x6).length+(byIs x263).length=(byR x1).length))/\(((RLe (byR x1).length ((byIs x6).length+(byIs x263).length))/\(RowsEq (.int IntKind.u8::[]) (byR x1).length (appRows (byIs x6).length (encL encI (byIs x6)) 0 (encL encI (byIs x263))) (encL encI (byR x1))))/\True)))))))))/\((decide (x1.kind=(15:Int))=false)->((0=0/\((byIs x6).length=(byR x1).length))/\(((RLe (byR x1).length (byIs x6).length)/\(RowsEq (.int IntKind.u8::[]) (byR x1).length (encL encI (byIs x6)) (encL encI (byR x1))))/\True))))))))))))))))))))))))))))))))))))))))))))=(Keeps cfgP Tryd.f15 puC noIv) by kernel_rfl) (fun x1=>fun h2=>⟨(x1),
⟨(by(try dsimp only at *);omega),
(by(try dsimp only at *);omega)⟩,
⟨⟨rfl,rfl,rfl,rfl,rfl,rfl,
⟨rfl,rfl⟩,rfl,rfl,rfl,rfl,rfl,rfl,rfl,rfl,rfl,rfl,rfl,rfl,trivial⟩,trivial⟩,
⟨⟨rl,rr⟩,trivial⟩,
fun h4=>⟨⟨trivial,rfl,
(by(try dsimp only at *);exact pu_n ‹_›)⟩,
(by(try dsimp only at *);exact pu_n ‹_›),trivial⟩,
fun h5=>⟨⟨⟨trivial,trivial⟩,trivial⟩,
(Cmd.kind x1::@List.nil Int),
⟨(by(try dsimp only at *);grind),
fun n7=>fun h8=>(by(try dsimp only at *);exact pu_k h5 _ ‹_›)⟩,
⟨⟨rfl,
(by(try dsimp only at *);grind)⟩,trivial⟩,
⟨⟨⟨(by(try dsimp only at *);grind)⟩,
(by(try dsimp only at *);exact litN rfl)⟩,trivial⟩,
fun g9=>have h9:=dT g9;⟨fun g10=>have h10:=dT g10;⟨⟨⟨trivial,trivial⟩,
⟨trivial,trivial⟩,trivial⟩,
(Cmd.call x1::Cmd.urg x1::@List.nil Int),
⟨(by(try dsimp only at *);grind),
fun n12=>fun h13=>(by(try dsimp only at *);exact(puOU h5 (.inl ‹_›)).1 _ ‹_›)⟩,
⟨⟨rfl,
(by(try dsimp only at *);grind)⟩,trivial⟩,
⟨⟨⟨(by(try dsimp only at *);grind)⟩,
(by(try dsimp only at *);exact litN rfl)⟩,trivial⟩,
⟨rfl,
(by(try dsimp only at *);omega),
(by(try dsimp only at *);omega),
(by(try dsimp only at *);exact cap2 (Nat.le_of_ble_eq_true rfl) (Nat.le_of_ble_eq_true rfl))⟩,
(Cmd.code x1),
(by(try dsimp only at *);exact Nat.le_trans (puOU h5 (.inl ‹_›)).2.1 (by decide)),
⟨rfl,trivial⟩,trivial,
⟨rfl,
(by(try dsimp only at *);omega),
(by(try dsimp only at *);omega),
(by(try dsimp only at *);exact cap3 (pu_l h5 (.inl ‹_›)))⟩,
(Cmd.nodes x1),
⟨(by(try dsimp only at *);exact(puOU h5 (.inl ‹_›)).2.2.1),
fun n16=>fun h17=>(by(try dsimp only at *);exact(puOU h5 (.inl ‹_›)).2.2.2 _ ‹_›)⟩,
⟨⟨rfl,rfl⟩,trivial⟩,
⟨⟨rl,rr⟩,trivial⟩,
⟨rfl,
(by(try dsimp only at *);omega),
(by(try dsimp only at *);omega),
(by(try dsimp only at *);exact cap4 (pu_l h5 (.inl ‹_›)))⟩,
fun g18=>have h18:=dT g18;⟨⟨⟨trivial,trivial⟩,trivial⟩,
(Cmd.dist x1::@List.nil Int),
⟨(by(try dsimp only at *);grind),
fun n20=>fun h21=>(by(try dsimp only at *);exact(pu_1 h5 ‹_›).1 _ ‹_›)⟩,
⟨⟨rfl,
(by(try dsimp only at *);grind)⟩,trivial⟩,
⟨⟨⟨(by(try dsimp only at *);grind)⟩,
(by(try dsimp only at *);exact litN rfl)⟩,trivial⟩,
⟨rfl,
(by(try dsimp only at *);omega),
(by(try dsimp only at *);omega),
(by(try dsimp only at *);exact cap5 (pu_l h5 (.inl ‹_›)))⟩,
⟨rfl,
(by(try dsimp only at *);exact len5 (pu_1 h5 ‹_›).2)⟩,
⟨⟨(by(try dsimp only at *);exact Nat.le_of_eq (len5 (pu_1 h5 ‹_›).2).symm)⟩,
(by(try dsimp only at *);exact puR5 (pu_1 h5 ‹_›).2)⟩,trivial⟩,
fun g22=>have h22:=dF g22;⟨⟨rfl,
(by(try dsimp only at *);omega)⟩,
⟨⟨(by(try dsimp only at *);omega)⟩,
(by(try dsimp only at *);omega)⟩,trivial⟩⟩,
fun g23=>have h23:=dF g23;⟨fun g24=>have h24:=dT g24;⟨⟨⟨trivial,trivial⟩,
⟨trivial,trivial⟩,trivial⟩,
(default),
⟨(by(try dsimp only at *);omega),
fun n26=>fun h27=>(by(try dsimp only at *);omega)⟩,
⟨⟨rfl,
(by(try dsimp only at *);omega)⟩,trivial⟩,
⟨⟨⟨(by(try dsimp only at *);omega)⟩,
(by(try dsimp only at *);omega)⟩,trivial⟩,
⟨rfl,
(by(try dsimp only at *);omega),
(by(try dsimp only at *);omega),
(by(try dsimp only at *);omega)⟩,
⟨rfl,
(by(try dsimp only at *);omega)⟩,
⟨⟨(by(try dsimp only at *);omega)⟩,
(by(try dsimp only at *);omega)⟩,trivial⟩,
fun g28=>have h28:=dF g28;⟨fun g29=>have h29:=dT g29;⟨⟨⟨trivial,trivial⟩,
⟨trivial,trivial⟩,trivial⟩,
(default),
⟨(by(try dsimp only at *);omega),
fun n31=>fun h32=>(by(try dsimp only at *);omega)⟩,
⟨⟨rfl,
(by(try dsimp only at *);omega)⟩,trivial⟩,
⟨⟨⟨(by(try dsimp only at *);omega)⟩,
(by(try dsimp only at *);omega)⟩,trivial⟩,
⟨rfl,
(by(try dsimp only at *);omega),
(by(try dsimp only at *);omega),
(by(try dsimp only at *);omega)⟩,
⟨rfl,
(by(try dsimp only at *);omega)⟩,
⟨⟨(by(try dsimp only at *);omega)⟩,
(by(try dsimp only at *);omega)⟩,trivial⟩,
fun g33=>have h33:=dF g33;⟨fun g34=>have h34:=dT g34;⟨⟨⟨trivial,trivial⟩,
⟨trivial,trivial⟩,
⟨trivial,trivial⟩,
⟨trivial,trivial⟩,
⟨trivial,trivial⟩,trivial⟩,
(default),
⟨(by(try dsimp only at *);omega),
fun n36=>fun h37=>(by(try dsimp only at *);omega)⟩,
⟨⟨rfl,
(by(try dsimp only at *);omega)⟩,trivial⟩,
⟨⟨⟨(by(try dsimp only at *);omega)⟩,
(by(try dsimp only at *);omega)⟩,trivial⟩,
⟨rfl,
(by(try dsimp only at *);omega),
(by(try dsimp only at *);omega),
(by(try dsimp only at *);omega)⟩,
⟨rfl,
(by(try dsimp only at *);omega)⟩,
⟨⟨(by(try dsimp only at *);omega)⟩,
(by(try dsimp only at *);omega)⟩,trivial⟩,
fun g38=>have h38:=dF g38;⟨fun g39=>have h39:=dT g39;⟨⟨⟨trivial,trivial⟩,
⟨trivial,trivial⟩,trivial⟩,
(default),
⟨(by(try dsimp only at *);omega),
fun n41=>fun h42=>(by(try dsimp only at *);omega)⟩,
⟨⟨rfl,
(by(try dsimp only at *);omega)⟩,trivial⟩,
⟨⟨⟨(by(try dsimp only at *);omega)⟩,
(by(try dsimp only at *);omega)⟩,trivial⟩,
⟨rfl,
(by(try dsimp only at *);omega),
(by(try dsimp only at *);omega),
(by(try dsimp only at *);omega)⟩,
⟨rfl,
(by(try dsimp only at *);omega)⟩,
⟨⟨(by(try dsimp only at *);omega)⟩,
(by(try dsimp only at *);omega)⟩,trivial⟩,
fun g43=>have h43:=dF g43;⟨fun g44=>have h44:=dT g44;⟨fun g45=>have h45:=dT g45;⟨⟨⟨trivial,trivial⟩,
⟨trivial,trivial⟩,
⟨trivial,trivial⟩,trivial⟩,
(default),
⟨(by(try dsimp only at *);omega),
fun n47=>fun h48=>(by(try dsimp only at *);omega)⟩,
⟨⟨rfl,
(by(try dsimp only at *);omega)⟩,trivial⟩,
⟨⟨⟨(by(try dsimp only at *);omega)⟩,
(by(try dsimp only at *);omega)⟩,trivial⟩,
⟨rfl,
(by(try dsimp only at *);omega),
(by(try dsimp only at *);omega),
(by(try dsimp only at *);omega)⟩,
⟨rfl,
(by(try dsimp only at *);omega)⟩,
⟨⟨(by(try dsimp only at *);omega)⟩,
(by(try dsimp only at *);omega)⟩,trivial⟩,
fun g49=>have h49:=dF g49;⟨fun g50=>have h50:=dT g50;⟨⟨⟨trivial,trivial⟩,
⟨trivial,trivial⟩,trivial⟩,
(default),
⟨(by(try dsimp only at *);omega),
fun n52=>fun h53=>(by(try dsimp only at *);omega)⟩,
⟨⟨rfl,
(by(try dsimp only at *);omega)⟩,trivial⟩,
⟨⟨⟨(by(try dsimp only at *);omega)⟩,
(by(try dsimp only at *);omega)⟩,trivial⟩,
⟨rfl,
(by(try dsimp only at *);omega),
(by(try dsimp only at *);omega),
(by(try dsimp only at *);omega)⟩,
⟨rfl,
(by(try dsimp only at *);omega)⟩,
⟨⟨(by(try dsimp only at *);omega)⟩,
(by(try dsimp only at *);omega)⟩,trivial⟩,
fun g54=>have h54:=dF g54;⟨fun g55=>have h55:=dT g55;⟨⟨⟨trivial,trivial⟩,trivial⟩,
(default),
⟨(by(try dsimp only at *);omega),
fun n57=>fun h58=>(by(try dsimp only at *);omega)⟩,
⟨⟨rfl,
(by(try dsimp only at *);omega)⟩,trivial⟩,
⟨⟨⟨(by(try dsimp only at *);omega)⟩,
(by(try dsimp only at *);omega)⟩,trivial⟩,
⟨rfl,
(by(try dsimp only at *);omega),
(by(try dsimp only at *);omega),
(by(try dsimp only at *);omega)⟩,
⟨rfl,
(by(try dsimp only at *);omega)⟩,
⟨⟨(by(try dsimp only at *);omega)⟩,
(by(try dsimp only at *);omega)⟩,trivial⟩,
fun g59=>have h59:=dF g59;⟨fun g60=>have h60:=dT g60;⟨⟨⟨trivial,trivial⟩,trivial⟩,
(default),
⟨(by(try dsimp only at *);omega),
fun n62=>fun h63=>(by(try dsimp only at *);omega)⟩,
⟨⟨rfl,
(by(try dsimp only at *);omega)⟩,trivial⟩,
⟨⟨⟨(by(try dsimp only at *);omega)⟩,
(by(try dsimp only at *);omega)⟩,trivial⟩,
⟨rfl,
(by(try dsimp only at *);omega),
(by(try dsimp only at *);omega),
(by(try dsimp only at *);omega)⟩,
⟨rfl,
(by(try dsimp only at *);omega)⟩,
⟨⟨(by(try dsimp only at *);omega)⟩,
(by(try dsimp only at *);omega)⟩,trivial⟩,
fun g64=>have h64:=dF g64;⟨fun g65=>have h65:=dT g65;⟨⟨⟨trivial,trivial⟩,
⟨trivial,trivial⟩,trivial⟩,
(default),
⟨(by(try dsimp only at *);omega),
fun n67=>fun h68=>(by(try dsimp only at *);omega)⟩,
⟨⟨rfl,
(by(try dsimp only at *);omega)⟩,trivial⟩,
⟨⟨⟨(by(try dsimp only at *);omega)⟩,
(by(try dsimp only at *);omega)⟩,trivial⟩,
⟨rfl,
(by(try dsimp only at *);omega),
(by(try dsimp only at *);omega),
(by(try dsimp only at *);omega)⟩,
⟨rfl,
(by(try dsimp only at *);omega)⟩,
⟨⟨(by(try dsimp only at *);omega)⟩,
(by(try dsimp only at *);omega)⟩,trivial⟩,
fun g69=>have h69:=dF g69;⟨fun g70=>have h70:=dT g70;⟨⟨⟨trivial,trivial⟩,trivial⟩,
(default),
⟨(by(try dsimp only at *);omega),
fun n72=>fun h73=>(by(try dsimp only at *);omega)⟩,
⟨⟨rfl,
(by(try dsimp only at *);omega)⟩,trivial⟩,
⟨⟨⟨(by(try dsimp only at *);omega)⟩,
(by(try dsimp only at *);omega)⟩,trivial⟩,
⟨rfl,
(by(try dsimp only at *);omega),
(by(try dsimp only at *);omega),
(by(try dsimp only at *);omega)⟩,
⟨rfl,
(by(try dsimp only at *);omega)⟩,
⟨⟨(by(try dsimp only at *);omega)⟩,
(by(try dsimp only at *);omega)⟩,trivial⟩,
fun g74=>have h74:=dF g74;⟨⟨rfl,
(by(try dsimp only at *);omega)⟩,
⟨⟨(by(try dsimp only at *);omega)⟩,
(by(try dsimp only at *);omega)⟩,trivial⟩⟩⟩⟩⟩⟩⟩,
fun g75=>have h75:=dF g75;⟨fun g76=>have h76:=dT g76;⟨fun g77=>have h77:=dT g77;⟨⟨⟨trivial,trivial⟩,
⟨trivial,trivial⟩,
⟨trivial,trivial⟩,trivial⟩,
(default),
⟨(by(try dsimp only at *);omega),
fun n79=>fun h80=>(by(try dsimp only at *);omega)⟩,
⟨⟨rfl,
(by(try dsimp only at *);omega)⟩,trivial⟩,
⟨⟨⟨(by(try dsimp only at *);omega)⟩,
(by(try dsimp only at *);omega)⟩,trivial⟩,
⟨rfl,
(by(try dsimp only at *);omega),
(by(try dsimp only at *);omega),
(by(try dsimp only at *);omega)⟩,
⟨rfl,
(by(try dsimp only at *);omega)⟩,
⟨⟨(by(try dsimp only at *);omega)⟩,
(by(try dsimp only at *);omega)⟩,trivial⟩,
fun g81=>have h81:=dF g81;⟨fun g82=>have h82:=dT g82;⟨⟨⟨trivial,trivial⟩,
⟨trivial,trivial⟩,trivial⟩,
(default),
⟨(by(try dsimp only at *);omega),
fun n84=>fun h85=>(by(try dsimp only at *);omega)⟩,
⟨⟨rfl,
(by(try dsimp only at *);omega)⟩,trivial⟩,
⟨⟨⟨(by(try dsimp only at *);omega)⟩,
(by(try dsimp only at *);omega)⟩,trivial⟩,
⟨rfl,
(by(try dsimp only at *);omega),
(by(try dsimp only at *);omega),
(by(try dsimp only at *);omega)⟩,
⟨rfl,
(by(try dsimp only at *);omega)⟩,
⟨⟨(by(try dsimp only at *);omega)⟩,
(by(try dsimp only at *);omega)⟩,trivial⟩,
fun g86=>have h86:=dF g86;⟨fun g87=>have h87:=dT g87;⟨⟨⟨trivial,trivial⟩,trivial⟩,
(default),
⟨(by(try dsimp only at *);omega),
fun n89=>fun h90=>(by(try dsimp only at *);omega)⟩,
⟨⟨rfl,
(by(try dsimp only at *);omega)⟩,trivial⟩,
⟨⟨⟨(by(try dsimp only at *);omega)⟩,
(by(try dsimp only at *);omega)⟩,trivial⟩,
⟨rfl,
(by(try dsimp only at *);omega),
(by(try dsimp only at *);omega),
(by(try dsimp only at *);omega)⟩,
⟨rfl,
(by(try dsimp only at *);omega)⟩,
⟨⟨(by(try dsimp only at *);omega)⟩,
(by(try dsimp only at *);omega)⟩,trivial⟩,
fun g91=>have h91:=dF g91;⟨fun g92=>have h92:=dT g92;⟨⟨⟨trivial,trivial⟩,trivial⟩,
(default),
⟨(by(try dsimp only at *);omega),
fun n94=>fun h95=>(by(try dsimp only at *);omega)⟩,
⟨⟨rfl,
(by(try dsimp only at *);omega)⟩,trivial⟩,
⟨⟨⟨(by(try dsimp only at *);omega)⟩,
(by(try dsimp only at *);omega)⟩,trivial⟩,
⟨rfl,
(by(try dsimp only at *);omega),
(by(try dsimp only at *);omega),
(by(try dsimp only at *);omega)⟩,
⟨rfl,
(by(try dsimp only at *);omega)⟩,
⟨⟨(by(try dsimp only at *);omega)⟩,
(by(try dsimp only at *);omega)⟩,trivial⟩,
fun g96=>have h96:=dF g96;⟨fun g97=>have h97:=dT g97;⟨⟨⟨trivial,trivial⟩,
⟨trivial,trivial⟩,trivial⟩,
(default),
⟨(by(try dsimp only at *);omega),
fun n99=>fun h100=>(by(try dsimp only at *);omega)⟩,
⟨⟨rfl,
(by(try dsimp only at *);omega)⟩,trivial⟩,
⟨⟨⟨(by(try dsimp only at *);omega)⟩,
(by(try dsimp only at *);omega)⟩,trivial⟩,
⟨rfl,
(by(try dsimp only at *);omega),
(by(try dsimp only at *);omega),
(by(try dsimp only at *);omega)⟩,
⟨rfl,
(by(try dsimp only at *);omega)⟩,
⟨⟨(by(try dsimp only at *);omega)⟩,
(by(try dsimp only at *);omega)⟩,trivial⟩,
fun g101=>have h101:=dF g101;⟨fun g102=>have h102:=dT g102;⟨⟨⟨trivial,trivial⟩,trivial⟩,
(default),
⟨(by(try dsimp only at *);omega),
fun n104=>fun h105=>(by(try dsimp only at *);omega)⟩,
⟨⟨rfl,
(by(try dsimp only at *);omega)⟩,trivial⟩,
⟨⟨⟨(by(try dsimp only at *);omega)⟩,
(by(try dsimp only at *);omega)⟩,trivial⟩,
⟨rfl,
(by(try dsimp only at *);omega),
(by(try dsimp only at *);omega),
(by(try dsimp only at *);omega)⟩,
⟨rfl,
(by(try dsimp only at *);omega)⟩,
⟨⟨(by(try dsimp only at *);omega)⟩,
(by(try dsimp only at *);omega)⟩,trivial⟩,
fun g106=>have h106:=dF g106;⟨⟨rfl,
(by(try dsimp only at *);omega)⟩,
⟨⟨(by(try dsimp only at *);omega)⟩,
(by(try dsimp only at *);omega)⟩,trivial⟩⟩⟩⟩⟩⟩⟩,
fun g107=>have h107:=dF g107;⟨fun g108=>have h108:=dT g108;⟨⟨⟨trivial,trivial⟩,
⟨trivial,trivial⟩,
⟨trivial,trivial⟩,trivial⟩,
(default),
⟨(by(try dsimp only at *);omega),
fun n110=>fun h111=>(by(try dsimp only at *);omega)⟩,
⟨⟨rfl,
(by(try dsimp only at *);omega)⟩,trivial⟩,
⟨⟨⟨(by(try dsimp only at *);omega)⟩,
(by(try dsimp only at *);omega)⟩,trivial⟩,
⟨rfl,
(by(try dsimp only at *);omega),
(by(try dsimp only at *);omega),
(by(try dsimp only at *);omega)⟩,
⟨rfl,
(by(try dsimp only at *);omega)⟩,
⟨⟨(by(try dsimp only at *);omega)⟩,
(by(try dsimp only at *);omega)⟩,trivial⟩,
fun g112=>have h112:=dF g112;⟨fun g113=>have h113:=dT g113;⟨⟨⟨trivial,trivial⟩,
⟨trivial,trivial⟩,trivial⟩,
(default),
⟨(by(try dsimp only at *);omega),
fun n115=>fun h116=>(by(try dsimp only at *);omega)⟩,
⟨⟨rfl,
(by(try dsimp only at *);omega)⟩,trivial⟩,
⟨⟨⟨(by(try dsimp only at *);omega)⟩,
(by(try dsimp only at *);omega)⟩,trivial⟩,
⟨rfl,
(by(try dsimp only at *);omega),
(by(try dsimp only at *);omega),
(by(try dsimp only at *);omega)⟩,
⟨rfl,
(by(try dsimp only at *);omega)⟩,
⟨⟨(by(try dsimp only at *);omega)⟩,
(by(try dsimp only at *);omega)⟩,trivial⟩,
fun g117=>have h117:=dF g117;⟨fun g118=>have h118:=dT g118;⟨⟨⟨trivial,trivial⟩,trivial⟩,
(default),
⟨(by(try dsimp only at *);omega),
fun n120=>fun h121=>(by(try dsimp only at *);omega)⟩,
⟨⟨rfl,
(by(try dsimp only at *);omega)⟩,trivial⟩,
⟨⟨⟨(by(try dsimp only at *);omega)⟩,
(by(try dsimp only at *);omega)⟩,trivial⟩,
⟨rfl,
(by(try dsimp only at *);omega),
(by(try dsimp only at *);omega),
(by(try dsimp only at *);omega)⟩,
⟨rfl,
(by(try dsimp only at *);omega)⟩,
⟨⟨(by(try dsimp only at *);omega)⟩,
(by(try dsimp only at *);omega)⟩,trivial⟩,
fun g122=>have h122:=dF g122;⟨fun g123=>have h123:=dT g123;⟨⟨⟨trivial,trivial⟩,trivial⟩,
(default),
⟨(by(try dsimp only at *);omega),
fun n125=>fun h126=>(by(try dsimp only at *);omega)⟩,
⟨⟨rfl,
(by(try dsimp only at *);omega)⟩,trivial⟩,
⟨⟨⟨(by(try dsimp only at *);omega)⟩,
(by(try dsimp only at *);omega)⟩,trivial⟩,
⟨rfl,
(by(try dsimp only at *);omega),
(by(try dsimp only at *);omega),
(by(try dsimp only at *);omega)⟩,
⟨rfl,
(by(try dsimp only at *);omega)⟩,
⟨⟨(by(try dsimp only at *);omega)⟩,
(by(try dsimp only at *);omega)⟩,trivial⟩,
fun g127=>have h127:=dF g127;⟨fun g128=>have h128:=dT g128;⟨⟨⟨trivial,trivial⟩,
⟨trivial,trivial⟩,trivial⟩,
(default),
⟨(by(try dsimp only at *);omega),
fun n130=>fun h131=>(by(try dsimp only at *);omega)⟩,
⟨⟨rfl,
(by(try dsimp only at *);omega)⟩,trivial⟩,
⟨⟨⟨(by(try dsimp only at *);omega)⟩,
(by(try dsimp only at *);omega)⟩,trivial⟩,
⟨rfl,
(by(try dsimp only at *);omega),
(by(try dsimp only at *);omega),
(by(try dsimp only at *);omega)⟩,
⟨rfl,
(by(try dsimp only at *);omega)⟩,
⟨⟨(by(try dsimp only at *);omega)⟩,
(by(try dsimp only at *);omega)⟩,trivial⟩,
fun g132=>have h132:=dF g132;⟨fun g133=>have h133:=dT g133;⟨⟨⟨trivial,trivial⟩,trivial⟩,
(default),
⟨(by(try dsimp only at *);omega),
fun n135=>fun h136=>(by(try dsimp only at *);omega)⟩,
⟨⟨rfl,
(by(try dsimp only at *);omega)⟩,trivial⟩,
⟨⟨⟨(by(try dsimp only at *);omega)⟩,
(by(try dsimp only at *);omega)⟩,trivial⟩,
⟨rfl,
(by(try dsimp only at *);omega),
(by(try dsimp only at *);omega),
(by(try dsimp only at *);omega)⟩,
⟨rfl,
(by(try dsimp only at *);omega)⟩,
⟨⟨(by(try dsimp only at *);omega)⟩,
(by(try dsimp only at *);omega)⟩,trivial⟩,
fun g137=>have h137:=dF g137;⟨⟨rfl,
(by(try dsimp only at *);omega)⟩,
⟨⟨(by(try dsimp only at *);omega)⟩,
(by(try dsimp only at *);omega)⟩,trivial⟩⟩⟩⟩⟩⟩⟩⟩⟩⟩⟩⟩⟩⟩,
fun g138=>have h138:=dF g138;⟨fun g139=>have h139:=dT g139;⟨⟨⟨trivial,trivial⟩,
⟨trivial,trivial⟩,trivial⟩,
(Cmd.call x1::Cmd.urg x1::@List.nil Int),
⟨(by(try dsimp only at *);grind),
fun n141=>fun h142=>(by(try dsimp only at *);exact(puOU h5 (.inr ‹_›)).1 _ ‹_›)⟩,
⟨⟨rfl,
(by(try dsimp only at *);grind)⟩,trivial⟩,
⟨⟨⟨(by(try dsimp only at *);grind)⟩,
(by(try dsimp only at *);exact litN rfl)⟩,trivial⟩,
⟨rfl,
(by(try dsimp only at *);omega),
(by(try dsimp only at *);omega),
(by(try dsimp only at *);exact cap2 (Nat.le_of_ble_eq_true rfl) (Nat.le_of_ble_eq_true rfl))⟩,
(Cmd.code x1),
(by(try dsimp only at *);exact Nat.le_trans (puOU h5 (.inr ‹_›)).2.1 (by decide)),
⟨rfl,trivial⟩,trivial,
⟨rfl,
(by(try dsimp only at *);omega),
(by(try dsimp only at *);omega),
(by(try dsimp only at *);exact cap3 (pu_l h5 (.inr ‹_›)))⟩,
(Cmd.nodes x1),
⟨(by(try dsimp only at *);exact(puOU h5 (.inr ‹_›)).2.2.1),
fun n145=>fun h146=>(by(try dsimp only at *);exact(puOU h5 (.inr ‹_›)).2.2.2 _ ‹_›)⟩,
⟨⟨rfl,rfl⟩,trivial⟩,
⟨⟨rl,rr⟩,trivial⟩,
⟨rfl,
(by(try dsimp only at *);omega),
(by(try dsimp only at *);omega),
(by(try dsimp only at *);exact cap4 (pu_l h5 (.inr ‹_›)))⟩,
fun g147=>have h147:=dT g147;⟨⟨⟨trivial,trivial⟩,trivial⟩,
(default),
⟨(by(try dsimp only at *);omega),
fun n149=>fun h150=>(by(try dsimp only at *);omega)⟩,
⟨⟨rfl,
(by(try dsimp only at *);omega)⟩,trivial⟩,
⟨⟨⟨(by(try dsimp only at *);omega)⟩,
(by(try dsimp only at *);omega)⟩,trivial⟩,
⟨rfl,
(by(try dsimp only at *);omega),
(by(try dsimp only at *);omega),
(by(try dsimp only at *);omega)⟩,
⟨rfl,
(by(try dsimp only at *);omega)⟩,
⟨⟨(by(try dsimp only at *);omega)⟩,
(by(try dsimp only at *);omega)⟩,trivial⟩,
fun g151=>have h151:=dF g151;⟨⟨rfl,
(by(try dsimp only at *);exact len4 (pu_2 h5 ‹_›))⟩,
⟨⟨(by(try dsimp only at *);exact Nat.le_of_eq (len4 (pu_2 h5 ‹_›)).symm)⟩,
(by(try dsimp only at *);exact puR4 (pu_2 h5 ‹_›))⟩,trivial⟩⟩,
fun g152=>have h152:=dF g152;⟨fun g153=>have h153:=dT g153;⟨⟨⟨trivial,trivial⟩,
⟨trivial,trivial⟩,trivial⟩,
(Cmd.inc x1::Cmd.oth x1::@List.nil Int),
⟨(by(try dsimp only at *);grind),
fun n155=>fun h156=>(by(try dsimp only at *);exact(pu_3 h5 h153).1 _ ‹_›)⟩,
⟨⟨rfl,
(by(try dsimp only at *);grind)⟩,trivial⟩,
⟨⟨⟨(by(try dsimp only at *);grind)⟩,
(by(try dsimp only at *);exact litN rfl)⟩,trivial⟩,
⟨rfl,
(by(try dsimp only at *);omega),
(by(try dsimp only at *);omega),
(by(try dsimp only at *);exact cap2 (Nat.le_of_ble_eq_true rfl) (Nat.le_of_ble_eq_true rfl))⟩,
⟨rfl,
(by(try dsimp only at *);exact pu_len (pu_3 h5 h153).2)⟩,
⟨⟨(by(try dsimp only at *);exact Nat.le_of_eq (pu_len (pu_3 h5 h153).2).symm)⟩,
(by(try dsimp only at *);exact pu_rows (pu_3 h5 h153).2)⟩,trivial⟩,
fun g157=>have h157:=dF g157;⟨fun g158=>have h158:=dT g158;⟨⟨⟨trivial,trivial⟩,
⟨trivial,trivial⟩,trivial⟩,
(Cmd.call x1::Cmd.inc x1::@List.nil Int),
⟨(by(try dsimp only at *);grind),
fun n160=>fun h161=>(by(try dsimp only at *);exact(pu_4 h5 h158).1 _ ‹_›)⟩,
⟨⟨rfl,
(by(try dsimp only at *);grind)⟩,trivial⟩,
⟨⟨⟨(by(try dsimp only at *);grind)⟩,
(by(try dsimp only at *);exact litN rfl)⟩,trivial⟩,
⟨rfl,
(by(try dsimp only at *);omega),
(by(try dsimp only at *);omega),
(by(try dsimp only at *);exact cap2 (Nat.le_of_ble_eq_true rfl) (Nat.le_of_ble_eq_true rfl))⟩,
⟨rfl,
(by(try dsimp only at *);exact pu_len (pu_4 h5 h158).2)⟩,
⟨⟨(by(try dsimp only at *);exact Nat.le_of_eq (pu_len (pu_4 h5 h158).2).symm)⟩,
(by(try dsimp only at *);exact pu_rows (pu_4 h5 h158).2)⟩,trivial⟩,
fun g162=>have h162:=dF g162;⟨fun g163=>have h163:=dT g163;⟨⟨⟨trivial,trivial⟩,
⟨trivial,trivial⟩,
⟨trivial,trivial⟩,
⟨trivial,trivial⟩,
⟨trivial,trivial⟩,trivial⟩,
(Cmd.su x1::Cmd.sq x1::Cmd.ss x1::Cmd.sn x1::Cmd.se x1::@List.nil Int),
⟨(by(try dsimp only at *);exact Nat.le_of_ble_eq_true rfl),
fun n165=>fun h166=>(by(try dsimp only at *);exact(pu_5 h5 h163).1 _ ‹_›)⟩,
⟨⟨rfl,
(by(try dsimp only at *);rfl)⟩,trivial⟩,
⟨⟨⟨(by(try dsimp only at *);exact Nat.le_of_ble_eq_true rfl)⟩,
(by(try dsimp only at *);exact litN rfl)⟩,trivial⟩,
⟨rfl,
(by(try dsimp only at *);omega),
(by(try dsimp only at *);omega),
(by(try dsimp only at *);exact cap2 (Nat.le_of_ble_eq_true rfl) (Nat.le_of_ble_eq_true rfl))⟩,
⟨rfl,
(by(try dsimp only at *);exact pu_len (pu_5 h5 h163).2)⟩,
⟨⟨(by(try dsimp only at *);exact Nat.le_of_eq (pu_len (pu_5 h5 h163).2).symm)⟩,
(by(try dsimp only at *);exact pu_rows (pu_5 h5 h163).2)⟩,trivial⟩,
fun g167=>have h167:=dF g167;⟨fun g168=>have h168:=dT g168;⟨⟨⟨trivial,trivial⟩,
⟨trivial,trivial⟩,trivial⟩,
(Cmd.su x1::Cmd.inc x1::@List.nil Int),
⟨(by(try dsimp only at *);grind),
fun n170=>fun h171=>(by(try dsimp only at *);exact(pu_7 h5 h168).1 _ ‹_›)⟩,
⟨⟨rfl,
(by(try dsimp only at *);grind)⟩,trivial⟩,
⟨⟨⟨(by(try dsimp only at *);grind)⟩,
(by(try dsimp only at *);exact litN rfl)⟩,trivial⟩,
⟨rfl,
(by(try dsimp only at *);omega),
(by(try dsimp only at *);omega),
(by(try dsimp only at *);exact cap2 (Nat.le_of_ble_eq_true rfl) (Nat.le_of_ble_eq_true rfl))⟩,
⟨rfl,
(by(try dsimp only at *);exact pu_len (pu_7 h5 h168).2)⟩,
⟨⟨(by(try dsimp only at *);exact Nat.le_of_eq (pu_len (pu_7 h5 h168).2).symm)⟩,
(by(try dsimp only at *);exact pu_rows (pu_7 h5 h168).2)⟩,trivial⟩,
fun g172=>have h172:=dF g172;⟨fun g173=>have h173:=dT g173;⟨fun g174=>have h174:=dT g174;⟨⟨⟨trivial,trivial⟩,
⟨trivial,trivial⟩,
⟨trivial,trivial⟩,trivial⟩,
(Cmd.dist x1::Cmd.cen x1::Cmd.ep x1::@List.nil Int),
⟨(by(try dsimp only at *);grind),
fun n176=>fun h177=>(by(try dsimp only at *);exact(pu_8 h5 h173).1 _ ‹_›)⟩,
⟨⟨rfl,
(by(try dsimp only at *);grind)⟩,trivial⟩,
⟨⟨⟨(by(try dsimp only at *);grind)⟩,
(by(try dsimp only at *);exact litN rfl)⟩,trivial⟩,
⟨rfl,
(by(try dsimp only at *);omega),
(by(try dsimp only at *);omega),
(by(try dsimp only at *);exact cap2 (Nat.le_of_ble_eq_true rfl) (Nat.le_of_ble_eq_true rfl))⟩,
⟨rfl,
(by(try dsimp only at *);exact pu_len (pu_8 h5 h173).2)⟩,
⟨⟨(by(try dsimp only at *);exact Nat.le_of_eq (pu_len (pu_8 h5 h173).2).symm)⟩,
(by(try dsimp only at *);exact pu_rows (pu_8 h5 h173).2)⟩,trivial⟩,
fun g178=>have h178:=dF g178;⟨fun g179=>have h179:=dT g179;⟨⟨⟨trivial,trivial⟩,
⟨trivial,trivial⟩,trivial⟩,
(default),
⟨(by(try dsimp only at *);omega),
fun n181=>fun h182=>(by(try dsimp only at *);omega)⟩,
⟨⟨rfl,
(by(try dsimp only at *);omega)⟩,trivial⟩,
⟨⟨⟨(by(try dsimp only at *);omega)⟩,
(by(try dsimp only at *);omega)⟩,trivial⟩,
⟨rfl,
(by(try dsimp only at *);omega),
(by(try dsimp only at *);omega),
(by(try dsimp only at *);omega)⟩,
⟨rfl,
(by(try dsimp only at *);omega)⟩,
⟨⟨(by(try dsimp only at *);omega)⟩,
(by(try dsimp only at *);omega)⟩,trivial⟩,
fun g183=>have h183:=dF g183;⟨fun g184=>have h184:=dT g184;⟨⟨⟨trivial,trivial⟩,trivial⟩,
(default),
⟨(by(try dsimp only at *);omega),
fun n186=>fun h187=>(by(try dsimp only at *);omega)⟩,
⟨⟨rfl,
(by(try dsimp only at *);omega)⟩,trivial⟩,
⟨⟨⟨(by(try dsimp only at *);omega)⟩,
(by(try dsimp only at *);omega)⟩,trivial⟩,
⟨rfl,
(by(try dsimp only at *);omega),
(by(try dsimp only at *);omega),
(by(try dsimp only at *);omega)⟩,
⟨rfl,
(by(try dsimp only at *);omega)⟩,
⟨⟨(by(try dsimp only at *);omega)⟩,
(by(try dsimp only at *);omega)⟩,trivial⟩,
fun g188=>have h188:=dF g188;⟨fun g189=>have h189:=dT g189;⟨⟨⟨trivial,trivial⟩,trivial⟩,
(default),
⟨(by(try dsimp only at *);omega),
fun n191=>fun h192=>(by(try dsimp only at *);omega)⟩,
⟨⟨rfl,
(by(try dsimp only at *);omega)⟩,trivial⟩,
⟨⟨⟨(by(try dsimp only at *);omega)⟩,
(by(try dsimp only at *);omega)⟩,trivial⟩,
⟨rfl,
(by(try dsimp only at *);omega),
(by(try dsimp only at *);omega),
(by(try dsimp only at *);omega)⟩,
⟨rfl,
(by(try dsimp only at *);omega)⟩,
⟨⟨(by(try dsimp only at *);omega)⟩,
(by(try dsimp only at *);omega)⟩,trivial⟩,
fun g193=>have h193:=dF g193;⟨fun g194=>have h194:=dT g194;⟨⟨⟨trivial,trivial⟩,
⟨trivial,trivial⟩,trivial⟩,
(default),
⟨(by(try dsimp only at *);omega),
fun n196=>fun h197=>(by(try dsimp only at *);omega)⟩,
⟨⟨rfl,
(by(try dsimp only at *);omega)⟩,trivial⟩,
⟨⟨⟨(by(try dsimp only at *);omega)⟩,
(by(try dsimp only at *);omega)⟩,trivial⟩,
⟨rfl,
(by(try dsimp only at *);omega),
(by(try dsimp only at *);omega),
(by(try dsimp only at *);omega)⟩,
⟨rfl,
(by(try dsimp only at *);omega)⟩,
⟨⟨(by(try dsimp only at *);omega)⟩,
(by(try dsimp only at *);omega)⟩,trivial⟩,
fun g198=>have h198:=dF g198;⟨fun g199=>have h199:=dT g199;⟨⟨⟨trivial,trivial⟩,trivial⟩,
(default),
⟨(by(try dsimp only at *);omega),
fun n201=>fun h202=>(by(try dsimp only at *);omega)⟩,
⟨⟨rfl,
(by(try dsimp only at *);omega)⟩,trivial⟩,
⟨⟨⟨(by(try dsimp only at *);omega)⟩,
(by(try dsimp only at *);omega)⟩,trivial⟩,
⟨rfl,
(by(try dsimp only at *);omega),
(by(try dsimp only at *);omega),
(by(try dsimp only at *);omega)⟩,
⟨rfl,
(by(try dsimp only at *);omega)⟩,
⟨⟨(by(try dsimp only at *);omega)⟩,
(by(try dsimp only at *);omega)⟩,trivial⟩,
fun g203=>have h203:=dF g203;⟨⟨rfl,
(by(try dsimp only at *);omega)⟩,
⟨⟨(by(try dsimp only at *);omega)⟩,
(by(try dsimp only at *);omega)⟩,trivial⟩⟩⟩⟩⟩⟩⟩,
fun g204=>have h204:=dF g204;⟨fun g205=>have h205:=dT g205;⟨fun g206=>have h206:=dT g206;⟨⟨⟨trivial,trivial⟩,
⟨trivial,trivial⟩,
⟨trivial,trivial⟩,trivial⟩,
(Cmd.dist x1::Cmd.cen x1::Cmd.ep x1::@List.nil Int),
⟨(by(try dsimp only at *);grind),
fun n208=>fun h209=>(by(try dsimp only at *);exact(pu_9 h5 h205).1 _ ‹_›)⟩,
⟨⟨rfl,
(by(try dsimp only at *);grind)⟩,trivial⟩,
⟨⟨⟨(by(try dsimp only at *);grind)⟩,
(by(try dsimp only at *);exact litN rfl)⟩,trivial⟩,
⟨rfl,
(by(try dsimp only at *);omega),
(by(try dsimp only at *);omega),
(by(try dsimp only at *);exact cap2 (Nat.le_of_ble_eq_true rfl) (Nat.le_of_ble_eq_true rfl))⟩,
⟨rfl,
(by(try dsimp only at *);exact pu_len (pu_9 h5 h205).2)⟩,
⟨⟨(by(try dsimp only at *);exact Nat.le_of_eq (pu_len (pu_9 h5 h205).2).symm)⟩,
(by(try dsimp only at *);exact pu_rows (pu_9 h5 h205).2)⟩,trivial⟩,
fun g210=>have h210:=dF g210;⟨fun g211=>have h211:=dT g211;⟨⟨⟨trivial,trivial⟩,
⟨trivial,trivial⟩,trivial⟩,
(default),
⟨(by(try dsimp only at *);omega),
fun n213=>fun h214=>(by(try dsimp only at *);omega)⟩,
⟨⟨rfl,
(by(try dsimp only at *);omega)⟩,trivial⟩,
⟨⟨⟨(by(try dsimp only at *);omega)⟩,
(by(try dsimp only at *);omega)⟩,trivial⟩,
⟨rfl,
(by(try dsimp only at *);omega),
(by(try dsimp only at *);omega),
(by(try dsimp only at *);omega)⟩,
⟨rfl,
(by(try dsimp only at *);omega)⟩,
⟨⟨(by(try dsimp only at *);omega)⟩,
(by(try dsimp only at *);omega)⟩,trivial⟩,
fun g215=>have h215:=dF g215;⟨fun g216=>have h216:=dT g216;⟨⟨⟨trivial,trivial⟩,trivial⟩,
(default),
⟨(by(try dsimp only at *);omega),
fun n218=>fun h219=>(by(try dsimp only at *);omega)⟩,
⟨⟨rfl,
(by(try dsimp only at *);omega)⟩,trivial⟩,
⟨⟨⟨(by(try dsimp only at *);omega)⟩,
(by(try dsimp only at *);omega)⟩,trivial⟩,
⟨rfl,
(by(try dsimp only at *);omega),
(by(try dsimp only at *);omega),
(by(try dsimp only at *);omega)⟩,
⟨rfl,
(by(try dsimp only at *);omega)⟩,
⟨⟨(by(try dsimp only at *);omega)⟩,
(by(try dsimp only at *);omega)⟩,trivial⟩,
fun g220=>have h220:=dF g220;⟨fun g221=>have h221:=dT g221;⟨⟨⟨trivial,trivial⟩,trivial⟩,
(default),
⟨(by(try dsimp only at *);omega),
fun n223=>fun h224=>(by(try dsimp only at *);omega)⟩,
⟨⟨rfl,
(by(try dsimp only at *);omega)⟩,trivial⟩,
⟨⟨⟨(by(try dsimp only at *);omega)⟩,
(by(try dsimp only at *);omega)⟩,trivial⟩,
⟨rfl,
(by(try dsimp only at *);omega),
(by(try dsimp only at *);omega),
(by(try dsimp only at *);omega)⟩,
⟨rfl,
(by(try dsimp only at *);omega)⟩,
⟨⟨(by(try dsimp only at *);omega)⟩,
(by(try dsimp only at *);omega)⟩,trivial⟩,
fun g225=>have h225:=dF g225;⟨fun g226=>have h226:=dT g226;⟨⟨⟨trivial,trivial⟩,
⟨trivial,trivial⟩,trivial⟩,
(default),
⟨(by(try dsimp only at *);omega),
fun n228=>fun h229=>(by(try dsimp only at *);omega)⟩,
⟨⟨rfl,
(by(try dsimp only at *);omega)⟩,trivial⟩,
⟨⟨⟨(by(try dsimp only at *);omega)⟩,
(by(try dsimp only at *);omega)⟩,trivial⟩,
⟨rfl,
(by(try dsimp only at *);omega),
(by(try dsimp only at *);omega),
(by(try dsimp only at *);omega)⟩,
⟨rfl,
(by(try dsimp only at *);omega)⟩,
⟨⟨(by(try dsimp only at *);omega)⟩,
(by(try dsimp only at *);omega)⟩,trivial⟩,
fun g230=>have h230:=dF g230;⟨fun g231=>have h231:=dT g231;⟨⟨⟨trivial,trivial⟩,trivial⟩,
(default),
⟨(by(try dsimp only at *);omega),
fun n233=>fun h234=>(by(try dsimp only at *);omega)⟩,
⟨⟨rfl,
(by(try dsimp only at *);omega)⟩,trivial⟩,
⟨⟨⟨(by(try dsimp only at *);omega)⟩,
(by(try dsimp only at *);omega)⟩,trivial⟩,
⟨rfl,
(by(try dsimp only at *);omega),
(by(try dsimp only at *);omega),
(by(try dsimp only at *);omega)⟩,
⟨rfl,
(by(try dsimp only at *);omega)⟩,
⟨⟨(by(try dsimp only at *);omega)⟩,
(by(try dsimp only at *);omega)⟩,trivial⟩,
fun g235=>have h235:=dF g235;⟨⟨rfl,
(by(try dsimp only at *);omega)⟩,
⟨⟨(by(try dsimp only at *);omega)⟩,
(by(try dsimp only at *);omega)⟩,trivial⟩⟩⟩⟩⟩⟩⟩,
fun g236=>have h236:=dF g236;⟨fun g237=>have h237:=dT g237;⟨⟨⟨trivial,trivial⟩,
⟨trivial,trivial⟩,
⟨trivial,trivial⟩,trivial⟩,
(Cmd.dist x1::Cmd.cen x1::Cmd.ep x1::@List.nil Int),
⟨(by(try dsimp only at *);grind),
fun n239=>fun h240=>(by(try dsimp only at *);exact(pu_10 h5 h237).1 _ ‹_›)⟩,
⟨⟨rfl,
(by(try dsimp only at *);grind)⟩,trivial⟩,
⟨⟨⟨(by(try dsimp only at *);grind)⟩,
(by(try dsimp only at *);exact litN rfl)⟩,trivial⟩,
⟨rfl,
(by(try dsimp only at *);omega),
(by(try dsimp only at *);omega),
(by(try dsimp only at *);exact cap2 (Nat.le_of_ble_eq_true rfl) (Nat.le_of_ble_eq_true rfl))⟩,
⟨rfl,
(by(try dsimp only at *);exact pu_len (pu_10 h5 h237).2)⟩,
⟨⟨(by(try dsimp only at *);exact Nat.le_of_eq (pu_len (pu_10 h5 h237).2).symm)⟩,
(by(try dsimp only at *);exact pu_rows (pu_10 h5 h237).2)⟩,trivial⟩,
fun g241=>have h241:=dF g241;⟨fun g242=>have h242:=dT g242;⟨⟨⟨trivial,trivial⟩,
⟨trivial,trivial⟩,trivial⟩,
(Cmd.edge x1::Cmd.time x1::@List.nil Int),
⟨(by(try dsimp only at *);grind),
fun n244=>fun h245=>(by(try dsimp only at *);exact(pu_11 h5 h242).1 _ ‹_›)⟩,
⟨⟨rfl,
(by(try dsimp only at *);grind)⟩,trivial⟩,
⟨⟨⟨(by(try dsimp only at *);grind)⟩,
(by(try dsimp only at *);exact litN rfl)⟩,trivial⟩,
⟨rfl,
(by(try dsimp only at *);omega),
(by(try dsimp only at *);omega),
(by(try dsimp only at *);exact cap2 (Nat.le_of_ble_eq_true rfl) (Nat.le_of_ble_eq_true rfl))⟩,
⟨rfl,
(by(try dsimp only at *);exact pu_len (pu_11 h5 h242).2)⟩,
⟨⟨(by(try dsimp only at *);exact Nat.le_of_eq (pu_len (pu_11 h5 h242).2).symm)⟩,
(by(try dsimp only at *);exact pu_rows (pu_11 h5 h242).2)⟩,trivial⟩,
fun g246=>have h246:=dF g246;⟨fun g247=>have h247:=dT g247;⟨⟨⟨trivial,trivial⟩,trivial⟩,
(Cmd.tick x1::@List.nil Int),
⟨(by(try dsimp only at *);grind),
fun n249=>fun h250=>(by(try dsimp only at *);exact(pu_12 h5 h247).1 _ ‹_›)⟩,
⟨⟨rfl,
(by(try dsimp only at *);grind)⟩,trivial⟩,
⟨⟨⟨(by(try dsimp only at *);grind)⟩,
(by(try dsimp only at *);exact litN rfl)⟩,trivial⟩,
⟨rfl,
(by(try dsimp only at *);omega),
(by(try dsimp only at *);omega),
(by(try dsimp only at *);exact cap2 (Nat.le_of_ble_eq_true rfl) (Nat.le_of_ble_eq_true rfl))⟩,
⟨rfl,
(by(try dsimp only at *);exact pu_len (pu_12 h5 h247).2)⟩,
⟨⟨(by(try dsimp only at *);exact Nat.le_of_eq (pu_len (pu_12 h5 h247).2).symm)⟩,
(by(try dsimp only at *);exact pu_rows (pu_12 h5 h247).2)⟩,trivial⟩,
fun g251=>have h251:=dF g251;⟨fun g252=>have h252:=dT g252;⟨⟨⟨trivial,trivial⟩,trivial⟩,
(Cmd.inc x1::@List.nil Int),
⟨(by(try dsimp only at *);grind),
fun n254=>fun h255=>(by(try dsimp only at *);exact(pu_13 h5 h252).1 _ ‹_›)⟩,
⟨⟨rfl,
(by(try dsimp only at *);grind)⟩,trivial⟩,
⟨⟨⟨(by(try dsimp only at *);grind)⟩,
(by(try dsimp only at *);exact litN rfl)⟩,trivial⟩,
⟨rfl,
(by(try dsimp only at *);omega),
(by(try dsimp only at *);omega),
(by(try dsimp only at *);exact cap2 (Nat.le_of_ble_eq_true rfl) (Nat.le_of_ble_eq_true rfl))⟩,
⟨rfl,
(by(try dsimp only at *);exact pu_len (pu_13 h5 h252).2)⟩,
⟨⟨(by(try dsimp only at *);exact Nat.le_of_eq (pu_len (pu_13 h5 h252).2).symm)⟩,
(by(try dsimp only at *);exact pu_rows (pu_13 h5 h252).2)⟩,trivial⟩,
fun g256=>have h256:=dF g256;⟨fun g257=>have h257:=dT g257;⟨⟨⟨trivial,trivial⟩,
⟨trivial,trivial⟩,trivial⟩,
(Cmd.su x1::Cmd.node x1::@List.nil Int),
⟨(by(try dsimp only at *);grind),
fun n259=>fun h260=>(by(try dsimp only at *);exact(pu_14 h5 h257).1 _ ‹_›)⟩,
⟨⟨rfl,
(by(try dsimp only at *);grind)⟩,trivial⟩,
⟨⟨⟨(by(try dsimp only at *);grind)⟩,
(by(try dsimp only at *);exact litN rfl)⟩,trivial⟩,
⟨rfl,
(by(try dsimp only at *);omega),
(by(try dsimp only at *);omega),
(by(try dsimp only at *);exact cap2 (Nat.le_of_ble_eq_true rfl) (Nat.le_of_ble_eq_true rfl))⟩,
⟨rfl,
(by(try dsimp only at *);exact pu_len (pu_14 h5 h257).2)⟩,
⟨⟨(by(try dsimp only at *);exact Nat.le_of_eq (pu_len (pu_14 h5 h257).2).symm)⟩,
(by(try dsimp only at *);exact pu_rows (pu_14 h5 h257).2)⟩,trivial⟩,
fun g261=>have h261:=dF g261;⟨fun g262=>have h262:=dT g262;⟨⟨⟨trivial,trivial⟩,trivial⟩,
(Cmd.call x1::@List.nil Int),
⟨(by(try dsimp only at *);grind),
fun n264=>fun h265=>(by(try dsimp only at *);exact(pu_15 h5 h262).1 _ ‹_›)⟩,
⟨⟨rfl,
(by(try dsimp only at *);grind)⟩,trivial⟩,
⟨⟨⟨(by(try dsimp only at *);grind)⟩,
(by(try dsimp only at *);exact litN rfl)⟩,trivial⟩,
⟨rfl,
(by(try dsimp only at *);omega),
(by(try dsimp only at *);omega),
(by(try dsimp only at *);exact cap2 (Nat.le_of_ble_eq_true rfl) (Nat.le_of_ble_eq_true rfl))⟩,
⟨rfl,
(by(try dsimp only at *);exact pu_len (pu_15 h5 h262).2)⟩,
⟨⟨(by(try dsimp only at *);exact Nat.le_of_eq (pu_len (pu_15 h5 h262).2).symm)⟩,
(by(try dsimp only at *);exact pu_rows (pu_15 h5 h262).2)⟩,trivial⟩,
fun g266=>have h266:=dF g266;⟨⟨rfl,
(by(try dsimp only at *);exact qL (pu_6 h5 (k6 h5 (by simp[*]))))⟩,
⟨⟨(by(try dsimp only at *);exact qG (pu_6 h5 (k6 h5 (by simp[*]))))⟩,
(by(try dsimp only at *);exact qR (pu_6 h5 (k6 h5 (by simp[*]))))⟩,trivial⟩⟩⟩⟩⟩⟩⟩⟩⟩⟩⟩⟩⟩⟩⟩⟩)
theorem pu_good:Good Tryd.prog 15 puC/\FnOk Tryd.prog 15:=good_of tok conP (fn:=Tryd.f15) rfl (by decide+kernel) (fun _=>rfl) pu_keeps
end Go.Sym