import Derived.Test.YtcghhlodddpmaaaDoorSU
import Derived.Test.YtcghhlodddpmaaaDoorV6
import Derived.Test.YtcghhlodddpmaaaDoorXD
namespace Go.Sym
set_option linter.unusedVariables false
set_option linter.unusedSimpArgs false
open Go.Proofs
set_option maxRecDepth 100000
set_option maxHeartbeats 4000000
def spB:ByteArray:=⟨#[32]⟩
def wordF (c:Cmd) (f:Int):ByteArray:=if f=4 then c.code else if f=5 then setS c.nodes else if f=16/\c.time=4611686018427387904 then nevS else itoS (numF c f)
def wdsW (c:Cmd) (i:Nat):List ByteArray:=nmT c.kind::((fsC c.kind).take i).map (wordF c)
def wdsF (c:Cmd):List ByteArray:=nmT c.kind::(fsC c.kind).map (wordF c)
def fmtF (c:Cmd):ByteArray:=if vC c then joiS (wdsF c) spB else⟨#[]⟩
theorem fmt_0 {c:Cmd} (h:(!vC c)=true):(⟨#[]⟩:ByteArray)=fmtF c:=by
 have:vC c=false:=by simpa using h
 unfold fmtF
 rw[this]
 rfl
theorem fmt_v {c:Cmd} (h:vC c=true):joiS (wdsF c) spB=fmtF c:=by unfold fmtF;rw[if_pos h]
theorem wdsW_s {c:Cmd} {i:Nat} (h:(i:Int)<(fsC c.kind).length):wdsW c (i+1)=wdsW c i++[wordF c (fAt c i)]:=by
 have h:i<(fsC c.kind).length:=by omega
 unfold wdsW
 rw[List.take_add_one,List.getElem?_eq_getElem h,<- fAt_eq,List.getD_eq_getElem?_getD,List.getElem?_eq_getElem h,List.map_append]
 rfl
theorem wdsW_t {c:Cmd} {i:Nat} (h:¬ (i:Int)<(fsC c.kind).length):wdsW c i=wdsF c:=by
 unfold wdsW wdsF
 rw[List.take_of_length_le (by omega)]
theorem wdsW_len {c:Cmd} {i:Nat} (h:i<=(fsC c.kind).length):(wdsW c i).length=i+1:=by
 unfold wdsW
 rw[List.length_cons,List.length_map,List.length_take]
 omega
theorem vNodes_p {l:List Int} (h:vNodes l=true):(∀ n∈l,0<=n/\n<4096)/\l.Pairwise (· <·):=by
 unfold vNodes at h
 simp only[Bool.and_eq_true,decide_eq_true_eq]at h
 have g:∀ i (hi:i<l.length),l.getD i 0=l[i]:=fun i hi=>by rw[List.getD_eq_getElem?_getD,List.getElem?_eq_getElem hi];rfl
 refine⟨fun n hn=>?_,?_⟩
 ·obtain⟨i,hi,rfl⟩:=List.getElem_of_mem hn
  have:=h.2 i hi
  rw[g i hi]at this
  exact⟨this.1,this.2.1⟩
 ·rw[List.pairwise_iff_getElem]
  have key:∀(d i:Nat) (hj:i+d+1<l.length),l[i]'(by omega)<l[i+d+1]'hj:=by
   intro d
   induction d with
   |zero=>
    intro i hj
    have:=(h.2 (i+0+1) hj).2.2 (by omega)
    rw[g _ hj,show i+0+1-1=i by omega,g i (by omega)]at this
    exact this
   |succ d ih=>
    intro i hj
    have a:=ih i (by omega)
    have:=(h.2 (i+(d+1)+1) hj).2.2 (by omega)
    rw[g _ hj,show i+(d+1)+1-1=i+d+1 by omega,g _ (by omega)]at this
    omega
  intro i j hi hj hij
  have:=key (j-i-1) i (by omega)
  simp only[show i+(j-i-1)+1=j by omega]at this
  exact this
def fgC:CT where
 X:=Cmd
 pre:=fun x=>x.nodes.length<=60/\x.code.size<=1000
 args:=fun x=>[.agg (cl x 100001)]
 g0:=fun x=>[nB 100001 x]
 res:=fun x=>.s (fmtF x)
 g1:=fun _=>[]
theorem nmT_size (k:Int):(nmT k).size<=10:=by
 have h:∀ i:Fin 16,(namL.getD i.val default).size<=10:=by decide+kernel
 unfold nmT
 split
 ·exact Nat.zero_le _
 ·exact h ⟨k.toNat,by omega⟩
theorem wordF_size {c:Cmd} {f:Int} (h:fOk c f=true) (hn:c.nodes.length<=60):(wordF c f).size<=2684:=by
 unfold wordF
 split
 ·have:=vCode_r (fOk4 h ‹_›)
  omega
 ·split
  ·exact setS_size (vNodes_p (fOk5 h ‹_› ‹_›)).1 hn
  ·split
   ·show 5<=2684
    decide
   ·have:=ito_size (inRF_r (fOkn h ‹_› ‹_›))
    omega
theorem wdsF_b {c:Cmd} (h:vC c=true) (hn:c.nodes.length<=60):(wdsF c).length<=1000/\(joiS (wdsF c) spB).size<=1000000:=by
 have hf:=fs_small c.kind
 have hl:(wdsF c).length<=6:=by
  unfold wdsF
  rw[List.length_cons,List.length_map]
  omega
 have:=joi_size (b:=2684) spB (wdsF c) (fun x hx=>by
  unfold wdsF at hx
  rcases List.mem_cons.1 hx with rfl|hx
  ·have:=nmT_size c.kind
   omega
  ·obtain⟨f,hf,rfl⟩:=List.mem_map.1 hx
   obtain⟨i,hi,rfl⟩:=List.getElem_of_mem hf
   have h2:=vC_f h (i:=i) (by omega)
   have e:fAt c i=(fsC c.kind)[i]:=by rw[<- fAt_eq,List.getD_eq_getElem?_getD,List.getElem?_eq_getElem hi];rfl
   rw[e]at h2
   exact wordF_size h2 hn)
 have e1:spB.size=1:=rfl
 rw[e1]at this
 have:(wdsF c).length*(2684+1)<=6*2685:=Nat.mul_le_mul hl (by decide)
 omega
theorem fg_4 {c:Cmd} {i:Nat} (h:(i:Int)<(fsC c.kind).length) (h1:fAt c i=4):wdsW c i++[c.code]=wdsW c (i+1):=by rw[wdsW_s h,wordF,if_pos h1]
theorem fg_5 {c:Cmd} {i:Nat} (hv:vC c=true) (h:(i:Int)<(fsC c.kind).length) (h1:¬ fAt c i=4) (h2:fAt c i=5):wdsW c i++[strW (ofW c.nodes c.nodes.length)]=wdsW c (i+1):=by
 have hp:=vNodes_p (fOk5 (vC_f hv h) h1 h2)
 rw[wdsW_s h,wordF,if_neg h1,if_pos h2,setS_of hp.2 hp.1]
theorem fg_6 {c:Cmd} {i:Nat} (h:(i:Int)<(fsC c.kind).length) (h1:¬ fAt c i=4) (h2:¬ fAt c i=5) (h3:fAt c i=16) (h4:c.time=4611686018427387904):wdsW c i++[⟨#[110,101,118,101,114]⟩]=wdsW c (i+1):=by
 rw[wdsW_s h,wordF,if_neg h1,if_neg h2,if_pos ⟨h3,h4⟩]
 rfl
theorem fg_7 {c:Cmd} {i:Nat} (h:(i:Int)<(fsC c.kind).length) (h1:¬ fAt c i=4) (h2:¬ fAt c i=5) (h3:¬ (fAt c i=16/\c.time=4611686018427387904)):wdsW c i++[itoS (numF c (fAt c i))]=wdsW c (i+1):=by rw[wdsW_s h,wordF,if_neg h1,if_neg h2,if_neg h3]
theorem fg_len {c:Cmd} {i:Nat} {w:ByteArray} (h:wdsW c i++[w]=wdsW c (i+1)):(wdsW c i).length+1=(wdsW c (i+1)).length:=by rw[<- h];simp
theorem fg_r {c:Cmd} {i:Nat} {w:ByteArray} {m:Nat} (hm:m<=(wdsW c i).length+1) (h:wdsW c i++[w]=wdsW c (i+1)):RowsEq kT m (appRows (wdsW c i).length (encL encS (wdsW c i)) 0 (litRows [[D.s w]])) (encL encS (wdsW c (i+1))):=by
 rw[<- h]
 exact rowsEq_push rfl hm ⟨rfl,trivial⟩
theorem fg_c {c:Cmd} {i:Nat} (h:(i:Int)<(fsC c.kind).length):(wdsW c i).length+1<=1073741824:=by
 rw[wdsW_len (by omega)]
 have:=fs_small c.kind
 omega
theorem fg_0 {c:Cmd} {m:Nat} (hm:m<=1):RowsEq kT m (litRows [[D.s (nmT c.kind)]]) (encL encS (wdsW c 0)):=by
 refine⟨fun r hr=>?_⟩
 have:r=0:=by omega
 subst this
 exact⟨rfl,trivial⟩
theorem fg_s {c:Cmd} (hv:vC c=true) {i:Nat} (h:(i:Int)<(fsC c.kind).length) (h1:¬ fAt c i=4) (h2:fAt c i=5) (hn:c.nodes.length<=60):(elemsW (ofW c.nodes c.nodes.length)).length<=60:=by
 have hp:=vNodes_p (fOk5 (vC_f hv h) h1 h2)
 rw[<- elemsZ_len,ofW_sorted hp.2 hp.1]
 exact hn
def cfgFG:Cfg:=⟨T,[],[(12,.one vdC),(43,.one nmC),(28,.one fsCt),(32,.one numC),(46,.one fiC),(47,.one joC),(44,.one ofC),(45,.one strC)],noInv,60,{ kn:=true }⟩
theorem conFG:ConOk Tryd.prog cfgFG:=ConL.ok (.cons (ConL.one vd_good) (.cons (ConL.one nm_good) (.cons (ConL.one fs_good) (.cons (ConL.one num_good) (.cons (ConL.one fi_good) (.cons (ConL.one jo_good) (.cons (ConL.one of_good) (.cons (ConL.one str_good) .nil))))))))
def fgI (x:Cmd) (id:Nat):Option Inv:=match id with
 | 0 => some { X := Nat, ok := fun i => i <= (fsC x.kind).length, fr := fun i => [(1, .p 311 0 0), (3, .sl 361 0 (wdsW x i).length), (21, .sl 313 0 (fsC x.kind).length), (22, .i .i64 (fsC x.kind).length), (23, .i .i64 i)],
               hp:=fun i=>[(311,.one .own (cl x 100001)),nB 100001 x,(313,.rows .own kN (fsC x.kind).length (encL encI (fsC x.kind))),(361,.rows .own kT (wdsW x i).length (encL encS (wdsW x i)))],me:=fun i=>(fsC x.kind).length-i }
 |_=>none
theorem fg_t {c:Cmd} {i:Nat} (hv:vC c=true) (h:¬ (i:Int)<(fsC c.kind).length) (hn:c.nodes.length<=60):((wdsW c i).length<=1000/\(joiS (wdsW c i) ⟨#[32]⟩).size<=1000000)/\joiS (wdsW c i) ⟨#[32]⟩=fmtF c:=by
 rw[wdsW_t h]
 exact⟨wdsF_b hv hn,fmt_v hv⟩
set_option maxRecDepth 100000 in
theorem fg_keeps:Keeps cfgFG Tryd.f16 fgC fgI:=Eq.mp (show((∀ x1:Cmd,((x1.nodes.length<=(60:Nat)/\ByteArray.size x1.code<=(1000:Nat))->(∃ x3:Cmd,((x3.nodes.length<=(1000000:Nat))/\(((x1.kind=x3.kind/\(x1.call=x3.call/\(x1.inc=x3.inc/\(x1.oth=x3.oth/\(x1.urg=x3.urg/\(x1.code=x3.code/\((0=0/\x1.nodes.length=x3.nodes.length)/\(x1.dist=x3.dist/\(x1.cen=x3.cen/\(x1.ep=x3.ep/\(x1.tick=x3.tick/\(x1.su=x3.su/\(x1.sq=x3.sq/\(x1.ss=x3.ss/\(x1.sn=x3.sn/\(x1.se=x3.se/\(x1.edge=x3.edge/\(x1.time=x3.time/\(x1.node=x3.node/\True)))))))))))))))))))/\True)/\((((RLe x3.nodes.length x1.nodes.length)/\(RI x3.nodes.length x1.nodes x3.nodes))/\True)/\((((!vC x3)=true)->(((ByteArray.mk (List.toArray (@List.nil UInt8)))=fmtF x1)/\True))/\(((!vC x3)=false)->(∃ x6:Int,(True/\((x1.kind=x6/\True)/\(True/\(((True/\True)/\True)/\(∃ x7:Int,(True/\((x1.kind=x7/\True)/\(True/\(∃ x8:Nat,(((x8<=(fsC x1.kind).length)/\(((0=0/\0=0)/\((0=0/\((1:Nat)=(wdsW x1 x8).length))/\((0=0/\((fsC x7).length=(fsC x1.kind).length))/\(((↑(fsC x7).length:Int)=(↑(fsC x1.kind).length:Int))/\((0=(x8:Int))/\((kOk x7=kOk x7)/\((kOk x7=kOk x7)/\(x1.kind=x1.kind/\((nmT x6=nmT x6)/\(x1.kind=x1.kind/\(false=false/\((vC x3=vC x3)/\((x1.kind=x1.kind/\(x1.call=x1.call/\(x1.inc=x1.inc/\(x1.oth=x1.oth/\(x1.urg=x1.urg/\(x1.code=x1.code/\((0=0/\x1.nodes.length=x1.nodes.length)/\(x1.dist=x1.dist/\(x1.cen=x1.cen/\(x1.ep=x1.ep/\(x1.tick=x1.tick/\(x1.su=x1.su/\(x1.sq=x1.sq/\(x1.ss=x1.ss/\(x1.sn=x1.sn/\(x1.se=x1.se/\(x1.edge=x1.edge/\(x1.time=x1.time/\(x1.node=x1.node/\True)))))))))))))))))))/\(((ByteArray.mk (List.toArray (@List.nil UInt8)))=(ByteArray.mk (List.toArray (@List.nil UInt8))))/\((x1.kind=x1.kind/\(x1.call=x1.call/\(x1.inc=x1.inc/\(x1.oth=x1.oth/\(x1.urg=x1.urg/\(x1.code=x1.code/\((0=0/\x1.nodes.length=x1.nodes.length)/\(x1.dist=x1.dist/\(x1.cen=x1.cen/\(x1.ep=x1.ep/\(x1.tick=x1.tick/\(x1.su=x1.su/\(x1.sq=x1.sq/\(x1.ss=x1.ss/\(x1.sn=x1.sn/\(x1.se=x1.se/\(x1.edge=x1.edge/\(x1.time=x1.time/\(x1.node=x1.node/\True)))))))))))))))))))/\True)))))))))))))))/\((x1.kind=x1.kind/\(x1.call=x1.call/\(x1.inc=x1.inc/\(x1.oth=x1.oth/\(x1.urg=x1.urg/\(x1.code=x1.code/\((0=0/\x1.nodes.length=x1.nodes.length)/\(x1.dist=x1.dist/\(x1.cen=x1.cen/\(x1.ep=x1.ep/\(x1.tick=x1.tick/\(x1.su=x1.su/\(x1.sq=x1.sq/\(x1.ss=x1.ss/\(x1.sn=x1.sn/\(x1.se=x1.se/\(x1.edge=x1.edge/\(x1.time=x1.time/\(x1.node=x1.node/\True)))))))))))))))))))/\(((RLe x1.nodes.length x1.nodes.length)/\(RI x1.nodes.length x1.nodes x1.nodes))/\(((RLe (fsC x1.kind).length (fsC x7).length)/\(RowsEq [.int .i64] (fsC x1.kind).length (encL encI (fsC x7)) (encL encI (fsC x1.kind))))/\(((RLe (wdsW x1 x8).length 1)/\(RowsEq (Kd.str::[]) (wdsW x1 x8).length (litRows ((D.s (nmT x6)::@List.nil D)::@List.nil (List D))) (encL encS (wdsW x1 x8))))/\True))))))/\(∀ x9:Nat,((x9<=(fsC x1.kind).length)->(((decide ((x9:Int)<(↑(fsC x1.kind).length:Int))=true)->((((0:Int)<=(x9:Int))/\((x9:Int)<(↑(fsC x1.kind).length:Int)))/\((0+Int.toNat (x9:Int)<(fsC x1.kind).length)/\(((decide ((fsC x1.kind).getD (0+Int.toNat (x9:Int)) default=4)=true)->(((True/\True)/\True)/\((0=0/\(((wdsW x1 x9).length<=(wdsW x1 x9).length)/\(((1:Nat)<=(1:Nat))/\((wdsW x1 x9).length+(1:Nat)<=(1073741824:Nat)))))/\((((-9223372036854775808:Int)<=(x9:Int)+1)/\((x9:Int)+1<=(9223372036854775807:Int)))/\(∃ x13:Nat,(((fsC x1.kind).length-x13<(fsC x1.kind).length-x9)/\((x13<=(fsC x1.kind).length)/\(((0=0/\0=0)/\((0=0/\((wdsW x1 x9).length+(1:Nat)=(wdsW x1 x13).length))/\((0=0/\((fsC x1.kind).length=(fsC x1.kind).length))/\(((↑(fsC x1.kind).length:Int)=(↑(fsC x1.kind).length:Int))/\(((x9:Int)+1=(x13:Int))/\((kOk x7=kOk x7)/\((kOk x7=kOk x7)/\(x1.kind=x1.kind/\((nmT x6=nmT x6)/\(x1.kind=x1.kind/\(false=false/\((vC x3=vC x3)/\((x1.kind=x1.kind/\(x1.call=x1.call/\(x1.inc=x1.inc/\(x1.oth=x1.oth/\(x1.urg=x1.urg/\(x1.code=x1.code/\((0=0/\x1.nodes.length=x1.nodes.length)/\(x1.dist=x1.dist/\(x1.cen=x1.cen/\(x1.ep=x1.ep/\(x1.tick=x1.tick/\(x1.su=x1.su/\(x1.sq=x1.sq/\(x1.ss=x1.ss/\(x1.sn=x1.sn/\(x1.se=x1.se/\(x1.edge=x1.edge/\(x1.time=x1.time/\(x1.node=x1.node/\True)))))))))))))))))))/\(((ByteArray.mk (List.toArray (@List.nil UInt8)))=(ByteArray.mk (List.toArray (@List.nil UInt8))))/\((x1.kind=x1.kind/\(x1.call=x1.call/\(x1.inc=x1.inc/\(x1.oth=x1.oth/\(x1.urg=x1.urg/\(x1.code=x1.code/\((0=0/\x1.nodes.length=x1.nodes.length)/\(x1.dist=x1.dist/\(x1.cen=x1.cen/\(x1.ep=x1.ep/\(x1.tick=x1.tick/\(x1.su=x1.su/\(x1.sq=x1.sq/\(x1.ss=x1.ss/\(x1.sn=x1.sn/\(x1.se=x1.se/\(x1.edge=x1.edge/\(x1.time=x1.time/\(x1.node=x1.node/\True)))))))))))))))))))/\True)))))))))))))))/\((x1.kind=x1.kind/\(x1.call=x1.call/\(x1.inc=x1.inc/\(x1.oth=x1.oth/\(x1.urg=x1.urg/\(x1.code=x1.code/\((0=0/\x1.nodes.length=x1.nodes.length)/\(x1.dist=x1.dist/\(x1.cen=x1.cen/\(x1.ep=x1.ep/\(x1.tick=x1.tick/\(x1.su=x1.su/\(x1.sq=x1.sq/\(x1.ss=x1.ss/\(x1.sn=x1.sn/\(x1.se=x1.se/\(x1.edge=x1.edge/\(x1.time=x1.time/\(x1.node=x1.node/\True)))))))))))))))))))/\(((RLe x1.nodes.length x1.nodes.length)/\(RI x1.nodes.length x1.nodes x1.nodes))/\(((RLe (fsC x1.kind).length (fsC x1.kind).length)/\(RowsEq [.int .i64] (fsC x1.kind).length (encL encI (fsC x1.kind)) (encL encI (fsC x1.kind))))/\(((RLe (wdsW x1 x13).length ((wdsW x1 x9).length+(1:Nat)))/\(RowsEq (Kd.str::[]) (wdsW x1 x13).length (appRows (wdsW x1 x9).length (encL encS (wdsW x1 x9)) 0 (litRows ((D.s x1.code::@List.nil D)::@List.nil (List D)))) (encL encS (wdsW x1 x13))))/\True))))))))))))/\((decide ((fsC x1.kind).getD (0+Int.toNat (x9:Int)) default=4)=false)->(((decide ((fsC x1.kind).getD (0+Int.toNat (x9:Int)) default=5)=true)->(∃ x16:List Int,((x16.length<=(1048576:Nat))/\(((0=0/\x1.nodes.length=x16.length)/\True)/\((((RLe x16.length x1.nodes.length)/\(RI x16.length x1.nodes x16))/\True)/\(∃ x17:List Nat,(((WOk x17)/\((elemsW x17).length<=(60:Nat)))/\((((szW (ofW x16 x16.length)=szW x17)/\True)/\True)/\((((RLe (szW x17) (szW (ofW x16 x16.length)))/\(RowsEq [.int .u64] (szW x17) (encL encW (ofW x16 x16.length)) (encL encW x17)))/\True)/\(((True/\True)/\True)/\((0=0/\(((wdsW x1 x9).length<=(wdsW x1 x9).length)/\(((1:Nat)<=(1:Nat))/\((wdsW x1 x9).length+(1:Nat)<=(1073741824:Nat)))))/\((((-9223372036854775808:Int)<=(x9:Int)+1)/\((x9:Int)+1<=(9223372036854775807:Int)))/\(∃ x18:Nat,(((fsC x1.kind).length-x18<(fsC x1.kind).length-x9)/\((x18<=(fsC x1.kind).length)/\(((0=0/\0=0)/\((0=0/\((wdsW x1 x9).length+(1:Nat)=(wdsW x1 x18).length))/\((0=0/\((fsC x1.kind).length=(fsC x1.kind).length))/\(((↑(fsC x1.kind).length:Int)=(↑(fsC x1.kind).length:Int))/\(((x9:Int)+1=(x18:Int))/\((kOk x7=kOk x7)/\((kOk x7=kOk x7)/\(x1.kind=x1.kind/\((nmT x6=nmT x6)/\(x1.kind=x1.kind/\(false=false/\((vC x3=vC x3)/\((x1.kind=x1.kind/\(x1.call=x1.call/\(x1.inc=x1.inc/\(x1.oth=x1.oth/\(x1.urg=x1.urg/\(x1.code=x1.code/\((0=0/\x1.nodes.length=x1.nodes.length)/\(x1.dist=x1.dist/\(x1.cen=x1.cen/\(x1.ep=x1.ep/\(x1.tick=x1.tick/\(x1.su=x1.su/\(x1.sq=x1.sq/\(x1.ss=x1.ss/\(x1.sn=x1.sn/\(x1.se=x1.se/\(x1.edge=x1.edge/\(x1.time=x1.time/\(x1.node=x1.node/\True)))))))))))))))))))/\(((ByteArray.mk (List.toArray (@List.nil UInt8)))=(ByteArray.mk (List.toArray (@List.nil UInt8))))/\((x1.kind=x1.kind/\(x1.call=x1.call/\(x1.inc=x1.inc/\(x1.oth=x1.oth/\(x1.urg=x1.urg/\(x1.code=x1.code/\((0=0/\x1.nodes.length=x1.nodes.length)/\(x1.dist=x1.dist/\(x1.cen=x1.cen/\(x1.ep=x1.ep/\(x1.tick=x1.tick/\(x1.su=x1.su/\(x1.sq=x1.sq/\(x1.ss=x1.ss/\(x1.sn=x1.sn/\(x1.se=x1.se/\(x1.edge=x1.edge/\(x1.time=x1.time/\(x1.node=x1.node/\True)))))))))))))))))))/\True)))))))))))))))/\((x1.kind=x1.kind/\(x1.call=x1.call/\(x1.inc=x1.inc/\(x1.oth=x1.oth/\(x1.urg=x1.urg/\(x1.code=x1.code/\((0=0/\x1.nodes.length=x1.nodes.length)/\(x1.dist=x1.dist/\(x1.cen=x1.cen/\(x1.ep=x1.ep/\(x1.tick=x1.tick/\(x1.su=x1.su/\(x1.sq=x1.sq/\(x1.ss=x1.ss/\(x1.sn=x1.sn/\(x1.se=x1.se/\(x1.edge=x1.edge/\(x1.time=x1.time/\(x1.node=x1.node/\True)))))))))))))))))))/\(((RLe x1.nodes.length x1.nodes.length)/\(RI x1.nodes.length x1.nodes x1.nodes))/\(((RLe (fsC x1.kind).length (fsC x1.kind).length)/\(RowsEq [.int .i64] (fsC x1.kind).length (encL encI (fsC x1.kind)) (encL encI (fsC x1.kind))))/\(((RLe (wdsW x1 x18).length ((wdsW x1 x9).length+(1:Nat)))/\(RowsEq (Kd.str::[]) (wdsW x1 x18).length (appRows (wdsW x1 x9).length (encL encS (wdsW x1 x9)) 0 (litRows ((D.s (strW x17)::@List.nil D)::@List.nil (List D)))) (encL encS (wdsW x1 x18))))/\True))))))))))))))))))))/\((decide ((fsC x1.kind).getD (0+Int.toNat (x9:Int)) default=5)=false)->(((decide ((fsC x1.kind).getD (0+Int.toNat (x9:Int)) default=16)=true)->(((decide (x1.time=(4611686018427387904:Int))=true)->(((True/\True)/\True)/\((0=0/\(((wdsW x1 x9).length<=(wdsW x1 x9).length)/\(((1:Nat)<=(1:Nat))/\((wdsW x1 x9).length+(1:Nat)<=(1073741824:Nat)))))/\((((-9223372036854775808:Int)<=(x9:Int)+1)/\((x9:Int)+1<=(9223372036854775807:Int)))/\(∃ x22:Nat,(((fsC x1.kind).length-x22<(fsC x1.kind).length-x9)/\((x22<=(fsC x1.kind).length)/\(((0=0/\0=0)/\((0=0/\((wdsW x1 x9).length+(1:Nat)=(wdsW x1 x22).length))/\((0=0/\((fsC x1.kind).length=(fsC x1.kind).length))/\(((↑(fsC x1.kind).length:Int)=(↑(fsC x1.kind).length:Int))/\(((x9:Int)+1=(x22:Int))/\((kOk x7=kOk x7)/\((kOk x7=kOk x7)/\(x1.kind=x1.kind/\((nmT x6=nmT x6)/\(x1.kind=x1.kind/\(false=false/\((vC x3=vC x3)/\((x1.kind=x1.kind/\(x1.call=x1.call/\(x1.inc=x1.inc/\(x1.oth=x1.oth/\(x1.urg=x1.urg/\(x1.code=x1.code/\((0=0/\x1.nodes.length=x1.nodes.length)/\(x1.dist=x1.dist/\(x1.cen=x1.cen/\(x1.ep=x1.ep/\(x1.tick=x1.tick/\(x1.su=x1.su/\(x1.sq=x1.sq/\(x1.ss=x1.ss/\(x1.sn=x1.sn/\(x1.se=x1.se/\(x1.edge=x1.edge/\(x1.time=x1.time/\(x1.node=x1.node/\True)))))))))))))))))))/\(((ByteArray.mk (List.toArray (@List.nil UInt8)))=(ByteArray.mk (List.toArray (@List.nil UInt8))))/\((x1.kind=x1.kind/\(x1.call=x1.call/\(x1.inc=x1.inc/\(x1.oth=x1.oth/\(x1.urg=x1.urg/\(x1.code=x1.code/\((0=0/\x1.nodes.length=x1.nodes.length)/\(x1.dist=x1.dist/\(x1.cen=x1.cen/\(x1.ep=x1.ep/\(x1.tick=x1.tick/\(x1.su=x1.su/\(x1.sq=x1.sq/\(x1.ss=x1.ss/\(x1.sn=x1.sn/\(x1.se=x1.se/\(x1.edge=x1.edge/\(x1.time=x1.time/\(x1.node=x1.node/\True)))))))))))))))))))/\True)))))))))))))))/\((x1.kind=x1.kind/\(x1.call=x1.call/\(x1.inc=x1.inc/\(x1.oth=x1.oth/\(x1.urg=x1.urg/\(x1.code=x1.code/\((0=0/\x1.nodes.length=x1.nodes.length)/\(x1.dist=x1.dist/\(x1.cen=x1.cen/\(x1.ep=x1.ep/\(x1.tick=x1.tick/\(x1.su=x1.su/\(x1.sq=x1.sq/\(x1.ss=x1.ss/\(x1.sn=x1.sn/\(x1.se=x1.se/\(x1.edge=x1.edge/\(x1.time=x1.time/\(x1.node=x1.node/\True)))))))))))))))))))/\(((RLe x1.nodes.length x1.nodes.length)/\(RI x1.nodes.length x1.nodes x1.nodes))/\(((RLe (fsC x1.kind).length (fsC x1.kind).length)/\(RowsEq [.int .i64] (fsC x1.kind).length (encL encI (fsC x1.kind)) (encL encI (fsC x1.kind))))/\(((RLe (wdsW x1 x22).length ((wdsW x1 x9).length+(1:Nat)))/\(RowsEq (Kd.str::[]) (wdsW x1 x22).length (appRows (wdsW x1 x9).length (encL encS (wdsW x1 x9)) 0 (litRows ((D.s (ByteArray.mk (List.toArray ((110:UInt8)::(101:UInt8)::(118:UInt8)::(101:UInt8)::(114:UInt8)::@List.nil UInt8)))::@List.nil D)::@List.nil (List D)))) (encL encS (wdsW x1 x22))))/\True))))))))))))/\((decide (x1.time=(4611686018427387904:Int))=false)->(∃ x24:Cmd × Int,(True/\((((x1.kind=(Prod.fst x24).kind)/\((x1.call=(Prod.fst x24).call)/\((x1.inc=(Prod.fst x24).inc)/\((x1.oth=(Prod.fst x24).oth)/\((x1.urg=(Prod.fst x24).urg)/\((x1.code=(Prod.fst x24).code)/\((0=0/\(x1.nodes.length=(Prod.fst x24).nodes.length))/\((x1.dist=(Prod.fst x24).dist)/\((x1.cen=(Prod.fst x24).cen)/\((x1.ep=(Prod.fst x24).ep)/\((x1.tick=(Prod.fst x24).tick)/\((x1.su=(Prod.fst x24).su)/\((x1.sq=(Prod.fst x24).sq)/\((x1.ss=(Prod.fst x24).ss)/\((x1.sn=(Prod.fst x24).sn)/\((x1.se=(Prod.fst x24).se)/\((x1.edge=(Prod.fst x24).edge)/\((x1.time=(Prod.fst x24).time)/\((x1.node=(Prod.fst x24).node)/\True)))))))))))))))))))/\(((fsC x1.kind).getD (0+Int.toNat (x9:Int)) default=Prod.snd x24)/\True))/\((((RLe (Prod.fst x24).nodes.length x1.nodes.length)/\(RowsEq [.int .i64] (Prod.fst x24).nodes.length (encL encI x1.nodes) (encL encI (Prod.fst x24).nodes)))/\True)/\(∃ x25:Int,((r64 x25)/\(((numF (Prod.fst x24) (Prod.snd x24)=x25)/\(((10:Int)=10)/\True))/\(True/\(((True/\True)/\True)/\((0=0/\(((wdsW x1 x9).length<=(wdsW x1 x9).length)/\(((1:Nat)<=(1:Nat))/\((wdsW x1 x9).length+(1:Nat)<=(1073741824:Nat)))))/\((((-9223372036854775808:Int)<=(x9:Int)+1)/\((x9:Int)+1<=(9223372036854775807:Int)))/\(∃ x26:Nat,(((fsC x1.kind).length-x26<(fsC x1.kind).length-x9)/\((x26<=(fsC x1.kind).length)/\(((0=0/\0=0)/\((0=0/\((wdsW x1 x9).length+(1:Nat)=(wdsW x1 x26).length))/\((0=0/\((fsC x1.kind).length=(fsC x1.kind).length))/\(((↑(fsC x1.kind).length:Int)=(↑(fsC x1.kind).length:Int))/\(((x9:Int)+1=(x26:Int))/\((kOk x7=kOk x7)/\((kOk x7=kOk x7)/\(x1.kind=x1.kind/\((nmT x6=nmT x6)/\(x1.kind=x1.kind/\(false=false/\((vC x3=vC x3)/\((x1.kind=x1.kind/\(x1.call=x1.call/\(x1.inc=x1.inc/\(x1.oth=x1.oth/\(x1.urg=x1.urg/\(x1.code=x1.code/\((0=0/\x1.nodes.length=x1.nodes.length)/\(x1.dist=x1.dist/\(x1.cen=x1.cen/\(x1.ep=x1.ep/\(x1.tick=x1.tick/\(x1.su=x1.su/\(x1.sq=x1.sq/\(x1.ss=x1.ss/\(x1.sn=x1.sn/\(x1.se=x1.se/\(x1.edge=x1.edge/\(x1.time=x1.time/\(x1.node=x1.node/\True)))))))))))))))))))/\(((ByteArray.mk (List.toArray (@List.nil UInt8)))=(ByteArray.mk (List.toArray (@List.nil UInt8))))/\((x1.kind=x1.kind/\(x1.call=x1.call/\(x1.inc=x1.inc/\(x1.oth=x1.oth/\(x1.urg=x1.urg/\(x1.code=x1.code/\((0=0/\x1.nodes.length=x1.nodes.length)/\(x1.dist=x1.dist/\(x1.cen=x1.cen/\(x1.ep=x1.ep/\(x1.tick=x1.tick/\(x1.su=x1.su/\(x1.sq=x1.sq/\(x1.ss=x1.ss/\(x1.sn=x1.sn/\(x1.se=x1.se/\(x1.edge=x1.edge/\(x1.time=x1.time/\(x1.node=x1.node/\True)))))))))))))))))))/\True)))))))))))))))/\((x1.kind=x1.kind/\(x1.call=x1.call/\(x1.inc=x1.inc/\(x1.oth=x1.oth/\(x1.urg=x1.urg/\(x1.code=x1.code/\((0=0/\x1.nodes.length=x1.nodes.length)/\(x1.dist=x1.dist/\(x1.cen=x1.cen/\(x1.ep=x1.ep/\(x1.tick=x1.tick/\(x1.su=x1.su/\(x1.sq=x1.sq/\(x1.ss=x1.ss/\(x1.sn=x1.sn/\(x1.se=x1.se/\(x1.edge=x1.edge/\(x1.time=x1.time/\(x1.node=x1.node/\True)))))))))))))))))))/\(((RLe x1.nodes.length x1.nodes.length)/\(RI x1.nodes.length x1.nodes x1.nodes))/\(((RLe (fsC x1.kind).length (fsC x1.kind).length)/\(RowsEq [.int .i64] (fsC x1.kind).length (encL encI (fsC x1.kind)) (encL encI (fsC x1.kind))))/\(((RLe (wdsW x1 x26).length ((wdsW x1 x9).length+(1:Nat)))/\(RowsEq (Kd.str::[]) (wdsW x1 x26).length (appRows (wdsW x1 x9).length (encL encS (wdsW x1 x9)) 0 (litRows ((D.s (itoS x25)::@List.nil D)::@List.nil (List D)))) (encL encS (wdsW x1 x26))))/\True))))))))))))))))))))))/\((decide ((fsC x1.kind).getD (0+Int.toNat (x9:Int)) default=16)=false)->(∃ x28:Cmd × Int,(True/\((((x1.kind=(Prod.fst x28).kind)/\((x1.call=(Prod.fst x28).call)/\((x1.inc=(Prod.fst x28).inc)/\((x1.oth=(Prod.fst x28).oth)/\((x1.urg=(Prod.fst x28).urg)/\((x1.code=(Prod.fst x28).code)/\((0=0/\(x1.nodes.length=(Prod.fst x28).nodes.length))/\((x1.dist=(Prod.fst x28).dist)/\((x1.cen=(Prod.fst x28).cen)/\((x1.ep=(Prod.fst x28).ep)/\((x1.tick=(Prod.fst x28).tick)/\((x1.su=(Prod.fst x28).su)/\((x1.sq=(Prod.fst x28).sq)/\((x1.ss=(Prod.fst x28).ss)/\((x1.sn=(Prod.fst x28).sn)/\((x1.se=(Prod.fst x28).se)/\((x1.edge=(Prod.fst x28).edge)/\((x1.time=(Prod.fst x28).time)/\((x1.node=(Prod.fst x28).node)/\True)))))))))))))))))))/\(((fsC x1.kind).getD (0+Int.toNat (x9:Int)) default=Prod.snd x28)/\True))/\((((RLe (Prod.fst x28).nodes.length x1.nodes.length)/\(RowsEq [.int .i64] (Prod.fst x28).nodes.length (encL encI x1.nodes) (encL encI (Prod.fst x28).nodes)))/\True)/\(∃ x29:Int,((r64 x29)/\(((numF (Prod.fst x28) (Prod.snd x28)=x29)/\(((10:Int)=10)/\True))/\(True/\(((True/\True)/\True)/\((0=0/\(((wdsW x1 x9).length<=(wdsW x1 x9).length)/\(((1:Nat)<=(1:Nat))/\((wdsW x1 x9).length+(1:Nat)<=(1073741824:Nat)))))/\((((-9223372036854775808:Int)<=(x9:Int)+1)/\((x9:Int)+1<=(9223372036854775807:Int)))/\(∃ x30:Nat,(((fsC x1.kind).length-x30<(fsC x1.kind).length-x9)/\((x30<=(fsC x1.kind).length)/\(((0=0/\0=0)/\((0=0/\((wdsW x1 x9).length+(1:Nat)=(wdsW x1 x30).length))/\((0=0/\((fsC x1.kind).length=(fsC x1.kind).length))/\(((↑(fsC x1.kind).length:Int)=(↑(fsC x1.kind).length:Int))/\(((x9:Int)+1=(x30:Int))/\((kOk x7=kOk x7)/\((kOk x7=kOk x7)/\(x1.kind=x1.kind/\((nmT x6=nmT x6)/\(x1.kind=x1.kind/\(false=false/\((vC x3=vC x3)/\((x1.kind=x1.kind/\(x1.call=x1.call/\(x1.inc=x1.inc/\(x1.oth=x1.oth/\(x1.urg=x1.urg/\(x1.code=x1.code/\((0=0/\x1.nodes.length=x1.nodes.length)/\(x1.dist=x1.dist/\(x1.cen=x1.cen/\(x1.ep=x1.ep/\(x1.tick=x1.tick/\(x1.su=x1.su/\(x1.sq=x1.sq/\(x1.ss=x1.ss/\(x1.sn=x1.sn/\(x1.se=x1.se/\(x1.edge=x1.edge/\(x1.time=x1.time/\(x1.node=x1.node/\True)))))))))))))))))))/\(((ByteArray.mk (List.toArray (@List.nil UInt8)))=(ByteArray.mk (List.toArray (@List.nil UInt8))))/\((x1.kind=x1.kind/\(x1.call=x1.call/\(x1.inc=x1.inc/\(x1.oth=x1.oth/\(x1.urg=x1.urg/\(x1.code=x1.code/\((0=0/\x1.nodes.length=x1.nodes.length)/\(x1.dist=x1.dist/\(x1.cen=x1.cen/\(x1.ep=x1.ep/\(x1.tick=x1.tick/\(x1.su=x1.su/\(x1.sq=x1.sq/\(x1.ss=x1.ss/\(x1.sn=x1.sn/\(x1.se=x1.se/\(x1.edge=x1.edge/\(x1.time=x1.time/\(x1.node=x1.node/\True)))))))))))))))))))/\True)))))))))))))))/\((x1.kind=x1.kind/\(x1.call=x1.call/\(x1.inc=x1.inc/\(x1.oth=x1.oth/\(x1.urg=x1.urg/\(x1.code=x1.code/\((0=0/\x1.nodes.length=x1.nodes.length)/\(x1.dist=x1.dist/\(x1.cen=x1.cen/\(x1.ep=x1.ep/\(x1.tick=x1.tick/\(x1.su=x1.su/\(x1.sq=x1.sq/\(x1.ss=x1.ss/\(x1.sn=x1.sn/\(x1.se=x1.se/\(x1.edge=x1.edge/\(x1.time=x1.time/\(x1.node=x1.node/\True)))))))))))))))))))/\(((RLe x1.nodes.length x1.nodes.length)/\(RI x1.nodes.length x1.nodes x1.nodes))/\(((RLe (fsC x1.kind).length (fsC x1.kind).length)/\(RowsEq [.int .i64] (fsC x1.kind).length (encL encI (fsC x1.kind)) (encL encI (fsC x1.kind))))/\(((RLe (wdsW x1 x30).length ((wdsW x1 x9).length+(1:Nat)))/\(RowsEq (Kd.str::[]) (wdsW x1 x30).length (appRows (wdsW x1 x9).length (encL encS (wdsW x1 x9)) 0 (litRows ((D.s (itoS x29)::@List.nil D)::@List.nil (List D)))) (encL encS (wdsW x1 x30))))/\True))))))))))))))))))))))))))))/\((decide ((x9:Int)<(↑(fsC x1.kind).length:Int))=false)->(∃ x32:List ByteArray × ByteArray,((((Prod.fst x32).length<=(1000:Nat))/\(ByteArray.size (joiS (Prod.fst x32) (Prod.snd x32))<=(1000000:Nat)))/\(((0=0/\((wdsW x1 x9).length=(Prod.fst x32).length))/\(((ByteArray.mk (List.toArray ((32:UInt8)::@List.nil UInt8)))=Prod.snd x32)/\True))/\((((RLe (Prod.fst x32).length (wdsW x1 x9).length)/\(RowsEq (Kd.str::[]) (Prod.fst x32).length (encL encS (wdsW x1 x9)) (encL encS (Prod.fst x32))))/\True)/\((joiS (Prod.fst x32) (Prod.snd x32)=fmtF x1)/\True)))))))))))))))))))))))))))))=(Keeps cfgFG Tryd.f16 fgC fgI) by kernel_rfl) (fun x1=>fun h2=>⟨(x1),
(by(try dsimp only at *);omega),
⟨⟨rfl,rfl,rfl,rfl,rfl,rfl,
⟨rfl,rfl⟩,rfl,rfl,rfl,rfl,rfl,rfl,rfl,rfl,rfl,rfl,rfl,rfl,trivial⟩,trivial⟩,
⟨⟨rl,rr⟩,trivial⟩,
fun h4=>⟨(by(try dsimp only at *);exact fmt_0 h4),trivial⟩,
fun h5=>⟨(Cmd.kind x1),trivial,
⟨rfl,trivial⟩,trivial,
⟨⟨trivial,trivial⟩,trivial⟩,
(Cmd.kind x1),trivial,
⟨rfl,trivial⟩,trivial,
((0:Nat)),
⟨(by(try dsimp only at *);omega),
⟨⟨rfl,rfl⟩,
⟨rfl,
(by(try dsimp only at *);rfl)⟩,
⟨rfl,rfl⟩,rfl,
(by(try dsimp only at *);omega),rfl,rfl,rfl,rfl,rfl,rfl,rfl,
⟨rfl,rfl,rfl,rfl,rfl,rfl,
⟨rfl,rfl⟩,rfl,rfl,rfl,rfl,rfl,rfl,rfl,rfl,rfl,rfl,rfl,rfl,trivial⟩,rfl,
⟨rfl,rfl,rfl,rfl,rfl,rfl,
⟨rfl,rfl⟩,rfl,rfl,rfl,rfl,rfl,rfl,rfl,rfl,rfl,rfl,rfl,rfl,trivial⟩,trivial⟩,
⟨rfl,rfl,rfl,rfl,rfl,rfl,
⟨rfl,rfl⟩,rfl,rfl,rfl,rfl,rfl,rfl,rfl,rfl,rfl,rfl,rfl,rfl,trivial⟩,
⟨rl,rr⟩,
⟨rl,rr⟩,
⟨⟨(by(try dsimp only at *);exact Nat.le_refl _)⟩,
(by(try dsimp only at *);exact fg_0 (Nat.le_refl _))⟩,trivial⟩,
fun x9=>fun h10=>⟨fun g11=>have h11:=dT g11;⟨⟨(by(try dsimp only at *);omega),
(by(try dsimp only at *);omega)⟩,
(by(try dsimp only at *);omega),
fun g12=>have h12:=dT g12;⟨⟨⟨trivial,trivial⟩,trivial⟩,
⟨rfl,
(by(try dsimp only at *);omega),
(by(try dsimp only at *);omega),
(by(try dsimp only at *);exact fg_c h11)⟩,
⟨(by(try dsimp only at *);omega),
(by(try dsimp only at *);exact fs_lt h11)⟩,
(x9+(1:Nat)),
(by(try dsimp only at *);omega),
(by(try dsimp only at *);omega),
⟨⟨rfl,rfl⟩,
⟨rfl,
(by(try dsimp only at *);exact fg_len (fg_4 h11 h12))⟩,
⟨rfl,rfl⟩,rfl,
(by(try dsimp only at *);omega),rfl,rfl,rfl,rfl,rfl,rfl,rfl,
⟨rfl,rfl,rfl,rfl,rfl,rfl,
⟨rfl,rfl⟩,rfl,rfl,rfl,rfl,rfl,rfl,rfl,rfl,rfl,rfl,rfl,rfl,trivial⟩,rfl,
⟨rfl,rfl,rfl,rfl,rfl,rfl,
⟨rfl,rfl⟩,rfl,rfl,rfl,rfl,rfl,rfl,rfl,rfl,rfl,rfl,rfl,rfl,trivial⟩,trivial⟩,
⟨rfl,rfl,rfl,rfl,rfl,rfl,
⟨rfl,rfl⟩,rfl,rfl,rfl,rfl,rfl,rfl,rfl,rfl,rfl,rfl,rfl,rfl,trivial⟩,
⟨rl,rr⟩,
⟨rl,rr⟩,
⟨⟨(by(try dsimp only at *);exact Nat.le_of_eq (fg_len (fg_4 h11 h12)).symm)⟩,
(by(try dsimp only at *);exact fg_r (Nat.le_of_eq (fg_len (fg_4 h11 h12)).symm) (fg_4 h11 h12))⟩,trivial⟩,
fun g14=>have h14:=dF g14;⟨fun g15=>have h15:=dT g15;⟨(Cmd.nodes x1),
(by(try dsimp only at *);omega),
⟨⟨rfl,rfl⟩,trivial⟩,
⟨⟨rl,rr⟩,trivial⟩,
(ofW (Cmd.nodes x1) (List.length (Cmd.nodes x1))),
⟨(by(try dsimp only at *);exact ofW_ok _ _),
(by(try dsimp only at *);exact fg_s (fs_ge h5) h11 h14 h15 h2.1)⟩,
⟨⟨rfl,trivial⟩,trivial⟩,
⟨⟨rl,rr⟩,trivial⟩,
⟨⟨trivial,trivial⟩,trivial⟩,
⟨rfl,
(by(try dsimp only at *);omega),
(by(try dsimp only at *);omega),
(by(try dsimp only at *);exact fg_c h11)⟩,
⟨(by(try dsimp only at *);omega),
(by(try dsimp only at *);exact fs_lt h11)⟩,
(x9+(1:Nat)),
(by(try dsimp only at *);omega),
(by(try dsimp only at *);omega),
⟨⟨rfl,rfl⟩,
⟨rfl,
(by(try dsimp only at *);exact fg_len (fg_5 (fs_ge h5) h11 h14 h15))⟩,
⟨rfl,rfl⟩,rfl,
(by(try dsimp only at *);omega),rfl,rfl,rfl,rfl,rfl,rfl,rfl,
⟨rfl,rfl,rfl,rfl,rfl,rfl,
⟨rfl,rfl⟩,rfl,rfl,rfl,rfl,rfl,rfl,rfl,rfl,rfl,rfl,rfl,rfl,trivial⟩,rfl,
⟨rfl,rfl,rfl,rfl,rfl,rfl,
⟨rfl,rfl⟩,rfl,rfl,rfl,rfl,rfl,rfl,rfl,rfl,rfl,rfl,rfl,rfl,trivial⟩,trivial⟩,
⟨rfl,rfl,rfl,rfl,rfl,rfl,
⟨rfl,rfl⟩,rfl,rfl,rfl,rfl,rfl,rfl,rfl,rfl,rfl,rfl,rfl,rfl,trivial⟩,
⟨rl,rr⟩,
⟨rl,rr⟩,
⟨⟨(by(try dsimp only at *);exact Nat.le_of_eq (fg_len (fg_5 (fs_ge h5) h11 h14 h15)).symm)⟩,
(by(try dsimp only at *);exact fg_r (Nat.le_of_eq (fg_len (fg_5 (fs_ge h5) h11 h14 h15)).symm) (fg_5 (fs_ge h5) h11 h14 h15))⟩,trivial⟩,
fun g19=>have h19:=dF g19;⟨fun g20=>have h20:=dT g20;⟨fun g21=>have h21:=dT g21;⟨⟨⟨trivial,trivial⟩,trivial⟩,
⟨rfl,
(by(try dsimp only at *);omega),
(by(try dsimp only at *);omega),
(by(try dsimp only at *);exact fg_c h11)⟩,
⟨(by(try dsimp only at *);omega),
(by(try dsimp only at *);exact fs_lt h11)⟩,
(x9+(1:Nat)),
(by(try dsimp only at *);omega),
(by(try dsimp only at *);omega),
⟨⟨rfl,rfl⟩,
⟨rfl,
(by(try dsimp only at *);exact fg_len (fg_6 h11 h14 h19 h20 h21))⟩,
⟨rfl,rfl⟩,rfl,
(by(try dsimp only at *);omega),rfl,rfl,rfl,rfl,rfl,rfl,rfl,
⟨rfl,rfl,rfl,rfl,rfl,rfl,
⟨rfl,rfl⟩,rfl,rfl,rfl,rfl,rfl,rfl,rfl,rfl,rfl,rfl,rfl,rfl,trivial⟩,rfl,
⟨rfl,rfl,rfl,rfl,rfl,rfl,
⟨rfl,rfl⟩,rfl,rfl,rfl,rfl,rfl,rfl,rfl,rfl,rfl,rfl,rfl,rfl,trivial⟩,trivial⟩,
⟨rfl,rfl,rfl,rfl,rfl,rfl,
⟨rfl,rfl⟩,rfl,rfl,rfl,rfl,rfl,rfl,rfl,rfl,rfl,rfl,rfl,rfl,trivial⟩,
⟨rl,rr⟩,
⟨rl,rr⟩,
⟨⟨(by(try dsimp only at *);exact Nat.le_of_eq (fg_len (fg_6 h11 h14 h19 h20 h21)).symm)⟩,
(by(try dsimp only at *);exact fg_r (Nat.le_of_eq (fg_len (fg_6 h11 h14 h19 h20 h21)).symm) (fg_6 h11 h14 h19 h20 h21))⟩,trivial⟩,
fun g23=>have h23:=dF g23;⟨((x1,List.getD (fsC (Cmd.kind x1)) ((0:Nat)+Int.toNat (↑x9:Int)) default)),trivial,
⟨⟨rfl,rfl,rfl,rfl,rfl,rfl,
⟨rfl,rfl⟩,rfl,rfl,rfl,rfl,rfl,rfl,rfl,rfl,rfl,rfl,rfl,rfl,trivial⟩,rfl,trivial⟩,
⟨⟨rl,rr⟩,trivial⟩,
(numF x1 (List.getD (fsC (Cmd.kind x1)) ((0:Nat)+Int.toNat (↑x9:Int)) default)),
(by(try dsimp only at *);exact num_r (fs_ge h5) h11 h14 h19),
⟨rfl,rfl,trivial⟩,trivial,
⟨⟨trivial,trivial⟩,trivial⟩,
⟨rfl,
(by(try dsimp only at *);omega),
(by(try dsimp only at *);omega),
(by(try dsimp only at *);exact fg_c h11)⟩,
⟨(by(try dsimp only at *);omega),
(by(try dsimp only at *);exact fs_lt h11)⟩,
(x9+(1:Nat)),
(by(try dsimp only at *);omega),
(by(try dsimp only at *);omega),
⟨⟨rfl,rfl⟩,
⟨rfl,
(by(try dsimp only at *);exact fg_len (fg_7 h11 h14 h19 (fun q=>h23 q.2)))⟩,
⟨rfl,rfl⟩,rfl,
(by(try dsimp only at *);omega),rfl,rfl,rfl,rfl,rfl,rfl,rfl,
⟨rfl,rfl,rfl,rfl,rfl,rfl,
⟨rfl,rfl⟩,rfl,rfl,rfl,rfl,rfl,rfl,rfl,rfl,rfl,rfl,rfl,rfl,trivial⟩,rfl,
⟨rfl,rfl,rfl,rfl,rfl,rfl,
⟨rfl,rfl⟩,rfl,rfl,rfl,rfl,rfl,rfl,rfl,rfl,rfl,rfl,rfl,rfl,trivial⟩,trivial⟩,
⟨rfl,rfl,rfl,rfl,rfl,rfl,
⟨rfl,rfl⟩,rfl,rfl,rfl,rfl,rfl,rfl,rfl,rfl,rfl,rfl,rfl,rfl,trivial⟩,
⟨rl,rr⟩,
⟨rl,rr⟩,
⟨⟨(by(try dsimp only at *);exact Nat.le_of_eq (fg_len (fg_7 h11 h14 h19 (fun q=>h23 q.2))).symm)⟩,
(by(try dsimp only at *);exact fg_r (Nat.le_of_eq (fg_len (fg_7 h11 h14 h19 (fun q=>h23 q.2))).symm) (fg_7 h11 h14 h19 (fun q=>h23 q.2)))⟩,trivial⟩⟩,
fun g27=>have h27:=dF g27;⟨((x1,List.getD (fsC (Cmd.kind x1)) ((0:Nat)+Int.toNat (↑x9:Int)) default)),trivial,
⟨⟨rfl,rfl,rfl,rfl,rfl,rfl,
⟨rfl,rfl⟩,rfl,rfl,rfl,rfl,rfl,rfl,rfl,rfl,rfl,rfl,rfl,rfl,trivial⟩,rfl,trivial⟩,
⟨⟨rl,rr⟩,trivial⟩,
(numF x1 (List.getD (fsC (Cmd.kind x1)) ((0:Nat)+Int.toNat (↑x9:Int)) default)),
(by(try dsimp only at *);exact num_r (fs_ge h5) h11 h14 h19),
⟨rfl,rfl,trivial⟩,trivial,
⟨⟨trivial,trivial⟩,trivial⟩,
⟨rfl,
(by(try dsimp only at *);omega),
(by(try dsimp only at *);omega),
(by(try dsimp only at *);exact fg_c h11)⟩,
⟨(by(try dsimp only at *);omega),
(by(try dsimp only at *);exact fs_lt h11)⟩,
(x9+(1:Nat)),
(by(try dsimp only at *);omega),
(by(try dsimp only at *);omega),
⟨⟨rfl,rfl⟩,
⟨rfl,
(by(try dsimp only at *);exact fg_len (fg_7 h11 h14 h19 (fun q=>h27 q.1)))⟩,
⟨rfl,rfl⟩,rfl,
(by(try dsimp only at *);omega),rfl,rfl,rfl,rfl,rfl,rfl,rfl,
⟨rfl,rfl,rfl,rfl,rfl,rfl,
⟨rfl,rfl⟩,rfl,rfl,rfl,rfl,rfl,rfl,rfl,rfl,rfl,rfl,rfl,rfl,trivial⟩,rfl,
⟨rfl,rfl,rfl,rfl,rfl,rfl,
⟨rfl,rfl⟩,rfl,rfl,rfl,rfl,rfl,rfl,rfl,rfl,rfl,rfl,rfl,rfl,trivial⟩,trivial⟩,
⟨rfl,rfl,rfl,rfl,rfl,rfl,
⟨rfl,rfl⟩,rfl,rfl,rfl,rfl,rfl,rfl,rfl,rfl,rfl,rfl,rfl,rfl,trivial⟩,
⟨rl,rr⟩,
⟨rl,rr⟩,
⟨⟨(by(try dsimp only at *);exact Nat.le_of_eq (fg_len (fg_7 h11 h14 h19 (fun q=>h27 q.1))).symm)⟩,
(by(try dsimp only at *);exact fg_r (Nat.le_of_eq (fg_len (fg_7 h11 h14 h19 (fun q=>h27 q.1))).symm) (fg_7 h11 h14 h19 (fun q=>h27 q.1)))⟩,trivial⟩⟩⟩⟩,
fun g31=>have h31:=dF g31;⟨((wdsW x1 x9,{ data:=List.toArray ((32:UInt8)::@List.nil UInt8):ByteArray })),
⟨(by(try dsimp only at *);exact(fg_t (fs_ge h5) h31 h2.1).1.1),
(by(try dsimp only at *);exact(fg_t (fs_ge h5) h31 h2.1).1.2)⟩,
⟨⟨rfl,rfl⟩,rfl,trivial⟩,
⟨⟨rl,rr⟩,trivial⟩,
(by(try dsimp only at *);exact(fg_t (fs_ge h5) h31 h2.1).2),trivial⟩⟩⟩⟩)
theorem fg_good:Good Tryd.prog 16 fgC/\FnOk Tryd.prog 16:=good_of tok conFG (fn:=Tryd.f16) rfl (by decide+kernel) (fun _=>rfl) fg_keeps
end Go.Sym