import Derived.Test.YtcghhlodddpmaaaDoorV3
import Derived.Test.YtcghhlodddpmaaaDoorV5
import Derived.Test.YtcghhlodddpmaaaDoorXD
namespace Go.Sym
set_option linter.unusedVariables false
set_option linter.unusedSimpArgs false
open Go.Proofs
set_option maxRecDepth 100000
set_option maxHeartbeats 4000000
def byF (c:Cmd) (f:Int):List Int:=if f=4 then bySt c.code else if f=5 then byLs c.nodes else byZ (numF c f)
def byW (c:Cmd) (i:Nat):List Int:=byZ c.kind++((fsC c.kind).take i).flatMap (byF c)
def byC (c:Cmd):List Int:=byZ c.kind++(fsC c.kind).flatMap (byF c)
def byR (c:Cmd):List Int:=if vC c then byC c else []
theorem vC_k {c:Cmd} (h:vC c=true):kOk c.kind=true:=(Bool.and_eq_true _ _▸h).1
theorem vC_f {c:Cmd} (h:vC c=true) {i:Nat} (hi:(i:Int)<(fsC c.kind).length):fOk c (fAt c i)=true:=by
 unfold vC at h
 simp only[Bool.and_eq_true,decide_eq_true_eq]at h
 rw[<- fAt_eq]
 exact h.2.1 i (by omega)
theorem kOk_iff {k:Int}:kOk k=true↔1<=k/\k<=15:=by
 unfold kOk
 rw[decide_eq_true_eq]
 omega
theorem inRF_r {f n:Int} (h:inRF f n=true):r64 n:=by
 unfold inRF at h
 unfold r64
 repeat' split at h
 all_goals first|(have h:=of_decide_eq_true h;omega)|cases h
theorem vNodes_r {l:List Int} (h:vNodes l=true):l.length<=2000/\∀ n∈l,r64 n:=by
 unfold vNodes at h
 simp only[Bool.and_eq_true,decide_eq_true_eq]at h
 refine⟨h.1.2,fun n hn=>?_⟩
 obtain⟨i,hi,rfl⟩:=List.mem_iff_getElem.1 hn
 have:=h.2 i hi
 rw[List.getD_eq_getElem?_getD,List.getElem?_eq_getElem hi]at this
 unfold r64
 simp only[Option.getD_some]at this
 omega
theorem vCode_r {s:ByteArray} (h:vCode s=true):s.size<=40:=by
 unfold vCode at h
 simp only[Bool.and_eq_true,decide_eq_true_eq]at h
 exact h.1.2
theorem fOk4 {c:Cmd} {f:Int} (h:fOk c f=true) (h1:f=4):vCode c.code=true:=by rwa [fOk,if_pos h1]at h
theorem fOk5 {c:Cmd} {f:Int} (h:fOk c f=true) (h1:¬ f=4) (h2:f=5):vNodes c.nodes=true:=by rwa [fOk,if_neg h1,if_pos h2]at h
theorem fOkn {c:Cmd} {f:Int} (h:fOk c f=true) (h1:¬ f=4) (h2:¬ f=5):inRF f (numF c f)=true:=by rwa [fOk,if_neg h1,if_neg h2]at h
theorem byF_len {c:Cmd} {f:Int} (h:fOk c f=true):(byF c f).length<=20010:=by
 unfold byF
 split
 ·rename_i h1
  have h2:=vCode_r (fOk4 h h1)
  have h3:=byZ_len c.code.size
  have h4:=strL_len c.code
  unfold bySt
  rw[List.length_append]
  omega
 ·rename_i h1
  split
  ·rename_i h2
   have h3:=(vNodes_r (fOk5 h h1 h2)).1
   have h4:=byZ_len c.nodes.length
   have h5:=byIs_len c.nodes
   unfold byLs
   rw[List.length_append]
   omega
  ·have:=byZ_len (numF c f)
   omega
theorem byW_s {c:Cmd} {i:Nat} (h:(i:Int)<(fsC c.kind).length):byW c (i+1)=byW c i++byF c (fAt c i):=by
 have h:i<(fsC c.kind).length:=by omega
 unfold byW
 rw[List.take_add_one,List.getElem?_eq_getElem h,<- fAt_eq,List.getD_eq_getElem?_getD,List.getElem?_eq_getElem h,List.flatMap_append]
 simp only[Option.toList_some,List.flatMap_cons,List.flatMap_nil,List.append_nil,List.append_assoc,Option.getD_some]
theorem byW_t {c:Cmd} {i:Nat} (h1:¬ (i:Int)<(fsC c.kind).length):byW c i=byC c:=by
 unfold byW byC
 rw[List.take_of_length_le (by omega)]
theorem byW_len {c:Cmd} (h:vC c=true) (i:Nat) (hi:i<=(fsC c.kind).length):(byW c i).length<=10+i*20010:=by
 induction i with
 |zero=>unfold byW;simp[byZ_len]
 |succ i ih=>
  rw[byW_s (by omega),List.length_append]
  have:=byF_len (vC_f h (i:=i) (by omega))
  have:=ih (by omega)
  omega
theorem byW_lt {c:Cmd} (h:vC c=true) {i:Nat} (hi:(i:Int)<(fsC c.kind).length):(byW c i).length<=100000:=by
 have:=byW_len h i (by omega)
 have:=fs_small c.kind
 omega
theorem byF_4 {c:Cmd} {i:Nat} (h:(i:Int)<(fsC c.kind).length) (h1:fAt c i=4):byW c i++bySt c.code=byW c (i+1):=by rw[byW_s h,byF,if_pos h1]
theorem byF_5 {c:Cmd} {i:Nat} (h:(i:Int)<(fsC c.kind).length) (h1:¬ fAt c i=4) (h2:fAt c i=5):byW c i++byLs c.nodes=byW c (i+1):=by rw[byW_s h,byF,if_neg h1,if_pos h2]
theorem byF_n {c:Cmd} {i:Nat} (h:(i:Int)<(fsC c.kind).length) (h1:¬ fAt c i=4) (h2:¬ fAt c i=5):byW c i++byZ (numF c (fAt c i))=byW c (i+1):=by rw[byW_s h,byF,if_neg h1,if_neg h2]
theorem byR_t {c:Cmd} {i:Nat} (h:vC c=true) (h1:¬ (i:Int)<(fsC c.kind).length):byW c i=byR c:=by rw[byW_t h1,byR,if_pos h]
theorem byR_f {c:Cmd} (h:vC c=false):byR c=[]:=by rw[byR,h];rfl
def cfg2:Cfg:=⟨T,[],[(12,.one vdC),(28,.one fsCt),(32,.one numC),(36,.one wiC),(37,.one wsC),(38,.one wlC),(39,.one weC)],noInv,60,{}⟩
theorem con2:ConOk Tryd.prog cfg2:=ConL.ok (.cons (ConL.one vd_good) (.cons (ConL.one fs_good) (.cons (ConL.one num_good) (.cons (ConL.one wi_good) (.cons (ConL.one ws_good) (.cons (ConL.one wl_good) (.cons (ConL.one we_good) .nil)))))))
def enI (x:Cmd) (id:Nat):Option Inv:=match id with
 | 0 => some { X := Nat, ok := fun i => i <= (fsC x.kind).length, fr := fun i => [(1, .p 311 0 0), (3, .p 315 0 0), (20, .sl 313 0 (fsC x.kind).length), (21, .i .i64 (fsC x.kind).length), (22, .i .i64 i)],
               hp:=fun i=>[(311,.one .own (cl x 100001)),nB 100001 x,(313,.rows .own kN (fsC x.kind).length (encL encI (fsC x.kind)))]++wB 315 316 (byW x i),me:=fun i=>(fsC x.kind).length-i }
 |_=>none
def enC:CT where
 X:=Cmd
 pre:=fun x=>x.nodes.length<=1000000
 args:=fun x=>[.agg (cl x 100001)]
 g0:=fun x=>[nB 100001 x]
 res:=fun x=>.sl 1 0 (byR x).length
 g1:=fun x=>[(1,.rows .own kB (byR x).length (encL encI (byR x)))]
theorem fs_ge {c:Cmd} (h:(!vC c)=false):vC c=true:=by simpa using h
theorem byW_0 {c:Cmd}:([]:List Int)++byZ c.kind=byW c 0:=by unfold byW;simp
theorem kind_r {c:Cmd} (h:vC c=true):r64 c.kind:=by
 have:=kOk_iff.1 (vC_k h)
 unfold r64
 omega
theorem num_r {c:Cmd} {i:Nat} (h:vC c=true) (hi:(i:Int)<(fsC c.kind).length) (h1:¬ fAt c i=4) (h2:¬ fAt c i=5):r64 (numF c (fAt c i)):=inRF_r (fOkn (vC_f h hi) h1 h2)
theorem byR_0 {c:Cmd} (h:(!vC c)=true):(byR c).length=0:=by
 rw[byR_f (by simpa using h)]
 rfl
theorem byW_le {c:Cmd} (h:vC c=true) {i:Nat} (hi:i<=(fsC c.kind).length):(byW c i).length<=1000000:=by
 have:=byW_len h i hi
 have:=fs_small c.kind
 omega
set_option maxRecDepth 100000 in
theorem en_keeps:Keeps cfg2 Tryd.f14 enC enI:=Eq.mp (show((∀ x1:Cmd,((x1.nodes.length<=(1000000:Nat))->(∃ x3:Cmd,((x3.nodes.length<=(1000000:Nat))/\(((x1.kind=x3.kind/\(x1.call=x3.call/\(x1.inc=x3.inc/\(x1.oth=x3.oth/\(x1.urg=x3.urg/\(x1.code=x3.code/\((0=0/\x1.nodes.length=x3.nodes.length)/\(x1.dist=x3.dist/\(x1.cen=x3.cen/\(x1.ep=x3.ep/\(x1.tick=x3.tick/\(x1.su=x3.su/\(x1.sq=x3.sq/\(x1.ss=x3.ss/\(x1.sn=x3.sn/\(x1.se=x3.se/\(x1.edge=x3.edge/\(x1.time=x3.time/\(x1.node=x3.node/\True)))))))))))))))))))/\True)/\((((RLe x3.nodes.length x1.nodes.length)/\(RI x3.nodes.length x1.nodes x3.nodes))/\True)/\((((!vC x3)=true)->((True/\(0=0/\((byR x1).length=(0:Nat))))/\(((byR x1).length=(0:Nat))/\True)))/\(((!vC x3)=false)->(∃ x6:List Int × Int,(((r64 (Prod.snd x6))/\((Prod.fst x6).length<=(1000000:Nat)))/\(((0=0/\0=0)/\((x1.kind=Prod.snd x6)/\True))/\((((True/\(0=0/\((Prod.fst x6).length=(0:Nat))))/\True)/\(((Prod.fst x6).length=(0:Nat))/\True))/\(∃ x7:Int,(True/\((x1.kind=x7/\True)/\(True/\(∃ x8:Nat,(((x8<=(fsC x1.kind).length)/\(((0=0/\0=0)/\((0=0/\0=0)/\((0=0/\((fsC x7).length=(fsC x1.kind).length))/\(((↑(fsC x7).length:Int)=(↑(fsC x1.kind).length:Int))/\((0=(x8:Int))/\((kOk x7=kOk x7)/\((kOk x7=kOk x7)/\(x1.kind=x1.kind/\(True/\(x1.kind=x1.kind/\(((!vC x3)= !vC x3)/\((vC x3=vC x3)/\((x1.kind=x1.kind/\(x1.call=x1.call/\(x1.inc=x1.inc/\(x1.oth=x1.oth/\(x1.urg=x1.urg/\(x1.code=x1.code/\((0=0/\x1.nodes.length=x1.nodes.length)/\(x1.dist=x1.dist/\(x1.cen=x1.cen/\(x1.ep=x1.ep/\(x1.tick=x1.tick/\(x1.su=x1.su/\(x1.sq=x1.sq/\(x1.ss=x1.ss/\(x1.sn=x1.sn/\(x1.se=x1.se/\(x1.edge=x1.edge/\(x1.time=x1.time/\(x1.node=x1.node/\True)))))))))))))))))))/\(True/\((x1.kind=x1.kind/\(x1.call=x1.call/\(x1.inc=x1.inc/\(x1.oth=x1.oth/\(x1.urg=x1.urg/\(x1.code=x1.code/\((0=0/\x1.nodes.length=x1.nodes.length)/\(x1.dist=x1.dist/\(x1.cen=x1.cen/\(x1.ep=x1.ep/\(x1.tick=x1.tick/\(x1.su=x1.su/\(x1.sq=x1.sq/\(x1.ss=x1.ss/\(x1.sn=x1.sn/\(x1.se=x1.se/\(x1.edge=x1.edge/\(x1.time=x1.time/\(x1.node=x1.node/\True)))))))))))))))))))/\True)))))))))))))))/\((x1.kind=x1.kind/\(x1.call=x1.call/\(x1.inc=x1.inc/\(x1.oth=x1.oth/\(x1.urg=x1.urg/\(x1.code=x1.code/\((0=0/\x1.nodes.length=x1.nodes.length)/\(x1.dist=x1.dist/\(x1.cen=x1.cen/\(x1.ep=x1.ep/\(x1.tick=x1.tick/\(x1.su=x1.su/\(x1.sq=x1.sq/\(x1.ss=x1.ss/\(x1.sn=x1.sn/\(x1.se=x1.se/\(x1.edge=x1.edge/\(x1.time=x1.time/\(x1.node=x1.node/\True)))))))))))))))))))/\(((RLe x1.nodes.length x1.nodes.length)/\(RI x1.nodes.length x1.nodes x1.nodes))/\(((RLe (fsC x1.kind).length (fsC x7).length)/\(RowsEq [.int .i64] (fsC x1.kind).length (encL encI (fsC x7)) (encL encI (fsC x1.kind))))/\(((0=0/\((Prod.fst x6++byZ (Prod.snd x6)).length=(byW x1 x8).length))/\True)/\(((RLe (byW x1 x8).length (Prod.fst x6++byZ (Prod.snd x6)).length)/\(RowsEq (.int IntKind.u8::[]) (byW x1 x8).length (encL encI (Prod.fst x6++byZ (Prod.snd x6))) (encL encI (byW x1 x8))))/\True)))))))/\(∀ x9:Nat,((x9<=(fsC x1.kind).length)->(((decide ((x9:Int)<(↑(fsC x1.kind).length:Int))=true)->((((0:Int)<=(x9:Int))/\((x9:Int)<(↑(fsC x1.kind).length:Int)))/\((0+Int.toNat (x9:Int)<(fsC x1.kind).length)/\(((decide ((fsC x1.kind).getD (0+Int.toNat (x9:Int)) default=4)=true)->(∃ x13:List Int × ByteArray,((((Prod.fst x13).length<=(500000:Nat))/\(ByteArray.size (Prod.snd x13)<=(100000:Nat)))/\(((0=0/\0=0)/\((x1.code=Prod.snd x13)/\True))/\((((0=0/\((byW x1 x9).length=(Prod.fst x13).length))/\True)/\(((RLe (Prod.fst x13).length (byW x1 x9).length)/\(RowsEq (.int IntKind.u8::[]) (Prod.fst x13).length (encL encI (byW x1 x9)) (encL encI (Prod.fst x13))))/\True))/\((((-9223372036854775808:Int)<=(x9:Int)+1)/\((x9:Int)+1<=(9223372036854775807:Int)))/\(∃ x14:Nat,(((fsC x1.kind).length-x14<(fsC x1.kind).length-x9)/\((x14<=(fsC x1.kind).length)/\(((0=0/\0=0)/\((0=0/\0=0)/\((0=0/\((fsC x1.kind).length=(fsC x1.kind).length))/\(((↑(fsC x1.kind).length:Int)=(↑(fsC x1.kind).length:Int))/\(((x9:Int)+1=(x14:Int))/\((kOk x7=kOk x7)/\((kOk x7=kOk x7)/\(x1.kind=x1.kind/\(True/\(x1.kind=x1.kind/\(((!vC x3)= !vC x3)/\((vC x3=vC x3)/\((x1.kind=x1.kind/\(x1.call=x1.call/\(x1.inc=x1.inc/\(x1.oth=x1.oth/\(x1.urg=x1.urg/\(x1.code=x1.code/\((0=0/\x1.nodes.length=x1.nodes.length)/\(x1.dist=x1.dist/\(x1.cen=x1.cen/\(x1.ep=x1.ep/\(x1.tick=x1.tick/\(x1.su=x1.su/\(x1.sq=x1.sq/\(x1.ss=x1.ss/\(x1.sn=x1.sn/\(x1.se=x1.se/\(x1.edge=x1.edge/\(x1.time=x1.time/\(x1.node=x1.node/\True)))))))))))))))))))/\(True/\((x1.kind=x1.kind/\(x1.call=x1.call/\(x1.inc=x1.inc/\(x1.oth=x1.oth/\(x1.urg=x1.urg/\(x1.code=x1.code/\((0=0/\x1.nodes.length=x1.nodes.length)/\(x1.dist=x1.dist/\(x1.cen=x1.cen/\(x1.ep=x1.ep/\(x1.tick=x1.tick/\(x1.su=x1.su/\(x1.sq=x1.sq/\(x1.ss=x1.ss/\(x1.sn=x1.sn/\(x1.se=x1.se/\(x1.edge=x1.edge/\(x1.time=x1.time/\(x1.node=x1.node/\True)))))))))))))))))))/\True)))))))))))))))/\((x1.kind=x1.kind/\(x1.call=x1.call/\(x1.inc=x1.inc/\(x1.oth=x1.oth/\(x1.urg=x1.urg/\(x1.code=x1.code/\((0=0/\x1.nodes.length=x1.nodes.length)/\(x1.dist=x1.dist/\(x1.cen=x1.cen/\(x1.ep=x1.ep/\(x1.tick=x1.tick/\(x1.su=x1.su/\(x1.sq=x1.sq/\(x1.ss=x1.ss/\(x1.sn=x1.sn/\(x1.se=x1.se/\(x1.edge=x1.edge/\(x1.time=x1.time/\(x1.node=x1.node/\True)))))))))))))))))))/\(((RLe x1.nodes.length x1.nodes.length)/\(RI x1.nodes.length x1.nodes x1.nodes))/\(((RLe (fsC x1.kind).length (fsC x1.kind).length)/\(RowsEq [.int .i64] (fsC x1.kind).length (encL encI (fsC x1.kind)) (encL encI (fsC x1.kind))))/\(((0=0/\((Prod.fst x13++bySt (Prod.snd x13)).length=(byW x1 x14).length))/\True)/\(((RLe (byW x1 x14).length (Prod.fst x13++bySt (Prod.snd x13)).length)/\(RowsEq (.int IntKind.u8::[]) (byW x1 x14).length (encL encI (Prod.fst x13++bySt (Prod.snd x13))) (encL encI (byW x1 x14))))/\True)))))))))))))))/\((decide ((fsC x1.kind).getD (0+Int.toNat (x9:Int)) default=4)=false)->(((decide ((fsC x1.kind).getD (0+Int.toNat (x9:Int)) default=5)=true)->(∃ x17:List Int × List Int,((((Prod.fst x17).length<=(100000:Nat))/\(((Prod.snd x17).length<=(2000:Nat))/\(∀ n18:Int,((n18∈Prod.snd x17)->(r64 n18)))))/\(((0=0/\0=0)/\((0=0/\(x1.nodes.length=(Prod.snd x17).length))/\True))/\((((0=0/\((byW x1 x9).length=(Prod.fst x17).length))/\True)/\(((RLe (Prod.fst x17).length (byW x1 x9).length)/\(RowsEq (.int IntKind.u8::[]) (Prod.fst x17).length (encL encI (byW x1 x9)) (encL encI (Prod.fst x17))))/\(((RLe (Prod.snd x17).length x1.nodes.length)/\(RowsEq [.int .i64] (Prod.snd x17).length (encL encI x1.nodes) (encL encI (Prod.snd x17))))/\True)))/\((((-9223372036854775808:Int)<=(x9:Int)+1)/\((x9:Int)+1<=(9223372036854775807:Int)))/\(∃ x20:Nat,(((fsC x1.kind).length-x20<(fsC x1.kind).length-x9)/\((x20<=(fsC x1.kind).length)/\(((0=0/\0=0)/\((0=0/\0=0)/\((0=0/\((fsC x1.kind).length=(fsC x1.kind).length))/\(((↑(fsC x1.kind).length:Int)=(↑(fsC x1.kind).length:Int))/\(((x9:Int)+1=(x20:Int))/\((kOk x7=kOk x7)/\((kOk x7=kOk x7)/\(x1.kind=x1.kind/\(True/\(x1.kind=x1.kind/\(((!vC x3)= !vC x3)/\((vC x3=vC x3)/\((x1.kind=x1.kind/\(x1.call=x1.call/\(x1.inc=x1.inc/\(x1.oth=x1.oth/\(x1.urg=x1.urg/\(x1.code=x1.code/\((0=0/\x1.nodes.length=x1.nodes.length)/\(x1.dist=x1.dist/\(x1.cen=x1.cen/\(x1.ep=x1.ep/\(x1.tick=x1.tick/\(x1.su=x1.su/\(x1.sq=x1.sq/\(x1.ss=x1.ss/\(x1.sn=x1.sn/\(x1.se=x1.se/\(x1.edge=x1.edge/\(x1.time=x1.time/\(x1.node=x1.node/\True)))))))))))))))))))/\(True/\((x1.kind=x1.kind/\(x1.call=x1.call/\(x1.inc=x1.inc/\(x1.oth=x1.oth/\(x1.urg=x1.urg/\(x1.code=x1.code/\((0=0/\x1.nodes.length=x1.nodes.length)/\(x1.dist=x1.dist/\(x1.cen=x1.cen/\(x1.ep=x1.ep/\(x1.tick=x1.tick/\(x1.su=x1.su/\(x1.sq=x1.sq/\(x1.ss=x1.ss/\(x1.sn=x1.sn/\(x1.se=x1.se/\(x1.edge=x1.edge/\(x1.time=x1.time/\(x1.node=x1.node/\True)))))))))))))))))))/\True)))))))))))))))/\((x1.kind=x1.kind/\(x1.call=x1.call/\(x1.inc=x1.inc/\(x1.oth=x1.oth/\(x1.urg=x1.urg/\(x1.code=x1.code/\((0=0/\x1.nodes.length=x1.nodes.length)/\(x1.dist=x1.dist/\(x1.cen=x1.cen/\(x1.ep=x1.ep/\(x1.tick=x1.tick/\(x1.su=x1.su/\(x1.sq=x1.sq/\(x1.ss=x1.ss/\(x1.sn=x1.sn/\(x1.se=x1.se/\(x1.edge=x1.edge/\(x1.time=x1.time/\(x1.node=x1.node/\True)))))))))))))))))))/\(((RLe x1.nodes.length x1.nodes.length)/\(RI x1.nodes.length x1.nodes x1.nodes))/\(((RLe (fsC x1.kind).length (fsC x1.kind).length)/\(RowsEq [.int .i64] (fsC x1.kind).length (encL encI (fsC x1.kind)) (encL encI (fsC x1.kind))))/\(((0=0/\((Prod.fst x17++byLs (Prod.snd x17)).length=(byW x1 x20).length))/\True)/\(((RLe (byW x1 x20).length (Prod.fst x17++byLs (Prod.snd x17)).length)/\(RowsEq (.int IntKind.u8::[]) (byW x1 x20).length (encL encI (Prod.fst x17++byLs (Prod.snd x17))) (encL encI (byW x1 x20))))/\True)))))))))))))))/\((decide ((fsC x1.kind).getD (0+Int.toNat (x9:Int)) default=5)=false)->(∃ x22:Cmd × Int,(True/\((((x1.kind=(Prod.fst x22).kind)/\((x1.call=(Prod.fst x22).call)/\((x1.inc=(Prod.fst x22).inc)/\((x1.oth=(Prod.fst x22).oth)/\((x1.urg=(Prod.fst x22).urg)/\((x1.code=(Prod.fst x22).code)/\((0=0/\(x1.nodes.length=(Prod.fst x22).nodes.length))/\((x1.dist=(Prod.fst x22).dist)/\((x1.cen=(Prod.fst x22).cen)/\((x1.ep=(Prod.fst x22).ep)/\((x1.tick=(Prod.fst x22).tick)/\((x1.su=(Prod.fst x22).su)/\((x1.sq=(Prod.fst x22).sq)/\((x1.ss=(Prod.fst x22).ss)/\((x1.sn=(Prod.fst x22).sn)/\((x1.se=(Prod.fst x22).se)/\((x1.edge=(Prod.fst x22).edge)/\((x1.time=(Prod.fst x22).time)/\((x1.node=(Prod.fst x22).node)/\True)))))))))))))))))))/\(((fsC x1.kind).getD (0+Int.toNat (x9:Int)) default=Prod.snd x22)/\True))/\((((RLe (Prod.fst x22).nodes.length x1.nodes.length)/\(RowsEq [.int .i64] (Prod.fst x22).nodes.length (encL encI x1.nodes) (encL encI (Prod.fst x22).nodes)))/\True)/\(∃ x23:List Int × Int,(((r64 (Prod.snd x23))/\((Prod.fst x23).length<=(1000000:Nat)))/\(((0=0/\0=0)/\((numF (Prod.fst x22) (Prod.snd x22)=Prod.snd x23)/\True))/\((((0=0/\((byW x1 x9).length=(Prod.fst x23).length))/\True)/\(((RLe (Prod.fst x23).length (byW x1 x9).length)/\(RowsEq (.int IntKind.u8::[]) (Prod.fst x23).length (encL encI (byW x1 x9)) (encL encI (Prod.fst x23))))/\True))/\((((-9223372036854775808:Int)<=(x9:Int)+1)/\((x9:Int)+1<=(9223372036854775807:Int)))/\(∃ x24:Nat,(((fsC x1.kind).length-x24<(fsC x1.kind).length-x9)/\((x24<=(fsC x1.kind).length)/\(((0=0/\0=0)/\((0=0/\0=0)/\((0=0/\((fsC x1.kind).length=(fsC x1.kind).length))/\(((↑(fsC x1.kind).length:Int)=(↑(fsC x1.kind).length:Int))/\(((x9:Int)+1=(x24:Int))/\((kOk x7=kOk x7)/\((kOk x7=kOk x7)/\(x1.kind=x1.kind/\(True/\(x1.kind=x1.kind/\(((!vC x3)= !vC x3)/\((vC x3=vC x3)/\((x1.kind=x1.kind/\(x1.call=x1.call/\(x1.inc=x1.inc/\(x1.oth=x1.oth/\(x1.urg=x1.urg/\(x1.code=x1.code/\((0=0/\x1.nodes.length=x1.nodes.length)/\(x1.dist=x1.dist/\(x1.cen=x1.cen/\(x1.ep=x1.ep/\(x1.tick=x1.tick/\(x1.su=x1.su/\(x1.sq=x1.sq/\(x1.ss=x1.ss/\(x1.sn=x1.sn/\(x1.se=x1.se/\(x1.edge=x1.edge/\(x1.time=x1.time/\(x1.node=x1.node/\True)))))))))))))))))))/\(True/\((x1.kind=x1.kind/\(x1.call=x1.call/\(x1.inc=x1.inc/\(x1.oth=x1.oth/\(x1.urg=x1.urg/\(x1.code=x1.code/\((0=0/\x1.nodes.length=x1.nodes.length)/\(x1.dist=x1.dist/\(x1.cen=x1.cen/\(x1.ep=x1.ep/\(x1.tick=x1.tick/\(x1.su=x1.su/\(x1.sq=x1.sq/\(x1.ss=x1.ss/\(x1.sn=x1.sn/\(x1.se=x1.se/\(x1.edge=x1.edge/\(x1.time=x1.time/\(x1.node=x1.node/\True)))))))))))))))))))/\True)))))))))))))))/\((x1.kind=x1.kind/\(x1.call=x1.call/\(x1.inc=x1.inc/\(x1.oth=x1.oth/\(x1.urg=x1.urg/\(x1.code=x1.code/\((0=0/\x1.nodes.length=x1.nodes.length)/\(x1.dist=x1.dist/\(x1.cen=x1.cen/\(x1.ep=x1.ep/\(x1.tick=x1.tick/\(x1.su=x1.su/\(x1.sq=x1.sq/\(x1.ss=x1.ss/\(x1.sn=x1.sn/\(x1.se=x1.se/\(x1.edge=x1.edge/\(x1.time=x1.time/\(x1.node=x1.node/\True)))))))))))))))))))/\(((RLe x1.nodes.length x1.nodes.length)/\(RI x1.nodes.length x1.nodes x1.nodes))/\(((RLe (fsC x1.kind).length (fsC x1.kind).length)/\(RowsEq [.int .i64] (fsC x1.kind).length (encL encI (fsC x1.kind)) (encL encI (fsC x1.kind))))/\(((0=0/\((Prod.fst x23++byZ (Prod.snd x23)).length=(byW x1 x24).length))/\True)/\(((RLe (byW x1 x24).length (Prod.fst x23++byZ (Prod.snd x23)).length)/\(RowsEq (.int IntKind.u8::[]) (byW x1 x24).length (encL encI (Prod.fst x23++byZ (Prod.snd x23))) (encL encI (byW x1 x24))))/\True)))))))))))))))))))))))))/\((decide ((x9:Int)<(↑(fsC x1.kind).length:Int))=false)->(∃ x26:List Int,((x26.length<=(1000000:Nat))/\(((0=0/\0=0)/\True)/\((((0=0/\((byW x1 x9).length=x26.length))/\True)/\(((RLe x26.length (byW x1 x9).length)/\(RowsEq (.int IntKind.u8::[]) x26.length (encL encI (byW x1 x9)) (encL encI x26)))/\True))/\((0=0/\(x26.length=(byR x1).length))/\(((RLe (byR x1).length x26.length)/\(RowsEq (.int IntKind.u8::[]) (byR x1).length (encL encI x26) (encL encI (byR x1))))/\True)))))))))))))))))))))))))))))=(Keeps cfg2 Tryd.f14 enC enI) by kernel_rfl) (fun x1=>fun h2=>⟨(x1),
(by(try dsimp only at *);omega),
⟨⟨rfl,rfl,rfl,rfl,rfl,rfl,
⟨rfl,rfl⟩,rfl,rfl,rfl,rfl,rfl,rfl,rfl,rfl,rfl,rfl,rfl,rfl,trivial⟩,trivial⟩,
⟨⟨rl,rr⟩,trivial⟩,
fun h4=>⟨⟨trivial,rfl,
(by(try dsimp only at *);exact byR_0 h4)⟩,
(by(try dsimp only at *);exact byR_0 h4),trivial⟩,
fun h5=>⟨((@List.nil Int,Cmd.kind x1)),
⟨(by(try dsimp only at *);exact kind_r (fs_ge h5)),
(by(try dsimp only at *);grind)⟩,
⟨⟨rfl,rfl⟩,rfl,trivial⟩,
⟨⟨⟨trivial,rfl,
(by(try dsimp only at *);grind)⟩,trivial⟩,
(by(try dsimp only at *);grind),trivial⟩,
(Cmd.kind x1),trivial,
⟨rfl,trivial⟩,trivial,
((0:Nat)),
⟨(by(try dsimp only at *);omega),
⟨⟨rfl,rfl⟩,
⟨rfl,rfl⟩,
⟨rfl,rfl⟩,rfl,
(by(try dsimp only at *);omega),rfl,rfl,rfl,trivial,rfl,rfl,rfl,
⟨rfl,rfl,rfl,rfl,rfl,rfl,
⟨rfl,rfl⟩,rfl,rfl,rfl,rfl,rfl,rfl,rfl,rfl,rfl,rfl,rfl,rfl,trivial⟩,trivial,
⟨rfl,rfl,rfl,rfl,rfl,rfl,
⟨rfl,rfl⟩,rfl,rfl,rfl,rfl,rfl,rfl,rfl,rfl,rfl,rfl,rfl,rfl,trivial⟩,trivial⟩,
⟨rfl,rfl,rfl,rfl,rfl,rfl,
⟨rfl,rfl⟩,rfl,rfl,rfl,rfl,rfl,rfl,rfl,rfl,rfl,rfl,rfl,rfl,trivial⟩,
⟨rl,rr⟩,
⟨rl,rr⟩,
⟨⟨rfl,
(by(try dsimp only at *);exact qL byW_0)⟩,trivial⟩,
⟨⟨(by(try dsimp only at *);exact qG byW_0)⟩,
(by(try dsimp only at *);exact qR byW_0)⟩,trivial⟩,
fun x9=>fun h10=>⟨fun g11=>have h11:=dT g11;⟨⟨(by(try dsimp only at *);omega),
(by(try dsimp only at *);omega)⟩,
(by(try dsimp only at *);omega),
fun g12=>have h12:=dT g12;⟨((byW x1 x9,Cmd.code x1)),
⟨(by(try dsimp only at *);exact Nat.le_trans (byW_lt (fs_ge h5) h11) (by decide)),
(by(try dsimp only at *);exact Nat.le_trans (vCode_r (fOk4 (vC_f (fs_ge h5) h11) h12)) (by decide))⟩,
⟨⟨rfl,rfl⟩,rfl,trivial⟩,
⟨⟨⟨rfl,rfl⟩,trivial⟩,
⟨rl,rr⟩,trivial⟩,
⟨(by(try dsimp only at *);omega),
(by(try dsimp only at *);exact fs_lt h11)⟩,
(x9+(1:Nat)),
(by(try dsimp only at *);omega),
(by(try dsimp only at *);omega),
⟨⟨rfl,rfl⟩,
⟨rfl,rfl⟩,
⟨rfl,rfl⟩,rfl,
(by(try dsimp only at *);omega),rfl,rfl,rfl,trivial,rfl,rfl,rfl,
⟨rfl,rfl,rfl,rfl,rfl,rfl,
⟨rfl,rfl⟩,rfl,rfl,rfl,rfl,rfl,rfl,rfl,rfl,rfl,rfl,rfl,rfl,trivial⟩,trivial,
⟨rfl,rfl,rfl,rfl,rfl,rfl,
⟨rfl,rfl⟩,rfl,rfl,rfl,rfl,rfl,rfl,rfl,rfl,rfl,rfl,rfl,rfl,trivial⟩,trivial⟩,
⟨rfl,rfl,rfl,rfl,rfl,rfl,
⟨rfl,rfl⟩,rfl,rfl,rfl,rfl,rfl,rfl,rfl,rfl,rfl,rfl,rfl,rfl,trivial⟩,
⟨rl,rr⟩,
⟨rl,rr⟩,
⟨⟨rfl,
(by(try dsimp only at *);exact qL (byF_4 h11 h12))⟩,trivial⟩,
⟨⟨(by(try dsimp only at *);exact qG (byF_4 h11 h12))⟩,
(by(try dsimp only at *);exact qR (byF_4 h11 h12))⟩,trivial⟩,
fun g15=>have h15:=dF g15;⟨fun g16=>have h16:=dT g16;⟨((byW x1 x9,Cmd.nodes x1)),
⟨(by(try dsimp only at *);exact Nat.le_trans (byW_lt (fs_ge h5) h11) (by decide)),
(by(try dsimp only at *);exact(vNodes_r (fOk5 (vC_f (fs_ge h5) h11) h15 h16)).1),
fun n18=>fun h19=>(by(try dsimp only at *);exact(vNodes_r (fOk5 (vC_f (fs_ge h5) h11) h15 h16)).2 _ h19)⟩,
⟨⟨rfl,rfl⟩,
⟨rfl,rfl⟩,trivial⟩,
⟨⟨⟨rfl,rfl⟩,trivial⟩,
⟨rl,rr⟩,
⟨rl,rr⟩,trivial⟩,
⟨(by(try dsimp only at *);omega),
(by(try dsimp only at *);exact fs_lt h11)⟩,
(x9+(1:Nat)),
(by(try dsimp only at *);omega),
(by(try dsimp only at *);omega),
⟨⟨rfl,rfl⟩,
⟨rfl,rfl⟩,
⟨rfl,rfl⟩,rfl,
(by(try dsimp only at *);omega),rfl,rfl,rfl,trivial,rfl,rfl,rfl,
⟨rfl,rfl,rfl,rfl,rfl,rfl,
⟨rfl,rfl⟩,rfl,rfl,rfl,rfl,rfl,rfl,rfl,rfl,rfl,rfl,rfl,rfl,trivial⟩,trivial,
⟨rfl,rfl,rfl,rfl,rfl,rfl,
⟨rfl,rfl⟩,rfl,rfl,rfl,rfl,rfl,rfl,rfl,rfl,rfl,rfl,rfl,rfl,trivial⟩,trivial⟩,
⟨rfl,rfl,rfl,rfl,rfl,rfl,
⟨rfl,rfl⟩,rfl,rfl,rfl,rfl,rfl,rfl,rfl,rfl,rfl,rfl,rfl,rfl,trivial⟩,
⟨rl,rr⟩,
⟨rl,rr⟩,
⟨⟨rfl,
(by(try dsimp only at *);exact qL (byF_5 h11 h15 h16))⟩,trivial⟩,
⟨⟨(by(try dsimp only at *);exact qG (byF_5 h11 h15 h16))⟩,
(by(try dsimp only at *);exact qR (byF_5 h11 h15 h16))⟩,trivial⟩,
fun g21=>have h21:=dF g21;⟨((x1,List.getD (fsC (Cmd.kind x1)) ((0:Nat)+Int.toNat (↑x9:Int)) default)),trivial,
⟨⟨rfl,rfl,rfl,rfl,rfl,rfl,
⟨rfl,rfl⟩,rfl,rfl,rfl,rfl,rfl,rfl,rfl,rfl,rfl,rfl,rfl,rfl,trivial⟩,rfl,trivial⟩,
⟨⟨rl,rr⟩,trivial⟩,
((byW x1 x9,numF x1 (List.getD (fsC (Cmd.kind x1)) ((0:Nat)+Int.toNat (↑x9:Int)) default))),
⟨(by(try dsimp only at *);exact num_r (fs_ge h5) h11 h15 h21),
(by(try dsimp only at *);exact Nat.le_trans (byW_lt (fs_ge h5) h11) (by decide))⟩,
⟨⟨rfl,rfl⟩,rfl,trivial⟩,
⟨⟨⟨rfl,rfl⟩,trivial⟩,
⟨rl,rr⟩,trivial⟩,
⟨(by(try dsimp only at *);omega),
(by(try dsimp only at *);exact fs_lt h11)⟩,
(x9+(1:Nat)),
(by(try dsimp only at *);omega),
(by(try dsimp only at *);omega),
⟨⟨rfl,rfl⟩,
⟨rfl,rfl⟩,
⟨rfl,rfl⟩,rfl,
(by(try dsimp only at *);omega),rfl,rfl,rfl,trivial,rfl,rfl,rfl,
⟨rfl,rfl,rfl,rfl,rfl,rfl,
⟨rfl,rfl⟩,rfl,rfl,rfl,rfl,rfl,rfl,rfl,rfl,rfl,rfl,rfl,rfl,trivial⟩,trivial,
⟨rfl,rfl,rfl,rfl,rfl,rfl,
⟨rfl,rfl⟩,rfl,rfl,rfl,rfl,rfl,rfl,rfl,rfl,rfl,rfl,rfl,rfl,trivial⟩,trivial⟩,
⟨rfl,rfl,rfl,rfl,rfl,rfl,
⟨rfl,rfl⟩,rfl,rfl,rfl,rfl,rfl,rfl,rfl,rfl,rfl,rfl,rfl,rfl,trivial⟩,
⟨rl,rr⟩,
⟨rl,rr⟩,
⟨⟨rfl,
(by(try dsimp only at *);exact qL (byF_n h11 h15 h21))⟩,trivial⟩,
⟨⟨(by(try dsimp only at *);exact qG (byF_n h11 h15 h21))⟩,
(by(try dsimp only at *);exact qR (byF_n h11 h15 h21))⟩,trivial⟩⟩⟩,
fun g25=>have h25:=dF g25;⟨(byW x1 x9),
(by(try dsimp only at *);exact byW_le (fs_ge h5) h10),
⟨⟨rfl,rfl⟩,trivial⟩,
⟨⟨⟨rfl,rfl⟩,trivial⟩,
⟨rl,rr⟩,trivial⟩,
⟨rfl,
(by(try dsimp only at *);exact qL (byR_t (fs_ge h5) h25))⟩,
⟨⟨(by(try dsimp only at *);exact qG (byR_t (fs_ge h5) h25))⟩,
(by(try dsimp only at *);exact qR (byR_t (fs_ge h5) h25))⟩,trivial⟩⟩⟩⟩)
theorem en_good:Good Tryd.prog 14 enC/\FnOk Tryd.prog 14:=good_of tok con2 (fn:=Tryd.f14) rfl (by decide+kernel) (fun _=>rfl) en_keeps
end Go.Sym