import Derived.Test.YtcghhlodddpmaaaDoorV6
import Derived.Test.YtcghhlodddpmaaaDoorV9
import Derived.Test.YtcghhlodddpmaaaDoorXD
namespace Go.Sym
set_option linter.unusedVariables false
set_option linter.unusedSimpArgs false
open Go.Proofs
set_option maxRecDepth 100000
set_option maxHeartbeats 4000000
structure CRd where
 c:Cmd
 r:Rd
def dcS (s:CRd) (f:Int):CRd:=if f=4 then⟨{ s.c with code:=strB (bsV s.r)},bsR s.r⟩else if f=5 then⟨{ s.c with nodes:=itV s.r },itR s.r⟩else⟨setF s.c f (intV s.r),intR s.r⟩
def rd0 (B:List Int):Rd:=⟨B,0,0⟩
def dcK (B:List Int):Int:=intV (rd0 B)
def dcL (B:List Int) (n:Nat):CRd:=((fsC (dcK B)).take n).foldl dcS ⟨onlyK (dcK B),intR (rd0 B)⟩
def dcE (B:List Int):CRd:=dcL B (fsC (dcK B)).length
def decC (B:List Int):Cmd:=if dcK B<1∨15<dcK B then {} else if fnV (dcE B).r≠0 then {} else if vC (dcE B).c then(dcE B).c else {}
def decE (B:List Int):Int:=if dcK B<1∨15<dcK B then(if fnV (intR (rd0 B))≠0 then fnV (intR (rd0 B))else 2)else if fnV (dcE B).r≠0 then fnV (dcE B).r else if vC (dcE B).c then 0 else 2
def fAK (k:Int) (i:Nat):Int:=(fsC k).getD (0+(i:Int).toNat) default
theorem dcL_s {B:List Int} {i:Nat} (h:(i:Int)<(fsC (dcK B)).length):dcL B (i+1)=dcS (dcL B i) (fAK (dcK B) i):=by
 have h:i<(fsC (dcK B)).length:=by omega
 unfold dcL fAK
 rw[List.take_add_one,List.getElem?_eq_getElem h,List.foldl_append,Nat.zero_add,List.getD_eq_getElem?_getD,show(i:Int).toNat=i from rfl,List.getElem?_eq_getElem h]
 rfl
theorem dc_4 {B:List Int} {i:Nat} (h:(i:Int)<(fsC (dcK B)).length) (h1:fAK (dcK B) i=4):dcL B (i+1)=⟨{ (dcL B i).c with code:=strB (bsV (dcL B i).r)},bsR (dcL B i).r⟩:=by rw[dcL_s h,dcS,if_pos h1]
theorem dc_5 {B:List Int} {i:Nat} (h:(i:Int)<(fsC (dcK B)).length) (h2:¬ fAK (dcK B) i=4) (h1:fAK (dcK B) i=5):dcL B (i+1)=⟨{ (dcL B i).c with nodes:=itV (dcL B i).r },itR (dcL B i).r⟩:=by rw[dcL_s h,dcS,if_neg h2,if_pos h1]
theorem dc_n {B:List Int} {i:Nat} (h:(i:Int)<(fsC (dcK B)).length) (h1:¬ fAK (dcK B) i=4) (h2:¬ fAK (dcK B) i=5):dcL B (i+1)=⟨setF (dcL B i).c (fAK (dcK B) i) (intV (dcL B i).r),intR (dcL B i).r⟩:=by rw[dcL_s h,dcS,if_neg h1,if_neg h2]
theorem dcL_t {B:List Int} {i:Nat} (h:¬ (i:Int)<(fsC (dcK B)).length):dcL B i=dcE B:=by
 unfold dcE dcL
 rw[List.take_of_length_le (by omega),List.take_of_length_le (Nat.le_refl _)]
theorem itK_ok:∀(k:Nat) (r:Rd) (acc:List Int),RdOk r->RdOk (itK k r acc).2/\(itK k r acc).1.length<=acc.length+k
 |0,r,acc,h=>⟨h,Nat.le_refl _⟩
 |k+1,r,acc,h=>by
  unfold itK
  split
  ·exact⟨intR_ok h,Nat.zero_le _⟩
  ·have:=itK_ok k (intR r) (acc++[intV r]) (intR_ok h)
   refine⟨this.1,Nat.le_trans this.2 ?_⟩
   simp
   omega
theorem itR_ok {r:Rd} (h:RdOk r):RdOk (itR r):=by
 unfold itR
 split
 ·exact lnR_ok h
 ·exact(itK_ok _ _ _ (lnR_ok h)).1
theorem itV_len {r:Rd} (h:RdOk r):(itV r).length<=1000000:=by
 unfold itV
 split
 ·exact Nat.zero_le _
 ·have h1:=(itK_ok (lnN r) (lnR r) [] (lnR_ok h)).2
  have h2:=lnV_r r
  have h3:=(lnR_ok h).len
  unfold lnN at h1 ⊢
  simp at h1
  omega
structure DcOk (s:CRd):Prop where
 r:RdOk s.r
 n:s.c.nodes.length<=1000000
theorem dcS_ok {s:CRd} (h:DcOk s) (f:Int):DcOk (dcS s f):=by
 unfold dcS
 split
 ·exact⟨bsR_ok h.r,h.n⟩
 ·split
  ·exact⟨itR_ok h.r,itV_len h.r⟩
  ·exact⟨intR_ok h.r,h.n⟩
def inB (B:List Int):Prop:=isB B/\B.length<=1000000
theorem rd0_ok {B:List Int} (h:inB B):RdOk (rd0 B):=⟨Nat.zero_le _,h.1,h.2⟩
theorem dcL_ok {B:List Int} (h:inB B) (n:Nat):DcOk (dcL B n):=by
 unfold dcL
 generalize(fsC (dcK B)).take n=l
 have h0:DcOk ⟨onlyK (dcK B),intR (rd0 B)⟩:=⟨intR_ok (rd0_ok h),Nat.zero_le _⟩
 generalize(⟨onlyK (dcK B),intR (rd0 B)⟩:CRd)=s at h0
 induction l generalizing s with
 |nil=>exact h0
 |cons f l ih=>exact ih _ (dcS_ok h0 f)
def cfg3:Cfg:=⟨T,[],[(50,.one nrC),(51,.one riC),(52,.one fnC),(28,.one fsCt),(53,.one rsC),(54,.one itC),(33,.one setC),(12,.one vdC)],noInv,60,{}⟩
theorem con3:ConOk Tryd.prog cfg3:=ConL.ok (.cons (ConL.one nr_good) (.cons (ConL.one ri_good) (.cons (ConL.one fn_good) (.cons (ConL.one fs_good) (.cons (ConL.one rs_good) (.cons (ConL.one it_good) (.cons (ConL.one set_good) (.cons (ConL.one vd_good) .nil))))))))
def dcC:CT where
 X:=List Int
 pre:=inB
 args:=fun x=>[.sl 100001 0 x.length]
 g0:=fun x=>[(100001,.rows .bor kB x.length (encL encI x))]
 res:=fun x=>.tup [.agg (cl (decC x) 1),.i .i64 (decE x)]
 g1:=fun x=>[nO 1 (decC x)]
theorem dz_k {B:List Int} (h:dcK B<1∨15<dcK B):decC B={}:=by unfold decC;rw[if_pos h]
theorem dz_ke {B:List Int} (h:dcK B<1∨15<dcK B) (h1:fnV (intR (rd0 B))≠0):fnV (intR (rd0 B))=decE B:=by unfold decE;rw[if_pos h,if_pos h1]
theorem dz_k2 {B:List Int} (h:dcK B<1∨15<dcK B) (h1:¬ fnV (intR (rd0 B))≠0):2=decE B:=by unfold decE;rw[if_pos h,if_neg h1]
theorem dz_e {B:List Int} {i:Nat} (h:¬ (dcK B<1∨15<dcK B)) (ht:¬ (i:Int)<(fsC (dcK B)).length) (h1:fnV (dcL B i).r≠0):decC B={}/\fnV (dcL B i).r=decE B:=by
 rw[dcL_t ht]at h1 ⊢
 unfold decC decE
 rw[if_neg h,if_neg h,if_pos h1,if_pos h1]
 exact⟨rfl,rfl⟩
theorem dz_v {B:List Int} {i:Nat} (h:¬ (dcK B<1∨15<dcK B)) (ht:¬ (i:Int)<(fsC (dcK B)).length) (h1:¬ fnV (dcL B i).r≠0) (h2:(!vC (dcL B i).c)=true):decC B={}/\2=decE B:=by
 rw[dcL_t ht]at h1 h2
 have h3:vC (dcE B).c=false:=by simpa using h2
 unfold decC decE
 rw[if_neg h,if_neg h,if_neg h1,if_neg h1,h3]
 exact⟨rfl,rfl⟩
theorem dz_y {B:List Int} {i:Nat} (h:¬ (dcK B<1∨15<dcK B)) (ht:¬ (i:Int)<(fsC (dcK B)).length) (h1:¬ fnV (dcL B i).r≠0) (h2:(!vC (dcL B i).c)=false):decC B=(dcL B i).c/\0=decE B:=by
 rw[dcL_t ht]at h1 h2 ⊢
 have h3:vC (dcE B).c=true:=by simpa using h2
 unfold decC decE
 rw[if_neg h,if_neg h,if_neg h1,if_neg h1,h3]
 exact⟨rfl,rfl⟩
theorem dz_a {B:List Int} (h:¬ dcK B<1):decide (15<dcK B)=decide (dcK B<1∨15<dcK B):=decide_eq_decide.2 (by omega)
theorem dz_b {B:List Int} (h:dcK B<1):true=decide (dcK B<1∨15<dcK B):=(decide_eq_true (.inl h)).symm
def dcI (x:List Int) (id:Nat):Option Inv:=match id with
 | 0 => some { X := Nat, ok := fun i => i <= (fsC (dcK x)).length, fr := fun i => [(4, .p 341 0 0), (7, .p 342 0 0), (38, .sl 343 0 (fsC (dcK x)).length), (39, .i .i64 (fsC (dcK x)).length), (40, .i .i64 i)],
               hp:=fun i=>rdB 341 344 (dcL x i).r++[(342,.one .own (cl (dcL x i).c 345)),nO 345 (dcL x i).c,(343,.rows .own kN (fsC (dcK x)).length (encL encI (fsC (dcK x)))),(100001,.rows .bor kB x.length (encL encI x))],me:=fun i=>(fsC (dcK x)).length-i }
 |100022=>some (cutB 22 (decide (dcK x<1∨15<dcK x)))
 |_=>none
set_option maxRecDepth 100000 in
theorem dc_keeps:Keeps cfg3 Tryd.f18 dcC dcI:=Eq.mp (show((∀ x1:List Int,((inB x1)->(∃ x3:List Int,((x3.length<=(1000000:Nat))/\(((0=0/\x1.length=x3.length)/\True)/\((((RLe x3.length x1.length)/\(RowsEq (.int IntKind.u8::[]) x3.length (encL encI x1) (encL encI x3)))/\True)/\(∃ x4:Rd,((RdOk x4)/\(((0=0/\0=0)/\True)/\((((((0:Nat)=x4.lo)/\(x3.length-(0:Nat)=x4.B.length-x4.lo))/\(0=x4.e/\True))/\(((RLe x4.B.length x3.length)/\(RowsEq (.int IntKind.u8::[]) x4.B.length (encL encI x3) (encL encI x4.B)))/\True))/\((((decide (intV x4<1)=false)->(∃ x6:Unit,(True/\((decide ((15:Int)<intV x4)=decide (dcK x1<1∨(15:Int)<dcK x1))/\True))))/\((decide (intV x4<1)=true)->(∃ x8:Unit,(True/\((true=decide (dcK x1<1∨(15:Int)<dcK x1))/\True)))))/\(∀ x9:Unit,(True->(((decide (dcK x1<1∨(15:Int)<dcK x1)=true)->(∃ x12:Rd,((RdOk x12)/\(((0=0/\0=0)/\True)/\((((((intR x4).lo=x12.lo)/\((intR x4).B.length-(intR x4).lo=x12.B.length-x12.lo))/\(((intR x4).e=x12.e)/\True))/\(((RLe x12.B.length (intR x4).B.length)/\(RowsEq (.int IntKind.u8::[]) x12.B.length (encL encI (intR x4).B) (encL encI x12.B)))/\True))/\(((decide (fnV x12≠(0:Int))=true)->((((0=(decC x1).kind)/\((0=(decC x1).call)/\((0=(decC x1).inc)/\((0=(decC x1).oth)/\((0=(decC x1).urg)/\((ByteArray.empty=(decC x1).code)/\((True/\(0=0/\((decC x1).nodes.length=(0:Nat))))/\((0=(decC x1).dist)/\((0=(decC x1).cen)/\((0=(decC x1).ep)/\((0=(decC x1).tick)/\((0=(decC x1).su)/\((0=(decC x1).sq)/\((0=(decC x1).ss)/\((0=(decC x1).sn)/\((0=(decC x1).se)/\((0=(decC x1).edge)/\((0=(decC x1).time)/\((0=(decC x1).node)/\True)))))))))))))))))))/\((fnV x12=decE x1)/\True))/\(((decC x1).nodes.length=(0:Nat))/\True)))/\((decide (fnV x12≠(0:Int))=false)->((((0=(decC x1).kind)/\((0=(decC x1).call)/\((0=(decC x1).inc)/\((0=(decC x1).oth)/\((0=(decC x1).urg)/\((ByteArray.empty=(decC x1).code)/\((True/\(0=0/\((decC x1).nodes.length=(0:Nat))))/\((0=(decC x1).dist)/\((0=(decC x1).cen)/\((0=(decC x1).ep)/\((0=(decC x1).tick)/\((0=(decC x1).su)/\((0=(decC x1).sq)/\((0=(decC x1).ss)/\((0=(decC x1).sn)/\((0=(decC x1).se)/\((0=(decC x1).edge)/\((0=(decC x1).time)/\((0=(decC x1).node)/\True)))))))))))))))))))/\(((2:Int)=decE x1)/\True))/\(((decC x1).nodes.length=(0:Nat))/\True)))))))))/\((decide (dcK x1<1∨(15:Int)<dcK x1)=false)->(∃ x16:Int,(True/\(((intV x4=x16)/\True)/\(True/\(∃ x17:Nat,(((x17<=(fsC (dcK x1)).length)/\(((0=0/\0=0)/\((0=0/\0=0)/\((0=0/\((fsC x16).length=(fsC (dcK x1)).length))/\(((↑(fsC x16).length:Int)=(↑(fsC (dcK x1)).length:Int))/\((0=(x17:Int))/\((kOk x16=kOk x16)/\((kOk x16=kOk x16)/\((intV x4=intV x4)/\(((intV x4=intV x4)/\(((0:Int)=0)/\(((0:Int)=0)/\(((0:Int)=0)/\(((0:Int)=0)/\(ByteArray.empty=ByteArray.empty/\(True/\(((0:Int)=0)/\(((0:Int)=0)/\(((0:Int)=0)/\(((0:Int)=0)/\(((0:Int)=0)/\(((0:Int)=0)/\(((0:Int)=0)/\(((0:Int)=0)/\(((0:Int)=0)/\(((0:Int)=0)/\(((0:Int)=0)/\(((0:Int)=0)/\True)))))))))))))))))))/\((intV x4=intV x4)/\((decide (dcK x1<1∨(15:Int)<dcK x1)=decide (dcK x1<1∨(15:Int)<dcK x1))/\((intV x4=intV x4)/\((intV x4=intV x4)/\((0=0/\x1.length=x1.length)/\(((0:Int)=0)/\((0=0/\0=0)/\((0=0/\x1.length=x1.length)/\True)))))))))))))))))/\(((((intR x4).lo=(dcL x1 x17).r.lo)/\((intR x4).B.length-(intR x4).lo=(dcL x1 x17).r.B.length-(dcL x1 x17).r.lo))/\(((intR x4).e=(dcL x1 x17).r.e)/\True))/\(((RLe (dcL x1 x17).r.B.length (intR x4).B.length)/\(RowsEq (.int IntKind.u8::[]) (dcL x1 x17).r.B.length (encL encI (intR x4).B) (encL encI (dcL x1 x17).r.B)))/\(((intV x4=(dcL x1 x17).c.kind)/\((0=(dcL x1 x17).c.call)/\((0=(dcL x1 x17).c.inc)/\((0=(dcL x1 x17).c.oth)/\((0=(dcL x1 x17).c.urg)/\((ByteArray.empty=(dcL x1 x17).c.code)/\((True/\(0=0/\((dcL x1 x17).c.nodes.length=(0:Nat))))/\((0=(dcL x1 x17).c.dist)/\((0=(dcL x1 x17).c.cen)/\((0=(dcL x1 x17).c.ep)/\((0=(dcL x1 x17).c.tick)/\((0=(dcL x1 x17).c.su)/\((0=(dcL x1 x17).c.sq)/\((0=(dcL x1 x17).c.ss)/\((0=(dcL x1 x17).c.sn)/\((0=(dcL x1 x17).c.se)/\((0=(dcL x1 x17).c.edge)/\((0=(dcL x1 x17).c.time)/\((0=(dcL x1 x17).c.node)/\True)))))))))))))))))))/\(((dcL x1 x17).c.nodes.length=(0:Nat))/\(((RLe (fsC (dcK x1)).length (fsC x16).length)/\(RowsEq [.int .i64] (fsC (dcK x1)).length (encL encI (fsC x16)) (encL encI (fsC (dcK x1)))))/\(((RLe x1.length x1.length)/\(RowsEq (.int IntKind.u8::[]) x1.length (encL encI x1) (encL encI x1)))/\(((RLe x3.length x3.length)/\(RowsEq (.int IntKind.u8::[]) x3.length (encL encI x3) (encL encI x3)))/\((((0:Int)=0)/\(((0:Int)=0)/\(((0:Int)=0)/\(((0:Int)=0)/\(((0:Int)=0)/\(ByteArray.empty=ByteArray.empty/\(True/\(((0:Int)=0)/\(((0:Int)=0)/\(((0:Int)=0)/\(((0:Int)=0)/\(((0:Int)=0)/\(((0:Int)=0)/\(((0:Int)=0)/\(((0:Int)=0)/\(((0:Int)=0)/\(((0:Int)=0)/\(((0:Int)=0)/\(((0:Int)=0)/\True)))))))))))))))))))/\True))))))))))/\(∀ x18:Nat,((x18<=(fsC (dcK x1)).length)->(((decide ((x18:Int)<(↑(fsC (dcK x1)).length:Int))=true)->((((0:Int)<=(x18:Int))/\((x18:Int)<(↑(fsC (dcK x1)).length:Int)))/\((0+Int.toNat (x18:Int)<(fsC (dcK x1)).length)/\(((decide ((fsC (dcK x1)).getD (0+Int.toNat (x18:Int)) default=4)=true)->(∃ x22:Rd,((RdOk x22)/\(((0=0/\0=0)/\True)/\((((((dcL x1 x18).r.lo=x22.lo)/\((dcL x1 x18).r.B.length-(dcL x1 x18).r.lo=x22.B.length-x22.lo))/\(((dcL x1 x18).r.e=x22.e)/\True))/\(((RLe x22.B.length (dcL x1 x18).r.B.length)/\(RowsEq (.int IntKind.u8::[]) x22.B.length (encL encI (dcL x1 x18).r.B) (encL encI x22.B)))/\True))/\((((-9223372036854775808:Int)<=(x18:Int)+1)/\((x18:Int)+1<=(9223372036854775807:Int)))/\(∃ x23:Nat,(((fsC (dcK x1)).length-x23<(fsC (dcK x1)).length-x18)/\((x23<=(fsC (dcK x1)).length)/\(((0=0/\0=0)/\((0=0/\0=0)/\((0=0/\((fsC (dcK x1)).length=(fsC (dcK x1)).length))/\(((↑(fsC (dcK x1)).length:Int)=(↑(fsC (dcK x1)).length:Int))/\(((x18:Int)+1=(x23:Int))/\((kOk x16=kOk x16)/\((kOk x16=kOk x16)/\((intV x4=intV x4)/\(((intV x4=intV x4)/\(((0:Int)=0)/\(((0:Int)=0)/\(((0:Int)=0)/\(((0:Int)=0)/\(ByteArray.empty=ByteArray.empty/\(True/\(((0:Int)=0)/\(((0:Int)=0)/\(((0:Int)=0)/\(((0:Int)=0)/\(((0:Int)=0)/\(((0:Int)=0)/\(((0:Int)=0)/\(((0:Int)=0)/\(((0:Int)=0)/\(((0:Int)=0)/\(((0:Int)=0)/\(((0:Int)=0)/\True)))))))))))))))))))/\((intV x4=intV x4)/\((decide (dcK x1<1∨(15:Int)<dcK x1)=decide (dcK x1<1∨(15:Int)<dcK x1))/\((intV x4=intV x4)/\((intV x4=intV x4)/\((0=0/\x1.length=x1.length)/\(((0:Int)=0)/\((0=0/\0=0)/\((0=0/\x1.length=x1.length)/\True)))))))))))))))))/\(((((bsR x22).lo=(dcL x1 x23).r.lo)/\((bsR x22).B.length-(bsR x22).lo=(dcL x1 x23).r.B.length-(dcL x1 x23).r.lo))/\(((bsR x22).e=(dcL x1 x23).r.e)/\True))/\(((RLe (dcL x1 x23).r.B.length (bsR x22).B.length)/\(RowsEq (.int IntKind.u8::[]) (dcL x1 x23).r.B.length (encL encI (bsR x22).B) (encL encI (dcL x1 x23).r.B)))/\((((dcL x1 x18).c.kind=(dcL x1 x23).c.kind)/\(((dcL x1 x18).c.call=(dcL x1 x23).c.call)/\(((dcL x1 x18).c.inc=(dcL x1 x23).c.inc)/\(((dcL x1 x18).c.oth=(dcL x1 x23).c.oth)/\(((dcL x1 x18).c.urg=(dcL x1 x23).c.urg)/\((strB (bsV x22)=(dcL x1 x23).c.code)/\((0=0/\((dcL x1 x18).c.nodes.length=(dcL x1 x23).c.nodes.length))/\(((dcL x1 x18).c.dist=(dcL x1 x23).c.dist)/\(((dcL x1 x18).c.cen=(dcL x1 x23).c.cen)/\(((dcL x1 x18).c.ep=(dcL x1 x23).c.ep)/\(((dcL x1 x18).c.tick=(dcL x1 x23).c.tick)/\(((dcL x1 x18).c.su=(dcL x1 x23).c.su)/\(((dcL x1 x18).c.sq=(dcL x1 x23).c.sq)/\(((dcL x1 x18).c.ss=(dcL x1 x23).c.ss)/\(((dcL x1 x18).c.sn=(dcL x1 x23).c.sn)/\(((dcL x1 x18).c.se=(dcL x1 x23).c.se)/\(((dcL x1 x18).c.edge=(dcL x1 x23).c.edge)/\(((dcL x1 x18).c.time=(dcL x1 x23).c.time)/\(((dcL x1 x18).c.node=(dcL x1 x23).c.node)/\True)))))))))))))))))))/\(((RLe (dcL x1 x23).c.nodes.length (dcL x1 x18).c.nodes.length)/\(RowsEq [.int .i64] (dcL x1 x23).c.nodes.length (encL encI (dcL x1 x18).c.nodes) (encL encI (dcL x1 x23).c.nodes)))/\(((RLe (fsC (dcK x1)).length (fsC (dcK x1)).length)/\(RowsEq [.int .i64] (fsC (dcK x1)).length (encL encI (fsC (dcK x1))) (encL encI (fsC (dcK x1)))))/\(((RLe x1.length x1.length)/\(RowsEq (.int IntKind.u8::[]) x1.length (encL encI x1) (encL encI x1)))/\(((RLe x3.length x3.length)/\(RowsEq (.int IntKind.u8::[]) x3.length (encL encI x3) (encL encI x3)))/\((((0:Int)=0)/\(((0:Int)=0)/\(((0:Int)=0)/\(((0:Int)=0)/\(((0:Int)=0)/\(ByteArray.empty=ByteArray.empty/\(True/\(((0:Int)=0)/\(((0:Int)=0)/\(((0:Int)=0)/\(((0:Int)=0)/\(((0:Int)=0)/\(((0:Int)=0)/\(((0:Int)=0)/\(((0:Int)=0)/\(((0:Int)=0)/\(((0:Int)=0)/\(((0:Int)=0)/\(((0:Int)=0)/\True)))))))))))))))))))/\True))))))))))))))))))/\((decide ((fsC (dcK x1)).getD (0+Int.toNat (x18:Int)) default=4)=false)->(((decide ((fsC (dcK x1)).getD (0+Int.toNat (x18:Int)) default=5)=true)->(∃ x26:Rd,((RdOk x26)/\(((0=0/\0=0)/\True)/\((((((dcL x1 x18).r.lo=x26.lo)/\((dcL x1 x18).r.B.length-(dcL x1 x18).r.lo=x26.B.length-x26.lo))/\(((dcL x1 x18).r.e=x26.e)/\True))/\(((RLe x26.B.length (dcL x1 x18).r.B.length)/\(RowsEq (.int IntKind.u8::[]) x26.B.length (encL encI (dcL x1 x18).r.B) (encL encI x26.B)))/\True))/\((((-9223372036854775808:Int)<=(x18:Int)+1)/\((x18:Int)+1<=(9223372036854775807:Int)))/\(∃ x27:Nat,(((fsC (dcK x1)).length-x27<(fsC (dcK x1)).length-x18)/\((x27<=(fsC (dcK x1)).length)/\(((0=0/\0=0)/\((0=0/\0=0)/\((0=0/\((fsC (dcK x1)).length=(fsC (dcK x1)).length))/\(((↑(fsC (dcK x1)).length:Int)=(↑(fsC (dcK x1)).length:Int))/\(((x18:Int)+1=(x27:Int))/\((kOk x16=kOk x16)/\((kOk x16=kOk x16)/\((intV x4=intV x4)/\(((intV x4=intV x4)/\(((0:Int)=0)/\(((0:Int)=0)/\(((0:Int)=0)/\(((0:Int)=0)/\(ByteArray.empty=ByteArray.empty/\(True/\(((0:Int)=0)/\(((0:Int)=0)/\(((0:Int)=0)/\(((0:Int)=0)/\(((0:Int)=0)/\(((0:Int)=0)/\(((0:Int)=0)/\(((0:Int)=0)/\(((0:Int)=0)/\(((0:Int)=0)/\(((0:Int)=0)/\(((0:Int)=0)/\True)))))))))))))))))))/\((intV x4=intV x4)/\((decide (dcK x1<1∨(15:Int)<dcK x1)=decide (dcK x1<1∨(15:Int)<dcK x1))/\((intV x4=intV x4)/\((intV x4=intV x4)/\((0=0/\x1.length=x1.length)/\(((0:Int)=0)/\((0=0/\0=0)/\((0=0/\x1.length=x1.length)/\True)))))))))))))))))/\(((((itR x26).lo=(dcL x1 x27).r.lo)/\((itR x26).B.length-(itR x26).lo=(dcL x1 x27).r.B.length-(dcL x1 x27).r.lo))/\(((itR x26).e=(dcL x1 x27).r.e)/\True))/\(((RLe (dcL x1 x27).r.B.length (itR x26).B.length)/\(RowsEq (.int IntKind.u8::[]) (dcL x1 x27).r.B.length (encL encI (itR x26).B) (encL encI (dcL x1 x27).r.B)))/\((((dcL x1 x18).c.kind=(dcL x1 x27).c.kind)/\(((dcL x1 x18).c.call=(dcL x1 x27).c.call)/\(((dcL x1 x18).c.inc=(dcL x1 x27).c.inc)/\(((dcL x1 x18).c.oth=(dcL x1 x27).c.oth)/\(((dcL x1 x18).c.urg=(dcL x1 x27).c.urg)/\(((dcL x1 x18).c.code=(dcL x1 x27).c.code)/\((0=0/\((itV x26).length=(dcL x1 x27).c.nodes.length))/\(((dcL x1 x18).c.dist=(dcL x1 x27).c.dist)/\(((dcL x1 x18).c.cen=(dcL x1 x27).c.cen)/\(((dcL x1 x18).c.ep=(dcL x1 x27).c.ep)/\(((dcL x1 x18).c.tick=(dcL x1 x27).c.tick)/\(((dcL x1 x18).c.su=(dcL x1 x27).c.su)/\(((dcL x1 x18).c.sq=(dcL x1 x27).c.sq)/\(((dcL x1 x18).c.ss=(dcL x1 x27).c.ss)/\(((dcL x1 x18).c.sn=(dcL x1 x27).c.sn)/\(((dcL x1 x18).c.se=(dcL x1 x27).c.se)/\(((dcL x1 x18).c.edge=(dcL x1 x27).c.edge)/\(((dcL x1 x18).c.time=(dcL x1 x27).c.time)/\(((dcL x1 x18).c.node=(dcL x1 x27).c.node)/\True)))))))))))))))))))/\(((RLe (dcL x1 x27).c.nodes.length (itV x26).length)/\(RowsEq [.int .i64] (dcL x1 x27).c.nodes.length (encL encI (itV x26)) (encL encI (dcL x1 x27).c.nodes)))/\(((RLe (fsC (dcK x1)).length (fsC (dcK x1)).length)/\(RowsEq [.int .i64] (fsC (dcK x1)).length (encL encI (fsC (dcK x1))) (encL encI (fsC (dcK x1)))))/\(((RLe x1.length x1.length)/\(RowsEq (.int IntKind.u8::[]) x1.length (encL encI x1) (encL encI x1)))/\(((RLe x3.length x3.length)/\(RowsEq (.int IntKind.u8::[]) x3.length (encL encI x3) (encL encI x3)))/\((((0:Int)=0)/\(((0:Int)=0)/\(((0:Int)=0)/\(((0:Int)=0)/\(((0:Int)=0)/\(ByteArray.empty=ByteArray.empty/\(True/\(((0:Int)=0)/\(((0:Int)=0)/\(((0:Int)=0)/\(((0:Int)=0)/\(((0:Int)=0)/\(((0:Int)=0)/\(((0:Int)=0)/\(((0:Int)=0)/\(((0:Int)=0)/\(((0:Int)=0)/\(((0:Int)=0)/\(((0:Int)=0)/\True)))))))))))))))))))/\True))))))))))))))))))/\((decide ((fsC (dcK x1)).getD (0+Int.toNat (x18:Int)) default=5)=false)->(∃ x29:Rd,((RdOk x29)/\(((0=0/\0=0)/\True)/\((((((dcL x1 x18).r.lo=x29.lo)/\((dcL x1 x18).r.B.length-(dcL x1 x18).r.lo=x29.B.length-x29.lo))/\(((dcL x1 x18).r.e=x29.e)/\True))/\(((RLe x29.B.length (dcL x1 x18).r.B.length)/\(RowsEq (.int IntKind.u8::[]) x29.B.length (encL encI (dcL x1 x18).r.B) (encL encI x29.B)))/\True))/\(∃ x30:Cmd × Int × Int,(True/\(((0=0/\0=0)/\(((fsC (dcK x1)).getD (0+Int.toNat (x18:Int)) default=Prod.fst (Prod.snd x30))/\((intV x29=Prod.snd (Prod.snd x30))/\True)))/\(((((dcL x1 x18).c.kind=(Prod.fst x30).kind)/\(((dcL x1 x18).c.call=(Prod.fst x30).call)/\(((dcL x1 x18).c.inc=(Prod.fst x30).inc)/\(((dcL x1 x18).c.oth=(Prod.fst x30).oth)/\(((dcL x1 x18).c.urg=(Prod.fst x30).urg)/\(((dcL x1 x18).c.code=(Prod.fst x30).code)/\((0=0/\((dcL x1 x18).c.nodes.length=(Prod.fst x30).nodes.length))/\(((dcL x1 x18).c.dist=(Prod.fst x30).dist)/\(((dcL x1 x18).c.cen=(Prod.fst x30).cen)/\(((dcL x1 x18).c.ep=(Prod.fst x30).ep)/\(((dcL x1 x18).c.tick=(Prod.fst x30).tick)/\(((dcL x1 x18).c.su=(Prod.fst x30).su)/\(((dcL x1 x18).c.sq=(Prod.fst x30).sq)/\(((dcL x1 x18).c.ss=(Prod.fst x30).ss)/\(((dcL x1 x18).c.sn=(Prod.fst x30).sn)/\(((dcL x1 x18).c.se=(Prod.fst x30).se)/\(((dcL x1 x18).c.edge=(Prod.fst x30).edge)/\(((dcL x1 x18).c.time=(Prod.fst x30).time)/\(((dcL x1 x18).c.node=(Prod.fst x30).node)/\True)))))))))))))))))))/\(((RLe (Prod.fst x30).nodes.length (dcL x1 x18).c.nodes.length)/\(RowsEq [.int .i64] (Prod.fst x30).nodes.length (encL encI (dcL x1 x18).c.nodes) (encL encI (Prod.fst x30).nodes)))/\True))/\((((-9223372036854775808:Int)<=(x18:Int)+1)/\((x18:Int)+1<=(9223372036854775807:Int)))/\(∃ x31:Nat,(((fsC (dcK x1)).length-x31<(fsC (dcK x1)).length-x18)/\((x31<=(fsC (dcK x1)).length)/\(((0=0/\0=0)/\((0=0/\0=0)/\((0=0/\((fsC (dcK x1)).length=(fsC (dcK x1)).length))/\(((↑(fsC (dcK x1)).length:Int)=(↑(fsC (dcK x1)).length:Int))/\(((x18:Int)+1=(x31:Int))/\((kOk x16=kOk x16)/\((kOk x16=kOk x16)/\((intV x4=intV x4)/\(((intV x4=intV x4)/\(((0:Int)=0)/\(((0:Int)=0)/\(((0:Int)=0)/\(((0:Int)=0)/\(ByteArray.empty=ByteArray.empty/\(True/\(((0:Int)=0)/\(((0:Int)=0)/\(((0:Int)=0)/\(((0:Int)=0)/\(((0:Int)=0)/\(((0:Int)=0)/\(((0:Int)=0)/\(((0:Int)=0)/\(((0:Int)=0)/\(((0:Int)=0)/\(((0:Int)=0)/\(((0:Int)=0)/\True)))))))))))))))))))/\((intV x4=intV x4)/\((decide (dcK x1<1∨(15:Int)<dcK x1)=decide (dcK x1<1∨(15:Int)<dcK x1))/\((intV x4=intV x4)/\((intV x4=intV x4)/\((0=0/\x1.length=x1.length)/\(((0:Int)=0)/\((0=0/\0=0)/\((0=0/\x1.length=x1.length)/\True)))))))))))))))))/\(((((intR x29).lo=(dcL x1 x31).r.lo)/\((intR x29).B.length-(intR x29).lo=(dcL x1 x31).r.B.length-(dcL x1 x31).r.lo))/\(((intR x29).e=(dcL x1 x31).r.e)/\True))/\(((RLe (dcL x1 x31).r.B.length (intR x29).B.length)/\(RowsEq (.int IntKind.u8::[]) (dcL x1 x31).r.B.length (encL encI (intR x29).B) (encL encI (dcL x1 x31).r.B)))/\((((setF (Prod.fst x30) (Prod.fst (Prod.snd x30)) (Prod.snd (Prod.snd x30))).kind=(dcL x1 x31).c.kind)/\(((setF (Prod.fst x30) (Prod.fst (Prod.snd x30)) (Prod.snd (Prod.snd x30))).call=(dcL x1 x31).c.call)/\(((setF (Prod.fst x30) (Prod.fst (Prod.snd x30)) (Prod.snd (Prod.snd x30))).inc=(dcL x1 x31).c.inc)/\(((setF (Prod.fst x30) (Prod.fst (Prod.snd x30)) (Prod.snd (Prod.snd x30))).oth=(dcL x1 x31).c.oth)/\(((setF (Prod.fst x30) (Prod.fst (Prod.snd x30)) (Prod.snd (Prod.snd x30))).urg=(dcL x1 x31).c.urg)/\(((setF (Prod.fst x30) (Prod.fst (Prod.snd x30)) (Prod.snd (Prod.snd x30))).code=(dcL x1 x31).c.code)/\((0=0/\((setF (Prod.fst x30) (Prod.fst (Prod.snd x30)) (Prod.snd (Prod.snd x30))).nodes.length=(dcL x1 x31).c.nodes.length))/\(((setF (Prod.fst x30) (Prod.fst (Prod.snd x30)) (Prod.snd (Prod.snd x30))).dist=(dcL x1 x31).c.dist)/\(((setF (Prod.fst x30) (Prod.fst (Prod.snd x30)) (Prod.snd (Prod.snd x30))).cen=(dcL x1 x31).c.cen)/\(((setF (Prod.fst x30) (Prod.fst (Prod.snd x30)) (Prod.snd (Prod.snd x30))).ep=(dcL x1 x31).c.ep)/\(((setF (Prod.fst x30) (Prod.fst (Prod.snd x30)) (Prod.snd (Prod.snd x30))).tick=(dcL x1 x31).c.tick)/\(((setF (Prod.fst x30) (Prod.fst (Prod.snd x30)) (Prod.snd (Prod.snd x30))).su=(dcL x1 x31).c.su)/\(((setF (Prod.fst x30) (Prod.fst (Prod.snd x30)) (Prod.snd (Prod.snd x30))).sq=(dcL x1 x31).c.sq)/\(((setF (Prod.fst x30) (Prod.fst (Prod.snd x30)) (Prod.snd (Prod.snd x30))).ss=(dcL x1 x31).c.ss)/\(((setF (Prod.fst x30) (Prod.fst (Prod.snd x30)) (Prod.snd (Prod.snd x30))).sn=(dcL x1 x31).c.sn)/\(((setF (Prod.fst x30) (Prod.fst (Prod.snd x30)) (Prod.snd (Prod.snd x30))).se=(dcL x1 x31).c.se)/\(((setF (Prod.fst x30) (Prod.fst (Prod.snd x30)) (Prod.snd (Prod.snd x30))).edge=(dcL x1 x31).c.edge)/\(((setF (Prod.fst x30) (Prod.fst (Prod.snd x30)) (Prod.snd (Prod.snd x30))).time=(dcL x1 x31).c.time)/\(((setF (Prod.fst x30) (Prod.fst (Prod.snd x30)) (Prod.snd (Prod.snd x30))).node=(dcL x1 x31).c.node)/\True)))))))))))))))))))/\(((RLe (dcL x1 x31).c.nodes.length (dcL x1 x18).c.nodes.length)/\(RowsEq [.int .i64] (dcL x1 x31).c.nodes.length (encL encI (dcL x1 x18).c.nodes) (encL encI (dcL x1 x31).c.nodes)))/\(((RLe (fsC (dcK x1)).length (fsC (dcK x1)).length)/\(RowsEq [.int .i64] (fsC (dcK x1)).length (encL encI (fsC (dcK x1))) (encL encI (fsC (dcK x1)))))/\(((RLe x1.length x1.length)/\(RowsEq (.int IntKind.u8::[]) x1.length (encL encI x1) (encL encI x1)))/\(((RLe x3.length x3.length)/\(RowsEq (.int IntKind.u8::[]) x3.length (encL encI x3) (encL encI x3)))/\((((0:Int)=0)/\(((0:Int)=0)/\(((0:Int)=0)/\(((0:Int)=0)/\(((0:Int)=0)/\(ByteArray.empty=ByteArray.empty/\(True/\(((0:Int)=0)/\(((0:Int)=0)/\(((0:Int)=0)/\(((0:Int)=0)/\(((0:Int)=0)/\(((0:Int)=0)/\(((0:Int)=0)/\(((0:Int)=0)/\(((0:Int)=0)/\(((0:Int)=0)/\(((0:Int)=0)/\(((0:Int)=0)/\True)))))))))))))))))))/\True))))))))))))))))))))))))))))/\((decide ((x18:Int)<(↑(fsC (dcK x1)).length:Int))=false)->(∃ x33:Rd,((RdOk x33)/\(((0=0/\0=0)/\True)/\((((((dcL x1 x18).r.lo=x33.lo)/\((dcL x1 x18).r.B.length-(dcL x1 x18).r.lo=x33.B.length-x33.lo))/\(((dcL x1 x18).r.e=x33.e)/\True))/\(((RLe x33.B.length (dcL x1 x18).r.B.length)/\(RowsEq (.int IntKind.u8::[]) x33.B.length (encL encI (dcL x1 x18).r.B) (encL encI x33.B)))/\True))/\(((decide (fnV x33≠(0:Int))=true)->((((0=(decC x1).kind)/\((0=(decC x1).call)/\((0=(decC x1).inc)/\((0=(decC x1).oth)/\((0=(decC x1).urg)/\((ByteArray.empty=(decC x1).code)/\((True/\(0=0/\((decC x1).nodes.length=(0:Nat))))/\((0=(decC x1).dist)/\((0=(decC x1).cen)/\((0=(decC x1).ep)/\((0=(decC x1).tick)/\((0=(decC x1).su)/\((0=(decC x1).sq)/\((0=(decC x1).ss)/\((0=(decC x1).sn)/\((0=(decC x1).se)/\((0=(decC x1).edge)/\((0=(decC x1).time)/\((0=(decC x1).node)/\True)))))))))))))))))))/\((fnV x33=decE x1)/\True))/\(((decC x1).nodes.length=(0:Nat))/\True)))/\((decide (fnV x33≠(0:Int))=false)->(∃ x36:Cmd,((x36.nodes.length<=(1000000:Nat))/\(((((dcL x1 x18).c.kind=x36.kind)/\(((dcL x1 x18).c.call=x36.call)/\(((dcL x1 x18).c.inc=x36.inc)/\(((dcL x1 x18).c.oth=x36.oth)/\(((dcL x1 x18).c.urg=x36.urg)/\(((dcL x1 x18).c.code=x36.code)/\((0=0/\((dcL x1 x18).c.nodes.length=x36.nodes.length))/\(((dcL x1 x18).c.dist=x36.dist)/\(((dcL x1 x18).c.cen=x36.cen)/\(((dcL x1 x18).c.ep=x36.ep)/\(((dcL x1 x18).c.tick=x36.tick)/\(((dcL x1 x18).c.su=x36.su)/\(((dcL x1 x18).c.sq=x36.sq)/\(((dcL x1 x18).c.ss=x36.ss)/\(((dcL x1 x18).c.sn=x36.sn)/\(((dcL x1 x18).c.se=x36.se)/\(((dcL x1 x18).c.edge=x36.edge)/\(((dcL x1 x18).c.time=x36.time)/\(((dcL x1 x18).c.node=x36.node)/\True)))))))))))))))))))/\True)/\((((RLe x36.nodes.length (dcL x1 x18).c.nodes.length)/\(RI x36.nodes.length (dcL x1 x18).c.nodes x36.nodes))/\True)/\((((!vC x36)=true)->((((0=(decC x1).kind)/\((0=(decC x1).call)/\((0=(decC x1).inc)/\((0=(decC x1).oth)/\((0=(decC x1).urg)/\((ByteArray.empty=(decC x1).code)/\((True/\(0=0/\((decC x1).nodes.length=(0:Nat))))/\((0=(decC x1).dist)/\((0=(decC x1).cen)/\((0=(decC x1).ep)/\((0=(decC x1).tick)/\((0=(decC x1).su)/\((0=(decC x1).sq)/\((0=(decC x1).ss)/\((0=(decC x1).sn)/\((0=(decC x1).se)/\((0=(decC x1).edge)/\((0=(decC x1).time)/\((0=(decC x1).node)/\True)))))))))))))))))))/\(((2:Int)=decE x1)/\True))/\(((decC x1).nodes.length=(0:Nat))/\True)))/\(((!vC x36)=false)->(((((dcL x1 x18).c.kind=(decC x1).kind)/\(((dcL x1 x18).c.call=(decC x1).call)/\(((dcL x1 x18).c.inc=(decC x1).inc)/\(((dcL x1 x18).c.oth=(decC x1).oth)/\(((dcL x1 x18).c.urg=(decC x1).urg)/\(((dcL x1 x18).c.code=(decC x1).code)/\((0=0/\((dcL x1 x18).c.nodes.length=(decC x1).nodes.length))/\(((dcL x1 x18).c.dist=(decC x1).dist)/\(((dcL x1 x18).c.cen=(decC x1).cen)/\(((dcL x1 x18).c.ep=(decC x1).ep)/\(((dcL x1 x18).c.tick=(decC x1).tick)/\(((dcL x1 x18).c.su=(decC x1).su)/\(((dcL x1 x18).c.sq=(decC x1).sq)/\(((dcL x1 x18).c.ss=(decC x1).ss)/\(((dcL x1 x18).c.sn=(decC x1).sn)/\(((dcL x1 x18).c.se=(decC x1).se)/\(((dcL x1 x18).c.edge=(decC x1).edge)/\(((dcL x1 x18).c.time=(decC x1).time)/\(((dcL x1 x18).c.node=(decC x1).node)/\True)))))))))))))))))))/\(((0:Int)=decE x1)/\True))/\(((RLe (decC x1).nodes.length (dcL x1 x18).c.nodes.length)/\(RowsEq [.int .i64] (decC x1).nodes.length (encL encI (dcL x1 x18).c.nodes) (encL encI (decC x1).nodes)))/\True))))))))))))))))))))))))))))))))))))))))=(Keeps cfg3 Tryd.f18 dcC dcI) by kernel_rfl) (fun x1=>fun h2=>⟨(x1),
(by(try dsimp only at *);exact h2.2),
⟨⟨rfl,rfl⟩,trivial⟩,
⟨⟨rl,rr⟩,trivial⟩,
({ B:=x1,lo:=(0:Nat),e:=(0:Int):Rd }),
(by(try dsimp only at *);exact rd0_ok h2),
⟨⟨rfl,rfl⟩,trivial⟩,
⟨⟨⟨rfl,rfl⟩,rfl,trivial⟩,
⟨rl,rr⟩,trivial⟩,
⟨fun g5=>have h5:=dF g5;⟨(default),trivial,
(by(try dsimp only at *);exact dz_a h5),trivial⟩,
fun g7=>have h7:=dT g7;⟨(default),trivial,
(by(try dsimp only at *);exact dz_b h7),trivial⟩⟩,
fun x9=>fun h10=>⟨fun g11=>have h11:=dT g11;⟨(intR { B:=x1,lo:=(0:Nat),e:=(0:Int):Rd }),
(by(try dsimp only at *);exact intR_ok (rd0_ok h2)),
⟨⟨rfl,rfl⟩,trivial⟩,
⟨⟨⟨rfl,rfl⟩,rfl,trivial⟩,
⟨rl,rr⟩,trivial⟩,
fun g13=>have h13:=dT g13;⟨⟨⟨(by(try dsimp only at *);(rw[dz_k h11])),
(by(try dsimp only at *);(rw[dz_k h11])),
(by(try dsimp only at *);(rw[dz_k h11])),
(by(try dsimp only at *);(rw[dz_k h11])),
(by(try dsimp only at *);(rw[dz_k h11])),
(by(try dsimp only at *);(rw[dz_k h11])),
⟨trivial,rfl,
(by(try dsimp only at *);(rw[dz_k h11];rfl))⟩,
(by(try dsimp only at *);(rw[dz_k h11])),
(by(try dsimp only at *);(rw[dz_k h11])),
(by(try dsimp only at *);(rw[dz_k h11])),
(by(try dsimp only at *);(rw[dz_k h11])),
(by(try dsimp only at *);(rw[dz_k h11])),
(by(try dsimp only at *);(rw[dz_k h11])),
(by(try dsimp only at *);(rw[dz_k h11])),
(by(try dsimp only at *);(rw[dz_k h11])),
(by(try dsimp only at *);(rw[dz_k h11])),
(by(try dsimp only at *);(rw[dz_k h11])),
(by(try dsimp only at *);(rw[dz_k h11])),
(by(try dsimp only at *);(rw[dz_k h11])),trivial⟩,
(by(try dsimp only at *);exact dz_ke h11 h13),trivial⟩,
(by(try dsimp only at *);(rw[dz_k h11];rfl)),trivial⟩,
fun g14=>have h14:=dF g14;⟨⟨⟨(by(try dsimp only at *);(rw[dz_k h11])),
(by(try dsimp only at *);(rw[dz_k h11])),
(by(try dsimp only at *);(rw[dz_k h11])),
(by(try dsimp only at *);(rw[dz_k h11])),
(by(try dsimp only at *);(rw[dz_k h11])),
(by(try dsimp only at *);(rw[dz_k h11])),
⟨trivial,rfl,
(by(try dsimp only at *);(rw[dz_k h11];rfl))⟩,
(by(try dsimp only at *);(rw[dz_k h11])),
(by(try dsimp only at *);(rw[dz_k h11])),
(by(try dsimp only at *);(rw[dz_k h11])),
(by(try dsimp only at *);(rw[dz_k h11])),
(by(try dsimp only at *);(rw[dz_k h11])),
(by(try dsimp only at *);(rw[dz_k h11])),
(by(try dsimp only at *);(rw[dz_k h11])),
(by(try dsimp only at *);(rw[dz_k h11])),
(by(try dsimp only at *);(rw[dz_k h11])),
(by(try dsimp only at *);(rw[dz_k h11])),
(by(try dsimp only at *);(rw[dz_k h11])),
(by(try dsimp only at *);(rw[dz_k h11])),trivial⟩,
(by(try dsimp only at *);exact dz_k2 h11 h14),trivial⟩,
(by(try dsimp only at *);(rw[dz_k h11];rfl)),trivial⟩⟩,
fun g15=>have h15:=dF g15;⟨(intV { B:=x1,lo:=(0:Nat),e:=(0:Int):Rd }),trivial,
⟨rfl,trivial⟩,trivial,
((0:Nat)),
⟨(by(try dsimp only at *);omega),
⟨⟨rfl,rfl⟩,
⟨rfl,rfl⟩,
⟨rfl,
(by(try dsimp only at *);rfl)⟩,
(by(try dsimp only at *);rfl),
(by(try dsimp only at *);omega),rfl,rfl,rfl,
⟨rfl,rfl,rfl,rfl,rfl,rfl,trivial,rfl,rfl,rfl,rfl,rfl,rfl,rfl,rfl,rfl,rfl,rfl,rfl,trivial⟩,rfl,rfl,rfl,rfl,
⟨rfl,rfl⟩,rfl,
⟨rfl,rfl⟩,
⟨rfl,rfl⟩,trivial⟩,
⟨⟨(by(try dsimp only at *);rfl),
(by(try dsimp only at *);rfl)⟩,
(by(try dsimp only at *);rfl),trivial⟩,
⟨⟨(by(try dsimp only at *);exact Nat.le_refl _)⟩,
(by(try dsimp only at *);exact rr)⟩,
⟨(by(try dsimp only at *);rfl),
(by(try dsimp only at *);rfl),
(by(try dsimp only at *);rfl),
(by(try dsimp only at *);rfl),
(by(try dsimp only at *);rfl),
(by(try dsimp only at *);rfl),
⟨trivial,rfl,
(by(try dsimp only at *);rfl)⟩,
(by(try dsimp only at *);rfl),
(by(try dsimp only at *);rfl),
(by(try dsimp only at *);rfl),
(by(try dsimp only at *);rfl),
(by(try dsimp only at *);rfl),
(by(try dsimp only at *);rfl),
(by(try dsimp only at *);rfl),
(by(try dsimp only at *);rfl),
(by(try dsimp only at *);rfl),
(by(try dsimp only at *);rfl),
(by(try dsimp only at *);rfl),
(by(try dsimp only at *);rfl),trivial⟩,
(by(try dsimp only at *);rfl),
⟨⟨(by(try dsimp only at *);exact Nat.le_refl _)⟩,
(by(try dsimp only at *);exact rr)⟩,
⟨rl,rr⟩,
⟨rl,rr⟩,
⟨rfl,rfl,rfl,rfl,rfl,rfl,trivial,rfl,rfl,rfl,rfl,rfl,rfl,rfl,rfl,rfl,rfl,rfl,rfl,trivial⟩,trivial⟩,
fun x18=>fun h19=>⟨fun g20=>have h20:=dT g20;⟨⟨(by(try dsimp only at *);omega),
(by(try dsimp only at *);omega)⟩,
(by(try dsimp only at *);omega),
fun g21=>have h21:=dT g21;⟨(CRd.r (dcL x1 x18)),
(by(try dsimp only at *);exact(dcL_ok h2 _).r),
⟨⟨rfl,rfl⟩,trivial⟩,
⟨⟨⟨rfl,rfl⟩,rfl,trivial⟩,
⟨rl,rr⟩,trivial⟩,
⟨(by(try dsimp only at *);omega),
(by(try dsimp only at *);exact fs_lt h20)⟩,
(x18+(1:Nat)),
(by(try dsimp only at *);omega),
(by(try dsimp only at *);omega),
⟨⟨rfl,rfl⟩,
⟨rfl,rfl⟩,
⟨rfl,rfl⟩,rfl,
(by(try dsimp only at *);omega),rfl,rfl,rfl,
⟨rfl,rfl,rfl,rfl,rfl,rfl,trivial,rfl,rfl,rfl,rfl,rfl,rfl,rfl,rfl,rfl,rfl,rfl,rfl,trivial⟩,rfl,rfl,rfl,rfl,
⟨rfl,rfl⟩,rfl,
⟨rfl,rfl⟩,
⟨rfl,rfl⟩,trivial⟩,
⟨⟨(by(try dsimp only at *);(rw[dc_4 h20 h21])),
(by(try dsimp only at *);(rw[dc_4 h20 h21]))⟩,
(by(try dsimp only at *);(rw[dc_4 h20 h21])),trivial⟩,
⟨⟨(by(try dsimp only at *);(rw[dc_4 h20 h21];exact Nat.le_refl _))⟩,
(by(try dsimp only at *);(rw[dc_4 h20 h21];exact rr))⟩,
⟨(by(try dsimp only at *);(rw[dc_4 h20 h21])),
(by(try dsimp only at *);(rw[dc_4 h20 h21])),
(by(try dsimp only at *);(rw[dc_4 h20 h21])),
(by(try dsimp only at *);(rw[dc_4 h20 h21])),
(by(try dsimp only at *);(rw[dc_4 h20 h21])),
(by(try dsimp only at *);(rw[dc_4 h20 h21])),
⟨rfl,
(by(try dsimp only at *);(rw[dc_4 h20 h21]))⟩,
(by(try dsimp only at *);(rw[dc_4 h20 h21])),
(by(try dsimp only at *);(rw[dc_4 h20 h21])),
(by(try dsimp only at *);(rw[dc_4 h20 h21])),
(by(try dsimp only at *);(rw[dc_4 h20 h21])),
(by(try dsimp only at *);(rw[dc_4 h20 h21])),
(by(try dsimp only at *);(rw[dc_4 h20 h21])),
(by(try dsimp only at *);(rw[dc_4 h20 h21])),
(by(try dsimp only at *);(rw[dc_4 h20 h21])),
(by(try dsimp only at *);(rw[dc_4 h20 h21])),
(by(try dsimp only at *);(rw[dc_4 h20 h21])),
(by(try dsimp only at *);(rw[dc_4 h20 h21])),
(by(try dsimp only at *);(rw[dc_4 h20 h21])),trivial⟩,
⟨⟨(by(try dsimp only at *);(rw[dc_4 h20 h21];exact Nat.le_refl _))⟩,
(by(try dsimp only at *);(rw[dc_4 h20 h21];exact rr))⟩,
⟨rl,rr⟩,
⟨rl,rr⟩,
⟨rl,rr⟩,
⟨rfl,rfl,rfl,rfl,rfl,rfl,trivial,rfl,rfl,rfl,rfl,rfl,rfl,rfl,rfl,rfl,rfl,rfl,rfl,trivial⟩,trivial⟩,
fun g24=>have h24:=dF g24;⟨fun g25=>have h25:=dT g25;⟨(CRd.r (dcL x1 x18)),
(by(try dsimp only at *);exact(dcL_ok h2 _).r),
⟨⟨rfl,rfl⟩,trivial⟩,
⟨⟨⟨rfl,rfl⟩,rfl,trivial⟩,
⟨rl,rr⟩,trivial⟩,
⟨(by(try dsimp only at *);omega),
(by(try dsimp only at *);exact fs_lt h20)⟩,
(x18+(1:Nat)),
(by(try dsimp only at *);omega),
(by(try dsimp only at *);omega),
⟨⟨rfl,rfl⟩,
⟨rfl,rfl⟩,
⟨rfl,rfl⟩,rfl,
(by(try dsimp only at *);omega),rfl,rfl,rfl,
⟨rfl,rfl,rfl,rfl,rfl,rfl,trivial,rfl,rfl,rfl,rfl,rfl,rfl,rfl,rfl,rfl,rfl,rfl,rfl,trivial⟩,rfl,rfl,rfl,rfl,
⟨rfl,rfl⟩,rfl,
⟨rfl,rfl⟩,
⟨rfl,rfl⟩,trivial⟩,
⟨⟨(by(try dsimp only at *);(rw[dc_5 h20 h24 h25])),
(by(try dsimp only at *);(rw[dc_5 h20 h24 h25]))⟩,
(by(try dsimp only at *);(rw[dc_5 h20 h24 h25])),trivial⟩,
⟨⟨(by(try dsimp only at *);(rw[dc_5 h20 h24 h25];exact Nat.le_refl _))⟩,
(by(try dsimp only at *);(rw[dc_5 h20 h24 h25];exact rr))⟩,
⟨(by(try dsimp only at *);(rw[dc_5 h20 h24 h25])),
(by(try dsimp only at *);(rw[dc_5 h20 h24 h25])),
(by(try dsimp only at *);(rw[dc_5 h20 h24 h25])),
(by(try dsimp only at *);(rw[dc_5 h20 h24 h25])),
(by(try dsimp only at *);(rw[dc_5 h20 h24 h25])),
(by(try dsimp only at *);(rw[dc_5 h20 h24 h25])),
⟨rfl,
(by(try dsimp only at *);(rw[dc_5 h20 h24 h25]))⟩,
(by(try dsimp only at *);(rw[dc_5 h20 h24 h25])),
(by(try dsimp only at *);(rw[dc_5 h20 h24 h25])),
(by(try dsimp only at *);(rw[dc_5 h20 h24 h25])),
(by(try dsimp only at *);(rw[dc_5 h20 h24 h25])),
(by(try dsimp only at *);(rw[dc_5 h20 h24 h25])),
(by(try dsimp only at *);(rw[dc_5 h20 h24 h25])),
(by(try dsimp only at *);(rw[dc_5 h20 h24 h25])),
(by(try dsimp only at *);(rw[dc_5 h20 h24 h25])),
(by(try dsimp only at *);(rw[dc_5 h20 h24 h25])),
(by(try dsimp only at *);(rw[dc_5 h20 h24 h25])),
(by(try dsimp only at *);(rw[dc_5 h20 h24 h25])),
(by(try dsimp only at *);(rw[dc_5 h20 h24 h25])),trivial⟩,
⟨⟨(by(try dsimp only at *);(rw[dc_5 h20 h24 h25];exact Nat.le_refl _))⟩,
(by(try dsimp only at *);(rw[dc_5 h20 h24 h25];exact rr))⟩,
⟨rl,rr⟩,
⟨rl,rr⟩,
⟨rl,rr⟩,
⟨rfl,rfl,rfl,rfl,rfl,rfl,trivial,rfl,rfl,rfl,rfl,rfl,rfl,rfl,rfl,rfl,rfl,rfl,rfl,trivial⟩,trivial⟩,
fun g28=>have h28:=dF g28;⟨(CRd.r (dcL x1 x18)),
(by(try dsimp only at *);exact(dcL_ok h2 _).r),
⟨⟨rfl,rfl⟩,trivial⟩,
⟨⟨⟨rfl,rfl⟩,rfl,trivial⟩,
⟨rl,rr⟩,trivial⟩,
((CRd.c (dcL x1 x18),List.getD (fsC (dcK x1)) ((0:Nat)+Int.toNat (↑x18:Int)) default,intV (CRd.r (dcL x1 x18)))),trivial,
⟨⟨rfl,rfl⟩,rfl,rfl,trivial⟩,
⟨⟨rfl,rfl,rfl,rfl,rfl,rfl,
⟨rfl,rfl⟩,rfl,rfl,rfl,rfl,rfl,rfl,rfl,rfl,rfl,rfl,rfl,rfl,trivial⟩,
⟨rl,rr⟩,trivial⟩,
⟨(by(try dsimp only at *);omega),
(by(try dsimp only at *);exact fs_lt h20)⟩,
(x18+(1:Nat)),
(by(try dsimp only at *);omega),
(by(try dsimp only at *);omega),
⟨⟨rfl,rfl⟩,
⟨rfl,rfl⟩,
⟨rfl,rfl⟩,rfl,
(by(try dsimp only at *);omega),rfl,rfl,rfl,
⟨rfl,rfl,rfl,rfl,rfl,rfl,trivial,rfl,rfl,rfl,rfl,rfl,rfl,rfl,rfl,rfl,rfl,rfl,rfl,trivial⟩,rfl,rfl,rfl,rfl,
⟨rfl,rfl⟩,rfl,
⟨rfl,rfl⟩,
⟨rfl,rfl⟩,trivial⟩,
⟨⟨(by(try dsimp only at *);(rw[dc_n h20 h24 h28])),
(by(try dsimp only at *);(rw[dc_n h20 h24 h28]))⟩,
(by(try dsimp only at *);(rw[dc_n h20 h24 h28])),trivial⟩,
⟨⟨(by(try dsimp only at *);(rw[dc_n h20 h24 h28];exact Nat.le_refl _))⟩,
(by(try dsimp only at *);(rw[dc_n h20 h24 h28];exact rr))⟩,
⟨(by(try dsimp only at *);(rw[dc_n h20 h24 h28];rfl)),
(by(try dsimp only at *);(rw[dc_n h20 h24 h28];rfl)),
(by(try dsimp only at *);(rw[dc_n h20 h24 h28];rfl)),
(by(try dsimp only at *);(rw[dc_n h20 h24 h28];rfl)),
(by(try dsimp only at *);(rw[dc_n h20 h24 h28];rfl)),
(by(try dsimp only at *);(rw[dc_n h20 h24 h28];rfl)),
⟨rfl,
(by(try dsimp only at *);(rw[dc_n h20 h24 h28];rfl))⟩,
(by(try dsimp only at *);(rw[dc_n h20 h24 h28];rfl)),
(by(try dsimp only at *);(rw[dc_n h20 h24 h28];rfl)),
(by(try dsimp only at *);(rw[dc_n h20 h24 h28];rfl)),
(by(try dsimp only at *);(rw[dc_n h20 h24 h28];rfl)),
(by(try dsimp only at *);(rw[dc_n h20 h24 h28];rfl)),
(by(try dsimp only at *);(rw[dc_n h20 h24 h28];rfl)),
(by(try dsimp only at *);(rw[dc_n h20 h24 h28];rfl)),
(by(try dsimp only at *);(rw[dc_n h20 h24 h28];rfl)),
(by(try dsimp only at *);(rw[dc_n h20 h24 h28];rfl)),
(by(try dsimp only at *);(rw[dc_n h20 h24 h28];rfl)),
(by(try dsimp only at *);(rw[dc_n h20 h24 h28];rfl)),
(by(try dsimp only at *);(rw[dc_n h20 h24 h28];rfl)),trivial⟩,
⟨⟨(by(try dsimp only at *);(rw[dc_n h20 h24 h28];exact Nat.le_refl _))⟩,
(by(try dsimp only at *);(rw[dc_n h20 h24 h28];exact rr))⟩,
⟨rl,rr⟩,
⟨rl,rr⟩,
⟨rl,rr⟩,
⟨rfl,rfl,rfl,rfl,rfl,rfl,trivial,rfl,rfl,rfl,rfl,rfl,rfl,rfl,rfl,rfl,rfl,rfl,rfl,trivial⟩,trivial⟩⟩⟩,
fun g32=>have h32:=dF g32;⟨(CRd.r (dcL x1 x18)),
(by(try dsimp only at *);exact(dcL_ok h2 _).r),
⟨⟨rfl,rfl⟩,trivial⟩,
⟨⟨⟨rfl,rfl⟩,rfl,trivial⟩,
⟨rl,rr⟩,trivial⟩,
fun g34=>have h34:=dT g34;⟨⟨⟨(by(try dsimp only at *);(rw[(dz_e h15 h32 h34).1])),
(by(try dsimp only at *);(rw[(dz_e h15 h32 h34).1])),
(by(try dsimp only at *);(rw[(dz_e h15 h32 h34).1])),
(by(try dsimp only at *);(rw[(dz_e h15 h32 h34).1])),
(by(try dsimp only at *);(rw[(dz_e h15 h32 h34).1])),
(by(try dsimp only at *);(rw[(dz_e h15 h32 h34).1])),
⟨trivial,rfl,
(by(try dsimp only at *);(rw[(dz_e h15 h32 h34).1];rfl))⟩,
(by(try dsimp only at *);(rw[(dz_e h15 h32 h34).1])),
(by(try dsimp only at *);(rw[(dz_e h15 h32 h34).1])),
(by(try dsimp only at *);(rw[(dz_e h15 h32 h34).1])),
(by(try dsimp only at *);(rw[(dz_e h15 h32 h34).1])),
(by(try dsimp only at *);(rw[(dz_e h15 h32 h34).1])),
(by(try dsimp only at *);(rw[(dz_e h15 h32 h34).1])),
(by(try dsimp only at *);(rw[(dz_e h15 h32 h34).1])),
(by(try dsimp only at *);(rw[(dz_e h15 h32 h34).1])),
(by(try dsimp only at *);(rw[(dz_e h15 h32 h34).1])),
(by(try dsimp only at *);(rw[(dz_e h15 h32 h34).1])),
(by(try dsimp only at *);(rw[(dz_e h15 h32 h34).1])),
(by(try dsimp only at *);(rw[(dz_e h15 h32 h34).1])),trivial⟩,
(by(try dsimp only at *);exact(dz_e h15 h32 h34).2),trivial⟩,
(by(try dsimp only at *);(rw[(dz_e h15 h32 h34).1];rfl)),trivial⟩,
fun g35=>have h35:=dF g35;⟨(CRd.c (dcL x1 x18)),
(by(try dsimp only at *);exact(dcL_ok h2 _).n),
⟨⟨rfl,rfl,rfl,rfl,rfl,rfl,
⟨rfl,rfl⟩,rfl,rfl,rfl,rfl,rfl,rfl,rfl,rfl,rfl,rfl,rfl,rfl,trivial⟩,trivial⟩,
⟨⟨rl,rr⟩,trivial⟩,
fun h37=>⟨⟨⟨(by(try dsimp only at *);(rw[(dz_v h15 h32 h35 h37).1])),
(by(try dsimp only at *);(rw[(dz_v h15 h32 h35 h37).1])),
(by(try dsimp only at *);(rw[(dz_v h15 h32 h35 h37).1])),
(by(try dsimp only at *);(rw[(dz_v h15 h32 h35 h37).1])),
(by(try dsimp only at *);(rw[(dz_v h15 h32 h35 h37).1])),
(by(try dsimp only at *);(rw[(dz_v h15 h32 h35 h37).1])),
⟨trivial,rfl,
(by(try dsimp only at *);(rw[(dz_v h15 h32 h35 h37).1];rfl))⟩,
(by(try dsimp only at *);(rw[(dz_v h15 h32 h35 h37).1])),
(by(try dsimp only at *);(rw[(dz_v h15 h32 h35 h37).1])),
(by(try dsimp only at *);(rw[(dz_v h15 h32 h35 h37).1])),
(by(try dsimp only at *);(rw[(dz_v h15 h32 h35 h37).1])),
(by(try dsimp only at *);(rw[(dz_v h15 h32 h35 h37).1])),
(by(try dsimp only at *);(rw[(dz_v h15 h32 h35 h37).1])),
(by(try dsimp only at *);(rw[(dz_v h15 h32 h35 h37).1])),
(by(try dsimp only at *);(rw[(dz_v h15 h32 h35 h37).1])),
(by(try dsimp only at *);(rw[(dz_v h15 h32 h35 h37).1])),
(by(try dsimp only at *);(rw[(dz_v h15 h32 h35 h37).1])),
(by(try dsimp only at *);(rw[(dz_v h15 h32 h35 h37).1])),
(by(try dsimp only at *);(rw[(dz_v h15 h32 h35 h37).1])),trivial⟩,
(by(try dsimp only at *);exact(dz_v h15 h32 h35 h37).2),trivial⟩,
(by(try dsimp only at *);(rw[(dz_v h15 h32 h35 h37).1];rfl)),trivial⟩,
fun h38=>⟨⟨⟨(by(try dsimp only at *);(rw[(dz_y h15 h32 h35 h38).1])),
(by(try dsimp only at *);(rw[(dz_y h15 h32 h35 h38).1])),
(by(try dsimp only at *);(rw[(dz_y h15 h32 h35 h38).1])),
(by(try dsimp only at *);(rw[(dz_y h15 h32 h35 h38).1])),
(by(try dsimp only at *);(rw[(dz_y h15 h32 h35 h38).1])),
(by(try dsimp only at *);(rw[(dz_y h15 h32 h35 h38).1])),
⟨rfl,
(by(try dsimp only at *);(rw[(dz_y h15 h32 h35 h38).1]))⟩,
(by(try dsimp only at *);(rw[(dz_y h15 h32 h35 h38).1])),
(by(try dsimp only at *);(rw[(dz_y h15 h32 h35 h38).1])),
(by(try dsimp only at *);(rw[(dz_y h15 h32 h35 h38).1])),
(by(try dsimp only at *);(rw[(dz_y h15 h32 h35 h38).1])),
(by(try dsimp only at *);(rw[(dz_y h15 h32 h35 h38).1])),
(by(try dsimp only at *);(rw[(dz_y h15 h32 h35 h38).1])),
(by(try dsimp only at *);(rw[(dz_y h15 h32 h35 h38).1])),
(by(try dsimp only at *);(rw[(dz_y h15 h32 h35 h38).1])),
(by(try dsimp only at *);(rw[(dz_y h15 h32 h35 h38).1])),
(by(try dsimp only at *);(rw[(dz_y h15 h32 h35 h38).1])),
(by(try dsimp only at *);(rw[(dz_y h15 h32 h35 h38).1])),
(by(try dsimp only at *);(rw[(dz_y h15 h32 h35 h38).1])),trivial⟩,
(by(try dsimp only at *);exact(dz_y h15 h32 h35 h38).2),trivial⟩,
⟨⟨(by(try dsimp only at *);(rw[(dz_y h15 h32 h35 h38).1];exact Nat.le_refl _))⟩,
(by(try dsimp only at *);(rw[(dz_y h15 h32 h35 h38).1];exact rr))⟩,trivial⟩⟩⟩⟩⟩⟩⟩)
theorem dc_good:Good Tryd.prog 18 dcC/\FnOk Tryd.prog 18:=good_of tok con3 (fn:=Tryd.f18) rfl (by decide+kernel) (fun _=>rfl) dc_keeps
end Go.Sym