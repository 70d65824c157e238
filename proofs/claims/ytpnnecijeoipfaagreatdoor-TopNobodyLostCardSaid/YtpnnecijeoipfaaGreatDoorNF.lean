import Derived.Test.YtpnnecijeoipfaaGreatDoorOD
import Derived.Test.YtpnnecijeoipfaaGreatDoorNM
import Derived.Test.YtpnnecijeoipfaaGreatDoorND
namespace Go.Sym
set_option linter.unusedVariables false
set_option linter.unusedSimpArgs false
structure RgN (n:Nat) (r:Rg):Prop where
 cn:r.ck.Nodup
 kn:r.ik.Nodup
 hn:r.hk.Nodup
 cl:r.ck.length<=n
 il:r.ik.length<=n
 c:∀ k∈r.ck,COk (r.c k)/\(r.c k).call=k/\k<=6/\(r.c k).inc∈r.ik
 i:∀ k∈r.ik,(r.i k).id=k/\1<=k/\k<=n/\IOk (r.i k)
 g:∀ k∈r.ik,(r.i k).merged≠0->(r.i k).calls=[]
 s:∀ k∈r.ik,isO (r.i k)=false->(r.i k).units=[]
 f:∀ k∈r.ik,isO (r.i k)=true->(r.i k).calls≠[]/\rebI (r.i k) ((r.i k).calls.map r.c)=r.i k
 m:∀ k∈r.ik,∀ q,q∈(r.i k).calls↔q∈r.ck/\(r.c q).inc=k
 u:∀ u∈r.hk,r.h u∈r.ik/\0<=u/\u<=3
 v:∀ k∈r.ik,∀ u,u∈(r.i k).units↔u∈r.hk/\r.h u=k
 root:∀ k,∃ n a,RootN r n k a
theorem RgN.no:RgN 0 noRg:=⟨List.nodup_nil,List.nodup_nil,List.nodup_nil,Nat.le_refl _,Nat.le_refl _,fun k h=>(by cases h),fun k h=>(by cases h),fun k h=>(by cases h),fun k h=>(by cases h),fun k h=>(by cases h),fun k h=>(by cases h),fun k h=>(by cases h),fun k h=>(by cases h),fun k=>⟨0,0,.out fun h=>by cases h⟩⟩
theorem RgN.len6 {n:Nat} {r:Rg} (h:RgN n r) {k:Int} (hk:k∈r.ik):(r.i k).calls.length<=6:=by
 obtain⟨_,_,_,hi⟩:=h.i k hk
 exact Go.Sym.len6 hi.calls fun q hq=>⟨(hi.callr q hq).1,(h.c q ((h.m k hk q).1 hq).1).2.2.1⟩
theorem RgN.lok {n:Nat} {r:Rg} (h:RgN n r) {k:Int} (hk:k∈r.ik) (hne:(r.i k).calls≠[]):LOk ((r.i k).calls.map r.c):=by
 obtain⟨_,_,_,hi⟩:=h.i k hk
 have hc:∀ q∈(r.i k).calls,q∈r.ck:=fun q hq=>((h.m k hk q).1 hq).1
 have hl:=h.len6 hk
 refine⟨by simpa using hne,by rw[List.length_map];omega,fun c hc'=>?_,?_⟩
 ·obtain⟨q,hq,rfl⟩:=List.mem_map.1 hc'
  exact(h.c q (hc q hq)).1
 ·rw[map_call fun q hq=>(h.c q (hc q hq)).2.1]
  exact nodup_inc hi.calls
theorem RgN.rg {n:Nat} {r:Rg} (h:RgN n r) (hn:n<=1000):RgR r:=
 ⟨Nat.le_trans h.il hn,fun k hk=>by have:=h.i k hk;omega,fun k hk=>by have:=(h.i k hk).2.2.2;exact⟨this.len,Nat.le_trans this.clen (by omega),Nat.le_trans this.ulen (by omega)⟩,
 Nat.le_trans h.cl hn,fun k hk=>by have a:=(h.c k hk).1.call;have b:=(h.c k hk).2.1;omega,fun k hk=>(h.c k hk).1.len⟩
def zK (r:Rg) (k:Nat):Int:=(srtZ r.ik).getD k default
def xK (r:Rg) (k:Nat):Ic:=r.i (zK r k)
def oK (r:Rg) (k:Nat):List Int:=((srtZ r.ik).take k).flatMap fun z=>(r.i z).calls
def uK (r:Rg) (k:Nat):List Int:=((srtZ r.ik).take k).flatMap fun z=>(r.i z).units
theorem zK_eq {r:Rg} {k:Nat} (h:(k:Int)<r.ik.length):∃ hk:k<(srtZ r.ik).length,zK r k=(srtZ r.ik)[k]:=⟨by rw[srtZ_len];omega,by unfold zK;exact gd_eq _⟩
theorem zK_in {r:Rg} {k:Nat} (h:(k:Int)<r.ik.length):zK r k∈r.ik:=by
 obtain⟨hk,e⟩:=zK_eq h
 rw[e]
 exact(List.mergeSort_perm r.ik _).mem_iff.1 (List.getElem_mem hk)
theorem xK_at {r:Rg} {k:Nat} (h:(k:Int)<r.ik.length):(incsL r).getD (0+(k:Int).toNat) default=xK r k:=by
 obtain⟨hk,e⟩:=zK_eq h
 unfold xK
 rw[e,nat0]
 unfold incsL
 simp[List.getD_eq_getElem?_getD,List.getElem?_eq_getElem hk]
theorem fm_succ {r:Rg} {k:Nat} (h:(k:Int)<r.ik.length) (f:Ic->List Int):((srtZ r.ik).take (k+1)).flatMap (fun z=>f (r.i z))=((srtZ r.ik).take k).flatMap (fun z=>f (r.i z))++f (xK r k):=by
 obtain⟨hk,e⟩:=zK_eq h
 unfold xK
 rw[e,List.take_succ_eq_append_getElem hk,List.flatMap_append,List.flatMap_cons,List.flatMap_nil,List.append_nil]
theorem oK_succ {r:Rg} {k:Nat} (h:(k:Int)<r.ik.length):oK r (k+1)=oK r k++(xK r k).calls:=fm_succ h (·.calls)
theorem uK_succ {r:Rg} {k:Nat} (h:(k:Int)<r.ik.length):uK r (k+1)=uK r k++(xK r k).units:=fm_succ h (·.units)
theorem srtZ_nd {l:List Int} (h:l.Nodup):(srtZ l).Nodup:=(List.mergeSort_perm l _).nodup_iff.2 h
theorem zK_new {r:Rg} {k:Nat} (h:(k:Int)<r.ik.length) (hn:r.ik.Nodup):¬ zK r k∈(srtZ r.ik).take k:=by
 obtain⟨hk,e⟩:=zK_eq h
 rw[e]
 intro hm
 obtain⟨j,hj,e2⟩:=List.mem_iff_getElem.1 hm
 rw[List.length_take]at hj
 rw[List.getElem_take]at e2
 have:=(List.getElem_inj (srtZ_nd hn)).1 e2
 omega
theorem RgN.newC {n:Nat} {r:Rg} (h:RgN n r) {k j:Nat} (hk:(k:Int)<r.ik.length) (hj:(j:Int)<(xK r k).calls.length):¬ (xK r k).calls.getD j default∈oK r k++(xK r k).calls.take j:=by
 have hj':j<(xK r k).calls.length:=by omega
 have hin:(xK r k).calls.getD j default∈(xK r k).calls:=by rw[gd_eq hj'];exact List.getElem_mem _
 rw[List.mem_append]
 rintro(a|a)
 ·obtain⟨z,hz,hz2⟩:=List.mem_flatMap.1 a
  have hz3:z∈r.ik:=(List.mergeSort_perm r.ik _).mem_iff.1 (List.mem_of_mem_take hz)
  have e1:=((h.m z hz3 _).1 hz2).2
  have e2:=((h.m _ (zK_in hk) _).1 hin).2
  have:z=zK r k:=e1.symm.trans e2
  exact zK_new hk h.kn (this▸hz)
 ·have hn:=nodup_inc (h.i _ (zK_in hk)).2.2.2.calls
  rw[gd_eq hj']at a
  obtain⟨i,hi,e⟩:=List.mem_iff_getElem.1 a
  rw[List.length_take]at hi
  rw[List.getElem_take]at e
  have:=(List.getElem_inj hn).1 e
  omega
theorem RgN.newU {n:Nat} {r:Rg} (h:RgN n r) {k j:Nat} (hk:(k:Int)<r.ik.length) (hj:(j:Int)<(xK r k).units.length):¬ (xK r k).units.getD j default∈uK r k++(xK r k).units.take j:=by
 have hj':j<(xK r k).units.length:=by omega
 have hin:(xK r k).units.getD j default∈(xK r k).units:=by rw[gd_eq hj'];exact List.getElem_mem _
 rw[List.mem_append]
 rintro(a|a)
 ·obtain⟨z,hz,hz2⟩:=List.mem_flatMap.1 a
  have hz3:z∈r.ik:=(List.mergeSort_perm r.ik _).mem_iff.1 (List.mem_of_mem_take hz)
  have e1:=((h.v z hz3 _).1 hz2).2
  have e2:=((h.v _ (zK_in hk) _).1 hin).2
  have:z=zK r k:=e1.symm.trans e2
  exact zK_new hk h.kn (this▸hz)
 ·have hn:=nodup_inc (h.i _ (zK_in hk)).2.2.2.units
  rw[gd_eq hj']at a
  obtain⟨i,hi,e⟩:=List.mem_iff_getElem.1 a
  rw[List.length_take]at hi
  rw[List.getElem_take]at e
  have:=(List.getElem_inj hn).1 e
  omega
theorem oK_all {r:Rg} {k:Nat} (h:¬ (k:Int)<r.ik.length):oK r k=(srtZ r.ik).flatMap fun z=>(r.i z).calls:=by
 unfold oK;rw[List.take_of_length_le (by rw[srtZ_len];omega)]
theorem RgN.oN {n:Nat} {r:Rg} (h:RgN n r):∀ k,k<=r.ik.length->(oK r k).Nodup
 |0,_=>by unfold oK;simp
 |k+1,hk=>by
  have hk':(k:Int)<r.ik.length:=by omega
  rw[oK_succ hk',List.nodup_append]
  refine⟨h.oN k (by omega),nodup_inc (h.i _ (zK_in hk')).2.2.2.calls,fun a ha b hb e=>?_⟩
  obtain⟨j,hj,e2⟩:=List.mem_iff_getElem.1 hb
  refine h.newC hk' (j:=j) (by omega) (List.mem_append_left _ ?_)
  rw[gd_eq hj,e2,<- e]
  exact ha
theorem RgN.oMem {n:Nat} {r:Rg} (h:RgN n r) {k:Nat} (hk:¬ (k:Int)<r.ik.length) (c:Int):c∈oK r k↔c∈r.ck:=by
 rw[oK_all hk,List.mem_flatMap]
 constructor
 ·rintro⟨z,hz,hc⟩
  exact((h.m z ((List.mergeSort_perm r.ik _).mem_iff.1 hz) c).1 hc).1
 ·intro hc
  have:=(h.c c hc).2.2.2
  exact⟨_,(List.mergeSort_perm r.ik _).mem_iff.2 this,(h.m _ this c).2 ⟨hc,rfl⟩⟩
theorem RgN.oLen {n:Nat} {r:Rg} (h:RgN n r) {k:Nat} (hk:k<=r.ik.length) (hk2:¬ (k:Int)<r.ik.length):(oK r k).length=r.ck.length:=
 ((List.perm_ext_iff_of_nodup (h.oN k hk) h.cn).2 fun c=>h.oMem hk2 c).length_eq
theorem madd_new {l:List Int} {k:Int} (h:¬ k∈l):madd1 l k=l++[k]:=if_neg h
end Go.Sym