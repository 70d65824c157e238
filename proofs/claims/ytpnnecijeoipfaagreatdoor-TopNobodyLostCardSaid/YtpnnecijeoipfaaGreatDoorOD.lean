import Derived.Test.YtpnnecijeoipfaaGreatDoorOC
namespace Go.Sym
set_option linter.unusedVariables false
set_option linter.unusedSimpArgs false
structure RgI (n:Nat) (r:Rg):Prop where
 c:∀ k∈r.ck,COk (r.c k)/\(r.c k).call=k/\k<=6/\(r.c k).inc∈r.ik/\k∈(r.i (r.c k).inc).calls
 i:∀ k∈r.ik,(r.i k).id=k/\1<=k/\k<=n/\(r.i k).merged=0/\(r.i k).closed=false/\(r.i k).units=[]/\IOk (r.i k)/\(r.i k).calls≠[]
 m:∀ k∈r.ik,∀ q∈(r.i k).calls,q∈r.ck/\(r.c q).inc=k
 f:∀ k∈r.ik,rebI (r.i k) ((r.i k).calls.map r.c)=r.i k
theorem RgI.no (n:Nat):RgI n noRg:=⟨fun k h=>(by cases h),fun k h=>(by cases h),fun k h=>(by cases h),fun k h=>(by cases h)⟩
theorem mem_madd {l:List Int} {k j:Int}:j∈madd1 l k↔j=k∨j∈l:=by
 unfold madd1
 split
 ·rename_i h
  exact⟨.inr,fun q=>q.elim (fun e=>e▸h) id⟩
 ·rw[List.mem_append,List.mem_singleton];exact⟨fun q=>q.elim .inr .inl,fun q=>q.elim .inr .inl⟩
theorem nodup_inc {l:List Int} (h:l.Pairwise (· <·)):l.Nodup:=List.nodup_iff_pairwise_ne.2 (h.imp fun q=>by omega)
theorem map_call {c:Int->CR} {l:List Int} (h:∀ k∈l,(c k).call=k):(l.map c).map (·.call)=l:=by
 rw[List.map_map]
 calc l.map ((·.call)∘c)=l.map id:=List.map_congr_left fun k hk=>h k hk
  _=l:=List.map_id _
theorem rise_len:∀(l:List Int) (a:Int),l.Pairwise (· <·)->(∀ k∈l,a<k/\k<=6)->(l.length:Int)<=max 0 (6-a)
 | [],a,_,_=>by simp;omega
 |x::l,a,h,h2=>by
  rw[List.pairwise_cons]at h
  have:=rise_len l x h.2 fun k hk=>⟨h.1 k hk,(h2 k (by simp[hk])).2⟩
  have:=h2 x (by simp)
  simp only[List.length_cons]
  omega
theorem len6 {l:List Int} (h:l.Pairwise (· <·)) (h2:∀ k∈l,1<=k/\k<=6):l.length<=6:=by
 have:=rise_len l 0 h fun k hk=>by have:=h2 k hk;omega
 omega
theorem RgI.lok {n:Nat} {r:Rg} (h:RgI n r) {k:Int} (hk:k∈r.ik):LOk ((r.i k).calls.map r.c)/\(r.i k).calls.length<=6:=by
 obtain⟨_,_,_,_,_,_,hi,hne⟩:=h.i k hk
 have hc:∀ q∈(r.i k).calls,q∈r.ck:=fun q hq=>(h.m k hk q hq).1
 have hl:=len6 hi.calls fun q hq=>⟨(hi.callr q hq).1,(h.c q (hc q hq)).2.2.1⟩
 refine⟨⟨by simpa using hne,by rw[List.length_map];omega,fun c hc'=>?_,?_⟩,hl⟩
 ·obtain⟨q,hq,rfl⟩:=List.mem_map.1 hc'
  exact(h.c q (hc q hq)).1
 ·rw[map_call fun q hq=>(h.c q (hc q hq)).2.1]
  exact nodup_inc hi.calls
theorem reb_again {x:Ic} {c:Int->CR} {l:List Int} (hn:l.Nodup) (hc:∀ k∈l,(c k).call=k) (hne:l≠[]) {y:Ic} (hy:y=rebI x (l.map c)):y.calls.Perm l/\rebI y (y.calls.map c)=y:=by
 have hne':l.map c≠[]:=by simpa using hne
 have hp:y.calls.Perm l:=by
  rw[hy,rebI_calls hne']
  have:=(srtC_perm (l.map c)).map (·.call)
  rwa [map_call hc]at this
 refine⟨hp,?_⟩
 obtain⟨a1,a2,a3,a4⟩:=rebI_core x (l.map c)
 rw[rebI_same (y:=x) _ (by rw[hy,a1]) (by rw[hy,a2]) (by rw[hy,a3]) (by rw[hy,a4])]
 rw[rebI_perm (hp.map c) (by rw[map_call fun k hk=>hc k (hp.mem_iff.1 hk)];exact hp.nodup_iff.2 hn)]
 exact hy.symm
theorem frm_ok {id:Int} {t:CR} (ht:COk t) (hid:1<=id/\id<=1099511627776):IOk (frm id t):=
 ⟨hid,ht.urg,ht.code,ht.nodes,ht.len,List.pairwise_singleton _ _,fun c hc=>by rw[List.mem_singleton.1 hc];exact ht.call,by show 1<=12;omega,List.Pairwise.nil,fun u hu=>(by cases hu),Nat.zero_le _⟩
theorem reb_one (x:Ic) (c:CR):rebI x [c]=fstI x c:=by
 unfold rebI
 rw[srtC_id (List.pairwise_singleton _ _)]
 rfl
theorem RgI.open_ {n:Nat} {q:OPx} (h:RgI n q.r) (ht:COk q.t) (h6:q.t.call<=6) (hid:1<=q.id/\q.id<=n) (hn:n<=1000000):RgI n (opF q):=by
 unfold opF
 split
 ·exact h
 ·rename_i hc
  split
  ·exact h
  ·rename_i hi
   have hcj:∀ k∈q.r.ck,k≠q.t.call:=fun k hk e=>hc (e▸hk)
   have hij:∀ k∈q.r.ik,k≠q.id:=fun k hk e=>hi (e▸hk)
   have tk:(taken q).call=q.t.call:=rfl
   refine⟨fun k hk=>?_,fun k hk=>?_,fun k hk p hp=>?_,fun k hk=>?_⟩
   ·rcases mem_madd.1 hk with e|hk
    ·have e:k=q.t.call:=e
     subst e
     have e1:(putI (putC q.r (taken q)) (frm q.id q.t)).c q.t.call=taken q:=if_pos rfl
     rw[e1]
     refine⟨⟨ht.call,⟨by show 0<=q.id;omega,by show q.id<=_;omega⟩,ht.urg,ht.code,ht.nodes,ht.len⟩,rfl,h6,mem_madd.2 (.inl rfl),?_⟩
     show q.t.call∈(if q.id=q.id then frm q.id q.t else _).calls
     rw[if_pos rfl];exact List.mem_singleton.2 rfl
    ·obtain⟨a,b,c,d,e⟩:=h.c k hk
     have e1:(putI (putC q.r (taken q)) (frm q.id q.t)).c k=q.r.c k:=if_neg (hcj k hk)
     rw[e1]
     refine⟨a,b,c,mem_madd.2 (.inr d),?_⟩
     show k∈(if(q.r.c k).inc=q.id then frm q.id q.t else q.r.i (q.r.c k).inc).calls
     rw[if_neg (hij _ d)];exact e
   ·rcases mem_madd.1 hk with e|hk
    ·have e:k=q.id:=e
     subst e
     have e1:(putI (putC q.r (taken q)) (frm q.id q.t)).i q.id=frm q.id q.t:=if_pos rfl
     rw[e1]
     exact⟨rfl,hid.1,hid.2,rfl,rfl,rfl,frm_ok ht ⟨hid.1,by omega⟩,by simp[frm]⟩
    ·have e1:(putI (putC q.r (taken q)) (frm q.id q.t)).i k=q.r.i k:=if_neg (hij k hk)
     rw[e1]
     exact h.i k hk
   ·rcases mem_madd.1 hk with e|hk
    ·have e:k=q.id:=e
     subst e
     have e1:(putI (putC q.r (taken q)) (frm q.id q.t)).i q.id=frm q.id q.t:=if_pos rfl
     rw[e1]at hp
     rw[List.mem_singleton.1 hp]
     have e2:(putI (putC q.r (taken q)) (frm q.id q.t)).c q.t.call=taken q:=if_pos rfl
     rw[e2]
     exact⟨mem_madd.2 (.inl rfl),rfl⟩
    ·have e1:(putI (putC q.r (taken q)) (frm q.id q.t)).i k=q.r.i k:=if_neg (hij k hk)
     rw[e1]at hp
     obtain⟨a,b⟩:=h.m k hk p hp
     have e2:(putI (putC q.r (taken q)) (frm q.id q.t)).c p=q.r.c p:=if_neg (hcj p a)
     rw[e2]
     exact⟨mem_madd.2 (.inr a),b⟩
   ·rcases mem_madd.1 hk with e|hk
    ·have e:k=q.id:=e
     subst e
     have e1:(putI (putC q.r (taken q)) (frm q.id q.t)).i q.id=frm q.id q.t:=if_pos rfl
     have e2:(putI (putC q.r (taken q)) (frm q.id q.t)).c q.t.call=taken q:=if_pos rfl
     rw[e1]
     show rebI (frm q.id q.t) [(putI (putC q.r (taken q)) (frm q.id q.t)).c q.t.call]=_
     rw[e2,reb_one];rfl
    ·have e1:(putI (putC q.r (taken q)) (frm q.id q.t)).i k=q.r.i k:=if_neg (hij k hk)
     rw[e1]
     have e2:(q.r.i k).calls.map (putI (putC q.r (taken q)) (frm q.id q.t)).c=(q.r.i k).calls.map q.r.c:=List.map_congr_left fun p hp=>if_neg (hcj p (h.m k hk p hp).1)
     rw[e2]
     exact h.f k hk
theorem RgI.adX_ok {n:Nat} {q:OPx} (h:RgI n q.r) (ht:COk q.t) (h6:q.t.call<=6) (hid:1<=q.id/\q.id<=1000000) (hc:¬ q.t.call∈q.r.ck) (hi:q.id∈q.r.ik):
  RRok (adX q)/\(∀ k∈(adX q).l,((adX q).r.c k).call=k)/\(adX q).l.Nodup:=by
 obtain⟨_,_,_,hm,_,_,hio,hne⟩:=h.i q.id hi
 have hcj:∀ k∈q.r.ck,k≠q.t.call:=fun k hk e=>hc (e▸hk)
 have hin:∀ k∈(q.r.i q.id).calls,k∈q.r.ck:=fun k hk=>(h.m q.id hi k hk).1
 have hl:=(h.lok hi).2
 have hcall:∀ k∈(adX q).l,((adX q).r.c k).call=k/\COk ((adX q).r.c k)/\k∈(adX q).r.ck:=by
  intro k hk
  rcases List.mem_append.1 hk with hk|hk
  ·have e2:(adX q).r.c k=q.r.c k:=if_neg (hcj k (hin k hk))
   rw[e2]
   exact⟨(h.c k (hin k hk)).2.1,(h.c k (hin k hk)).1,mem_madd.2 (.inr (hin k hk))⟩
  ·rw[List.mem_singleton.1 hk]
   have e2:(adX q).r.c q.t.call=taken q:=if_pos rfl
   rw[e2]
   exact⟨rfl,⟨ht.call,⟨by show 0<=q.id;omega,by show q.id<=_;omega⟩,ht.urg,ht.code,ht.nodes,ht.len⟩,mem_madd.2 (.inl rfl)⟩
 have hnd:(adX q).l.Nodup:=by
  show((q.r.i q.id).calls++[q.t.call]).Nodup
  rw[List.nodup_append]
  exact⟨nodup_inc hio.calls,by simp,fun a ha b hb=>by rw[List.mem_singleton.1 hb];exact hcj a (hin a ha)⟩
 refine⟨⟨hio,hm,⟨by simp[adX],?_,fun c hc'=>?_,?_⟩,fun k hk=>(hcall k hk).2.2⟩,fun k hk=>(hcall k hk).1,hnd⟩
 ·show(((q.r.i q.id).calls++[q.t.call]).map _).length<=12
  simp;omega
 ·obtain⟨k,hk,rfl⟩:=List.mem_map.1 hc'
  exact(hcall k hk).2.1
 ·rw[map_call fun k hk=>(hcall k hk).1];exact hnd
theorem RgI.add {n:Nat} {q:OPx} (h:RgI n q.r) (ht:COk q.t) (h6:q.t.call<=6) (hid:1<=q.id/\q.id<=1000000):RgI n (adF q):=by
 unfold adF
 split
 ·exact h
 ·rename_i hc
  split
  ·rename_i hi
   split
   ·obtain⟨hrr,hcall,hnd⟩:=h.adX_ok ht h6 hid hc hi
    obtain⟨j1,j2,j3,j4,j5,j6,hio,hne⟩:=h.i q.id hi
    have hcj:∀ k∈q.r.ck,k≠q.t.call:=fun k hk e=>hc (e▸hk)
    obtain⟨y,hy⟩:∃ y,y=rebI (q.r.i q.id) ((adX q).l.map (adX q).r.c):=⟨_,rfl⟩
    obtain⟨hp,hag⟩:=reb_again (x:=q.r.i q.id) hnd hcall (by simp[adX]) hy
    obtain⟨a1,a2,a3,a4⟩:=rebI_core (q.r.i q.id) ((adX q).l.map (adX q).r.c)
    rw[<- hy]at a1 a2 a3 a4
    have e0:rrF (adX q)=putI (adX q).r y:=by rw[hy];rfl
    have hyid:y.id=q.id:=by rw[a1,j1]
    have ik:∀ k,k∈(rrF (adX q)).ik↔k∈q.r.ik:=fun k=>by
     rw[e0]
     show k∈madd1 q.r.ik y.id↔_
     rw[hyid,mem_madd]
     exact⟨fun p=>p.elim (fun e=>e▸hi) id,.inr⟩
    have iy:(rrF (adX q)).i q.id=y:=by rw[e0];show(if q.id=y.id then y else _)=y;rw[if_pos hyid.symm]
    have io:∀ k,k≠q.id->(rrF (adX q)).i k=q.r.i k:=fun k hk=>by rw[e0];show(if k=y.id then y else q.r.i k)=_;rw[if_neg (by rw[hyid];exact hk)]
    have cy:(rrF (adX q)).c q.t.call=taken q:=by rw[e0];exact if_pos rfl
    have co:∀ k,k≠q.t.call->(rrF (adX q)).c k=q.r.c k:=fun k hk=>by rw[e0];exact if_neg hk
    have ck:∀ k,k∈(rrF (adX q)).ck↔k=q.t.call∨k∈q.r.ck:=fun k=>by rw[e0];exact mem_madd
    have cal:∀ k,k∈y.calls↔k∈(q.r.i q.id).calls∨k=q.t.call:=fun k=>by
     rw[hp.mem_iff]
     show k∈(q.r.i q.id).calls++[q.t.call]↔_
     rw[List.mem_append,List.mem_singleton]
    refine⟨fun k hk=>?_,fun k hk=>?_,fun k hk p hp=>?_,fun k hk=>?_⟩
    ·rcases(ck k).1 hk with e|hk
     ·subst e
      rw[cy]
      refine⟨⟨ht.call,⟨by show 0<=q.id;omega,by show q.id<=_;omega⟩,ht.urg,ht.code,ht.nodes,ht.len⟩,rfl,h6,(ik _).2 hi,?_⟩
      show q.t.call∈((rrF (adX q)).i q.id).calls
      rw[iy];exact(cal _).2 (.inr rfl)
     ·obtain⟨b1,b2,b3,b4,b5⟩:=h.c k hk
      rw[co k (hcj k hk)]
      refine⟨b1,b2,b3,(ik _).2 b4,?_⟩
      by_cases e:(q.r.c k).inc=q.id
      ·rw[e,iy];exact(cal k).2 (.inl (e▸b5))
      ·rw[io _ e];exact b5
    ·have hk':=(ik k).1 hk
     by_cases e:k=q.id
     ·subst e
      rw[iy]
      refine⟨hyid,j2,j3,by rw[a3,j4],by rw[a4,j5],by rw[a2,j6],?_,fun e=>?_⟩
      ·rw[hy];exact rebI_ok hio hrr.l
      ·have:=(cal q.t.call).2 (.inr rfl);rw[e]at this;cases this
     ·rw[io k e];exact h.i k hk'
    ·have hk':=(ik k).1 hk
     by_cases e:k=q.id
     ·subst e
      rw[iy]at hp
      rcases(cal p).1 hp with hp|hp
      ·obtain⟨b1,b2⟩:=h.m q.id hi p hp
       rw[co p (hcj p b1)]
       exact⟨(ck p).2 (.inr b1),b2⟩
      ·subst hp
       rw[cy];exact⟨(ck _).2 (.inl rfl),rfl⟩
     ·rw[io k e]at hp
      obtain⟨b1,b2⟩:=h.m k hk' p hp
      rw[co p (hcj p b1)]
      exact⟨(ck p).2 (.inr b1),b2⟩
    ·have hk':=(ik k).1 hk
     by_cases e:k=q.id
     ·subst e
      rw[iy]
      have:(rrF (adX q)).c=(adX q).r.c:=by rw[e0];rfl
      rw[this];exact hag
     ·rw[io k e]
      have e2:(q.r.i k).calls.map (rrF (adX q)).c=(q.r.i k).calls.map q.r.c:=List.map_congr_left fun p hp=>co p (hcj p (h.m k hk' p hp).1)
      rw[e2];exact h.f k hk'
   ·exact h
  ·exact h
theorem RgI.adok {n:Nat} {q:OPx} (h:RgI n q.r) (ht:COk q.t) (h6:q.t.call<=6) (hid:1<=q.id/\q.id<=1000000):ADok q:=
 ⟨ht,⟨hid.1,by omega⟩,fun hi=>by have:=(h.lok hi).2;omega,fun hc hi _=>(h.adX_ok ht h6 hid hc hi).1⟩
structure PMx where
 r:Rg
 c:Int
def pmI (q:PMx):Int:=(q.r.c q.c).inc
def pmX (q:PMx):Ic:=q.r.i (pmI q)
def pmS (q:PMx):SIx:=⟨q.r,q.c,pmI q,1000,0,pmI q⟩
def pmR1 (q:PMx):Rg:=rrF (spX (siS (pmS q)))
def pmM (q:PMx):MGx:=⟨pmR1 q,1000,pmI q⟩
def pmR2 (q:PMx):Rg:=rrF (mgX (pmM q))
structure PMok (q:PMx):Prop where
 r:RgI 40 q.r
 c:q.c∈q.r.ck
theorem outL_mem {l:List Int} {c k:Int}:k∈outL l c↔k∈l/\k≠c:=by unfold outL;rw[List.mem_filter,decide_eq_true_eq]
theorem outL_perm {l:List Int} {c:Int} (hn:l.Nodup) (hc:c∈l):(outL l c++[c]).Perm l:=by
 refine(List.perm_ext_iff_of_nodup ?_ hn).2 fun k=>?_
 ·rw[List.nodup_append]
  exact⟨hn.filter _,by simp,fun a ha b hb=>by rw[List.mem_singleton.1 hb];exact(outL_mem.1 ha).2⟩
 ·rw[List.mem_append,outL_mem,List.mem_singleton]
  constructor
  ·rintro(a|a)
   ·exact a.1
   ·rw[a];exact hc
  ·intro a
   by_cases e:k=c
   ·exact .inr e
   ·exact .inl ⟨a,e⟩
theorem pm_two {q:PMx} (hs:¬ siNo (pmS q)):2<=(pmX q).calls.length:=by
 unfold siNo at hs
 have:¬ (pmX q).calls.length<2:=fun p=>hs (.inr p)
 omega
section
variable {q:PMx} (h:PMok q)
include h
theorem PMok.in_:pmI q∈q.r.ik:=(h.r.c q.c h.c).2.2.2.1
theorem PMok.cx:q.c∈(pmX q).calls:=(h.r.c q.c h.c).2.2.2.2
theorem PMok.id:(pmX q).id=pmI q/\1<=pmI q/\pmI q<=40:=by obtain⟨a,b,c,_⟩:=h.r.i _ h.in_;exact⟨a,b,c⟩
theorem PMok.io:isO (pmX q)=true:=by
 obtain⟨_,_,_,a,b,_⟩:=h.r.i _ h.in_
 unfold isO
 have a:(pmX q).merged=0:=a
 have b:(pmX q).closed=false:=b
 rw[a,b];rfl
theorem PMok.no1000:¬ (1000:Int)∈q.r.ik:=fun hk=>by have:=(h.r.i _ hk).2.2.1;omega
theorem PMok.ne:(1000:Int)≠pmI q:=by have:=h.id;omega
theorem PMok.root:RootN q.r 0 (pmI q) (pmI q):=.here h.in_ (h.r.i _ h.in_).2.2.2.1
theorem PMok.stay:∀ k∈outL (pmX q).calls q.c,(spX (siS (pmS q))).r.c k=q.r.c k/\k∈q.r.ck/\k∈(spX (siS (pmS q))).r.ck:=by
 intro k hk
 obtain⟨a,b⟩:=outL_mem.1 hk
 have hin:=(h.r.m _ h.in_ k a).1
 have e:(movC (q.r.c q.c) 1000).call=q.c:=(h.r.c q.c h.c).2.1
 refine⟨?_,hin,mem_madd.2 (.inr hin)⟩
 show(if k=(movC (q.r.c q.c) 1000).call then _ else q.r.c k)=_
 rw[e,if_neg b]
theorem PMok.out:(spX (siS (pmS q))).l=outL (pmX q).calls q.c:=by
 show outL (pmX q).calls (q.r.c q.c).call=_
 rw[(h.r.c q.c h.c).2.1]
theorem PMok.outNe (hs:¬ siNo (pmS q)):outL (pmX q).calls q.c≠[]:=by
 intro e
 have:=(outL_perm (nodup_inc (h.r.i _ h.in_).2.2.2.2.2.2.1.calls) h.cx).length_eq
 have h2:=pm_two hs
 have h3:(pmX q).calls.length=(q.r.i (pmI q)).calls.length:=rfl
 have e':outL (q.r.i (pmI q)).calls q.c=[]:=e
 rw[e']at this
 simp at this
 omega
theorem PMok.spok (hs:¬ siNo (pmS q)):SPok (siS (pmS q)):=by
 obtain⟨j1,j2,j3,j4,j5,j6,hio,hne⟩:=h.r.i _ h.in_
 have hl:=(h.r.lok h.in_).2
 refine⟨(h.r.c q.c h.c).1,⟨by show(1:Int)<=1000;omega,by show(1000:Int)<=_;omega⟩,by show(pmX q).calls.length<=12;have:(pmX q).calls.length=(q.r.i (pmI q)).calls.length:=rfl;omega,⟨hio,j4,?_,fun k hk=>?_⟩⟩
 ·rw[h.out]
  have e:(outL (pmX q).calls q.c).map (spX (siS (pmS q))).r.c=(outL (pmX q).calls q.c).map q.r.c:=List.map_congr_left fun k hk=>(h.stay k hk).1
  rw[e]
  refine⟨by simpa using h.outNe hs,?_,fun c hc=>?_,?_⟩
  ·rw[List.length_map];have:=out_le (pmX q).calls q.c;have:(pmX q).calls.length=(q.r.i (pmI q)).calls.length:=rfl;omega
  ·obtain⟨k,hk,rfl⟩:=List.mem_map.1 hc
   exact(h.r.c k (h.stay k hk).2.1).1
  ·rw[map_call fun k hk=>(h.r.c k (h.stay k hk).2.1).2.1]
   exact(nodup_inc hio.calls).filter _
 ·rw[h.out]at hk
  exact(h.stay k hk).2.2
theorem PMok.siok:SIok (pmS q):=
 ⟨⟨by show(1:Int)<=1000;omega,by show(1000:Int)<=_;omega⟩,h.root,fun _=>h.in_,fun _ _ hs=>h.spok hs⟩
theorem PMok.si (hs:¬ siR (pmS q)=0):siNo (pmS q):=by
 refine Classical.not_not.1 fun hn=>hs ?_
 exact(si_0 (q:=pmS q) ⟨h.c,h.in_⟩ h.no1000 rfl hn).1
theorem PMok.y1:(pmR1 q).i (pmI q)=rebI (pmX q) ((outL (pmX q).calls q.c).map q.r.c)/\(pmR1 q).i 1000=frm 1000 (q.r.c q.c):=by
 have e:(rebI (pmX q) ((spX (siS (pmS q))).l.map (spX (siS (pmS q))).r.c)).id=pmI q:=by rw[(rebI_core _ _).1];exact h.id.1
 have e2:(outL (pmX q).calls q.c).map (spX (siS (pmS q))).r.c=(outL (pmX q).calls q.c).map q.r.c:=List.map_congr_left fun k hk=>(h.stay k hk).1
 constructor
 ·show(if pmI q=(rebI (pmX q) ((spX (siS (pmS q))).l.map (spX (siS (pmS q))).r.c)).id then rebI (pmX q) ((spX (siS (pmS q))).l.map (spX (siS (pmS q))).r.c)else _)=_
  rw[if_pos e.symm,h.out,e2]
 ·show(if(1000:Int)=(rebI (pmX q) ((spX (siS (pmS q))).l.map (spX (siS (pmS q))).r.c)).id then _ else(if(1000:Int)=1000 then frm 1000 (q.r.c q.c)else q.r.i 1000))=_
  rw[e,if_neg h.ne,if_pos rfl]
theorem PMok.c1 (k:Int):(pmR1 q).c k=if k=q.c then movC (q.r.c q.c) 1000 else q.r.c k:=by
 show(if k=(movC (q.r.c q.c) 1000).call then movC (q.r.c q.c) 1000 else q.r.c k)=_
 rw[show(movC (q.r.c q.c) 1000).call=q.c from(h.r.c q.c h.c).2.1]
theorem PMok.c2 (k:Int):mvC (pmI q) (pmR1 q).c [q.c] k=q.r.c k:=by
 unfold mvC
 rw[h.c1]
 by_cases e:k=q.c
 ·subst e
  rw[if_pos (by simp),if_pos rfl];rfl
 ·rw[if_neg (by simpa using e),if_neg e]
theorem PMok.fc:(frm 1000 (q.r.c q.c)).calls=[q.c]:=by show [(q.r.c q.c).call]=_;rw[(h.r.c q.c h.c).2.1]
theorem PMok.mga:mgA (pmM q)=frm 1000 (q.r.c q.c)/\mgB (pmM q)=rebI (pmX q) ((outL (pmX q).calls q.c).map q.r.c):=⟨h.y1.2,h.y1.1⟩
theorem PMok.mgx:(mgX (pmM q)).r.c=q.r.c:=by
 funext k
 show mvC (pmI q) (pmR1 q).c (mgA (pmM q)).calls k=_
 rw[h.mga.1,h.fc];exact h.c2 k
theorem PMok.backC:getC (pmR2 q) q.c=q.r.c q.c:=by
 rw[getC_in (show q.c∈(pmR2 q).ck from mem_madd.2 (.inr h.c))]
 show(mgX (pmM q)).r.c q.c=_
 rw[h.mgx]
end
end Go.Sym