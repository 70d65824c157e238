import Derived.Test.YtpnnecijeoipfaaGreatDoorNR
namespace Go.Sym
set_option linter.unusedVariables false
set_option linter.unusedSimpArgs false
theorem len3 {l:List Int} (h:l.Pairwise (· <·)) (h2:∀ k∈l,0<=k/\k<=3):l.length<=7:=by
 have:=rise_len l (-1) h fun k hk=>by have:=h2 k hk;omega
 omega
theorem srtU_strict {l:List Int} (hn:l.Nodup):(srtU l).Pairwise (· <·):=by
 have h:=(Sort.insertionSort_holds swoJ l.toArray 0 l.length (Nat.zero_le _) (by simp)).2
 have h2:=(srtU_perm l).nodup_iff.2 hn
 rw[List.nodup_iff_pairwise_ne]at h2
 have h1:(srtU l).Pairwise fun a b=>¬ b<a:=by
  rw[List.pairwise_iff_getElem]
  intro i j hi hj hij
  have hj':j<l.length:=by rw[<- srtU_len l];exact hj
  have this:ltJ (srtJ l.toArray)[j]! (srtJ l.toArray)[i]! =false:=h i j (Nat.zero_le _) hij hj'
  rw[arr_get _ i hi,arr_get _ j hj]at this
  exact of_decide_eq_false this
 exact(h1.and h2).imp fun {a b} q=>by have:=q.1;have:=q.2;omega
theorem RgN.unit {n:Nat} {r:Rg} (h:RgN n r) {k:Int} (hk:k∈r.ik) {u:Int} (hu:u∈(r.i k).units):u∈r.hk/\r.h u=k/\0<=u/\u<=3:=by
 have a:=(h.v k hk u).1 hu
 exact⟨a.1,a.2,(h.u u a.1).2⟩
theorem RgN.unit7 {n:Nat} {r:Rg} (h:RgN n r) {k:Int} (hk:k∈r.ik):(r.i k).units.length<=7:=
 len3 (h.i k hk).2.2.2.units fun u hu=>(h.unit hk hu).2.2
theorem uni_ok {x:Ic} {us:List Int} (h:IOk x) (h1:us.Pairwise (· <·)) (h2:∀ u∈us,0<=u/\u<=3):IOk (uniI x us):=
 ⟨h.id,h.urg,h.code,h.nodes,h.len,h.calls,h.callr,h.clen,h1,fun u hu=>by have:=h2 u hu;omega,by have:=len3 h1 h2;show us.length<=12;omega⟩
theorem RgN.setU {n:Nat} {r:Rg} (h:RgN n r) {id:Int} (hi:id∈r.ik) (ho:isO (r.i id)=true) {us hk:List Int} {hh:Int->Int} (h1:us.Pairwise (· <·)) (hn:hk.Nodup) (hu:∀ u∈hk,hh u∈r.ik/\0<=u/\u<=3)
  (hv:∀ k∈r.ik,∀ u,u∈(if k=id then us else(r.i k).units)↔u∈hk/\hh u=k):RgN n ⟨r.ck,r.c,r.ik,fun j=>if j=id then uniI (r.i id) us else r.i j,hk,hh⟩:=by
 have h3:∀ u∈us,0<=u/\u<=3:=fun u hus=>(hu u ((hv id hi u).1 (by rw[if_pos rfl];exact hus)).1).2
 refine⟨h.cn,h.kn,hn,h.cl,h.il,h.c,fun k hk=>?_,fun k hk hm=>?_,fun k hk hs=>?_,fun k hk ho=>?_,fun k hk q=>?_,hu,fun k hk u=>?_,?_⟩
 ·show(if k=id then uniI (r.i id) us else r.i k).id=k/\_
  obtain⟨a,b,c,d⟩:=h.i k hk
  by_cases e:k=id
  ·subst e;simp only[if_true];exact⟨a,b,c,uni_ok d h1 h3⟩
  ·simp only[if_neg e];exact⟨a,b,c,d⟩
 ·show(if k=id then uniI (r.i id) us else r.i k).calls=[]
  have hm:(if k=id then uniI (r.i id) us else r.i k).merged≠0:=hm
  by_cases e:k=id
  ·subst e;rw[if_pos rfl]at hm ⊢;exact h.g k hk hm
  ·rw[if_neg e]at hm ⊢;exact h.g k hk hm
 ·show(if k=id then uniI (r.i id) us else r.i k).units=[]
  have hs:isO (if k=id then uniI (r.i id) us else r.i k)=false:=hs
  by_cases e:k=id
  ·subst e;rw[if_pos rfl]at hs
   have hs:isO (r.i k)=false:=hs
   rw[ho]at hs;cases hs
  ·rw[if_neg e]at hs ⊢;exact h.s k hk hs
 ·show(if k=id then uniI (r.i id) us else r.i k).calls≠[]/\rebI (if k=id then uniI (r.i id) us else r.i k) ((if k=id then uniI (r.i id) us else r.i k).calls.map r.c)=(if k=id then uniI (r.i id) us else r.i k)
  have ho:isO (if k=id then uniI (r.i id) us else r.i k)=true:=ho
  by_cases e:k=id
  ·subst e;rw[if_pos rfl]at ho ⊢
   obtain⟨f1,f2⟩:=h.f k hk ho
   refine⟨f1,?_⟩
   rw[rebI_uni]
   show uniI (rebI (r.i k) ((r.i k).calls.map r.c)) us=_
   rw[f2]
  ·rw[if_neg e]at ho ⊢;exact h.f k hk ho
 ·show q∈(if k=id then uniI (r.i id) us else r.i k).calls↔_
  by_cases e:k=id
  ·subst e;rw[if_pos rfl];exact h.m k hk q
  ·rw[if_neg e];exact h.m k hk q
 ·show u∈(if k=id then uniI (r.i id) us else r.i k).units↔_
  rw[<- hv k hk u]
  by_cases e:k=id
  ·rw[if_pos e,if_pos e];rfl
  ·rw[if_neg e,if_neg e]
 ·refine root_ext (r:=r) (fun k hk=>hk) (fun k hk=>.inl ?_) (fun k hk hn=>absurd hk hn) h.root
  show(if k=id then uniI (r.i id) us else r.i k).merged=_
  by_cases e:k=id
  ·subst e;rw[if_pos rfl];rfl
  ·rw[if_neg e]
theorem put_uni {r:Rg} {id:Int} {us:List Int} (hi:id∈r.ik) (he:(r.i id).id=id):putI r (uniI (r.i id) us)=⟨r.ck,r.c,r.ik,fun j=>if j=id then uniI (r.i id) us else r.i j,r.hk,r.h⟩:=by
 have e:(uniI (r.i id) us).id=id:=he
 unfold putI
 rw[e,madd_old hi]
theorem RgN.au {n:Nat} {q:UNx} (h:RgN n q.r) (h3:0<=q.u/\q.u<=3):RgN n (auF q):=by
 unfold auF
 split
 ·rename_i g
  obtain⟨hi,ho,hu⟩:=g
  obtain⟨a,b,c,d⟩:=h.i _ hi
  unfold auI
  rw[put_uni hi a]
  have nu:¬ q.u∈(q.r.i q.id).units:=fun hm=>hu (h.unit hi hm).1
  have mem:∀ u,u∈srtU ((q.r.i q.id).units++[q.u])↔u∈(q.r.i q.id).units∨u=q.u:=fun u=>by rw[(srtU_perm _).mem_iff,List.mem_append,List.mem_singleton]
  refine h.setU (hk:=madd1 q.r.hk q.u) (hh:=fun k=>if k=q.u then q.id else q.r.h k) hi ho (srtU_strict ?_) (madd_nd h.hn) (fun u hu2=>?_) fun k hk u=>?_
  ·rw[List.nodup_append]
   exact⟨nodup_inc d.units,by simp,fun x hx y hy=>by rw[List.mem_singleton.1 hy];exact fun e=>nu (e▸hx)⟩
  ·rcases mem_madd.1 hu2 with e|e
   ·simp only[if_pos e];subst e;exact⟨hi,h3⟩
   ·by_cases e2:u=q.u
    ·simp only[if_pos e2];subst e2;exact⟨hi,h3⟩
    ·simp only[if_neg e2];exact h.u u e
  ·rw[mem_madd]
   by_cases e:k=q.id
   ·rw[if_pos e,mem]
    by_cases e2:u=q.u
    ·simp only[if_pos e2];exact⟨fun _=>⟨.inl e2,e.symm⟩,fun _=>.inr e2⟩
    ·simp only[if_neg e2];rw[e,h.v q.id hi u]
     exact⟨fun x=>x.elim (fun y=>⟨.inr y.1,y.2⟩) fun y=>absurd y e2,fun x=>.inl ⟨x.1.elim (fun y=>absurd y e2) _root_.id,x.2⟩⟩
   ·rw[if_neg e,h.v k hk u]
    by_cases e2:u=q.u
    ·simp only[if_pos e2];subst e2;exact⟨fun x=>absurd x.1 hu,fun x=>absurd x.2.symm e⟩
    ·simp only[if_neg e2]
     exact⟨fun x=>⟨.inr x.1,x.2⟩,fun x=>⟨x.1.elim (fun y=>absurd y e2) _root_.id,x.2⟩⟩
 ·exact h
theorem RgN.unok {n:Nat} {q:UNx} (h:RgN n q.r) (h3:0<=q.u/\q.u<=3):AUok q:=
 ⟨⟨h3.1,by omega⟩,fun hi=>(h.i _ hi).1,fun hi=>by have:=h.unit7 hi;omega⟩
theorem RgN.rl {n:Nat} {q:UNx} (h:RgN n q.r):RgN n (rlF q):=by
 unfold rlF
 split
 ·rename_i g
  obtain⟨hi,hu⟩:=g
  obtain⟨a,b,c,d⟩:=h.i _ hi
  have ho:isO (q.r.i q.id)=true:=by
   cases e:isO (q.r.i q.id)with
   |true=>rfl
   |false=>rw[h.s _ hi e]at hu;cases hu
  have hh:=(h.unit hi hu).2.1
  unfold rlI
  rw[put_uni hi a]
  refine h.setU (hk:=q.r.hk.erase q.u) (hh:=q.r.h) hi ho (List.Pairwise.filter _ d.units) (h.hn.erase _) (fun u hu2=>h.u u (List.mem_of_mem_erase hu2)) fun k hk u=>?_
  rw[h.hn.mem_erase_iff]
  by_cases e:k=q.id
  ·rw[if_pos e,outL_mem,e,h.v q.id hi u]
   exact⟨fun x=>⟨⟨x.2,x.1.1⟩,x.1.2⟩,fun x=>⟨⟨x.1.2,x.2⟩,x.1.1⟩⟩
  ·rw[if_neg e,h.v k hk u]
   exact⟨fun x=>⟨⟨fun y=>e (by rw[<- x.2,y,hh]),x.1⟩,x.2⟩,fun x=>⟨x.1.2,x.2⟩⟩
 ·exact h
theorem clH_nd {l:List Int}:∀ {hk:List Int},hk.Nodup->(clH hk l).Nodup:=by
 induction l with
 |nil=>intro hk h;exact h
 |cons a l ih=>intro hk h;exact ih (hk:=hk.erase a) (h.erase _)
theorem clH_mem {l:List Int} {u:Int}:∀ {hk:List Int},hk.Nodup->(u∈clH hk l↔u∈hk/\¬ u∈l):=by
 induction l with
 |nil=>intro hk h;exact⟨fun a=>⟨a,fun b=>by cases b⟩,fun a=>a.1⟩
 |cons a l ih=>
  intro hk h
  rw[show clH hk (a::l)=clH (hk.erase a) l from rfl,ih (h.erase a),h.mem_erase_iff,List.mem_cons]
  exact⟨fun x=>⟨x.1.2,fun y=>y.elim x.1.1 x.2⟩,fun x=>⟨⟨fun y=>x.2 (.inl y),x.1⟩,fun y=>x.2 (.inr y)⟩⟩
theorem RgN.cs {n:Nat} {q:GTx} (h:RgN n q.r):RgN n (clF q):=by
 unfold clF
 split
 ·rename_i g
  obtain⟨hi,ho⟩:=g
  obtain⟨a,b,c,d⟩:=h.i _ hi
  have ho':isO (q.r.i q.k)=true:=ho
  have cc:∀ p,(clC q.r.c (clX q).calls p).call=(q.r.c p).call/\(clC q.r.c (clX q).calls p).inc=(q.r.c p).inc:=fun p=>by unfold clC;split <;>exact⟨rfl,rfl⟩
  have ii:∀ k,k≠q.k->(clR q).i k=q.r.i k:=fun k hk=>if_neg hk
  have i0:(clR q).i q.k=shutI (q.r.i q.k):=if_pos rfl
  refine⟨h.cn,h.kn,clH_nd h.hn,h.cl,h.il,fun k hk=>?_,fun k hk=>?_,fun k hk hm=>?_,fun k hk hs=>?_,fun k hk ho=>?_,fun k hk p=>?_,fun u hu=>?_,fun k hk u=>?_,?_⟩
  ·obtain⟨a,b,c,d⟩:=h.c k hk
   show COk (clC q.r.c (clX q).calls k)/\(clC q.r.c (clX q).calls k).call=k/\k<=6/\(clC q.r.c (clX q).calls k).inc∈q.r.ik
   rw[(cc k).1,(cc k).2]
   refine⟨?_,b,c,d⟩
   unfold clC;split
   ·exact⟨a.call,a.inc,a.urg,a.code,a.nodes,a.len⟩
   ·exact a
  ·by_cases e:k=q.k
   ·subst e;rw[i0];exact⟨a,b,c,⟨d.id,d.urg,d.code,d.nodes,d.len,d.calls,d.callr,d.clen,List.Pairwise.nil,fun u hu=>(by cases hu),Nat.zero_le _⟩⟩
   ·rw[ii k e];exact h.i k hk
  ·by_cases e:k=q.k
   ·subst e;rw[i0]at hm;exact absurd (isO_iff.1 ho').1 hm
   ·rw[ii k e]at hm ⊢;exact h.g k hk hm
  ·by_cases e:k=q.k
   ·subst e;rw[i0];rfl
   ·rw[ii k e]at hs ⊢;exact h.s k hk hs
  ·by_cases e:k=q.k
   ·subst e;rw[i0,isO_iff]at ho;cases ho.2
   ·rw[ii k e]at ho ⊢
    refine⟨(h.f k hk ho).1,?_⟩
    rw[show(q.r.i k).calls.map (clR q).c=(q.r.i k).calls.map q.r.c from List.map_congr_left fun p hp=>if_neg fun hm=>e ?_]
    ·exact(h.f k hk ho).2
    ·exact((h.m k hk p).1 hp).2.symm.trans ((h.m _ hi p).1 hm).2
  ·show p∈((clR q).i k).calls↔p∈q.r.ck/\(clC q.r.c (clX q).calls p).inc=k
   rw[(cc p).2]
   by_cases e:k=q.k
   ·subst e;rw[i0];exact h.m _ hk p
   ·rw[ii k e];exact h.m k hk p
  ·exact h.u u ((clH_mem h.hn).1 hu).1
  ·show u∈((clR q).i k).units↔u∈clH q.r.hk (clX q).units/\q.r.h u=k
   rw[clH_mem h.hn]
   by_cases e:k=q.k
   ·subst e;rw[i0]
    exact⟨fun x=>(by cases x),fun x=>absurd ((h.v _ hi u).2 ⟨x.1.1,x.2⟩) x.1.2⟩
   ·rw[ii k e,h.v k hk u]
    exact⟨fun x=>⟨⟨x.1,fun y=>e (x.2.symm.trans (h.unit hi y).2.1)⟩,x.2⟩,fun x=>⟨x.1.1,x.2⟩⟩
  ·refine root_ext (r:=q.r) (fun k hk=>hk) (fun k hk=>.inl ?_) (fun k hk hn=>absurd hk hn) h.root
   by_cases e:k=q.k
   ·subst e;rw[i0];rfl
   ·rw[ii k e]
 ·exact h
theorem RgN.csok {n:Nat} {q:GTx} (h:RgN n q.r):CLok q:=
 ⟨fun hi=>Nat.le_trans (h.len6 hi) (by omega),fun hi=>Nat.le_trans (h.unit7 hi) (by omega),fun hi k hk=>((h.m _ hi k).1 hk).1⟩
end Go.Sym