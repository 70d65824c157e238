import Derived.Test.YtpnnecijeoipfaaGreatDoorNS
namespace Go.Sym
set_option linter.unusedVariables false
set_option linter.unusedSimpArgs false
section
variable {n:Nat} {q:MGx} (h:RgN n q.r) (ne:q.a≠q.b) (hin:mgIn q) (hop:mgOp q)
include h ne hin hop
theorem RgN.muP:RgP n (muX q):=by
 obtain⟨ha,hb⟩:=hin
 obtain⟨oa,ob⟩:=hop
 obtain⟨a1,a2,a3,a4⟩:=h.i _ ha
 obtain⟨b1,b2,b3,b4⟩:=h.i _ hb
 have oa':=isO_iff.1 oa
 have ob':=isO_iff.1 ob
 have la:=h.len6 ha
 have lb:=h.len6 hb
 have z:(muX q).x.id=q.b:=b1
 have ek:(muX q).r.ik=q.r.ik:=madd_old ha
 have iA:(muX q).r.i q.a=goneI (q.r.i q.a) q.b:=if_pos rfl
 have io:∀ k,k≠q.a->(muX q).r.i k=q.r.i k:=fun k hk=>if_neg hk
 have cY:∀ p,p∈(q.r.i q.a).calls->((muX q).r.c p)=movC (q.r.c p) q.b:=fun p hp=>if_pos hp
 have cN:∀ p,¬ p∈(q.r.i q.a).calls->((muX q).r.c p)=q.r.c p:=fun p hp=>if_neg hp
 have hY:∀ u,u∈(q.r.i q.a).units->(muX q).r.h u=q.b:=fun u hu=>if_pos hu
 have hN:∀ u,¬ u∈(q.r.i q.a).units->(muX q).r.h u=q.r.h u:=fun u hu=>if_neg hu
 have cinc:∀ p,p∈q.r.ck->(((muX q).r.c p).inc=q.b↔p∈(q.r.i q.b).calls∨p∈(q.r.i q.a).calls):=fun p hp=>by
  by_cases e:p∈(q.r.i q.a).calls
  ·rw[cY p e];exact⟨fun _=>.inr e,fun _=>rfl⟩
  ·rw[cN p e,h.m _ hb p]
   exact⟨fun x=>.inl ⟨hp,x⟩,fun x=>x.elim (·.2) fun y=>absurd y e⟩
 have hinc:∀ u,u∈q.r.hk->((muX q).r.h u=q.b↔u∈(q.r.i q.b).units∨u∈(q.r.i q.a).units):=fun u hu=>by
  by_cases e:u∈(q.r.i q.a).units
  ·rw[hY u e];exact⟨fun _=>.inr e,fun _=>rfl⟩
  ·rw[hN u e,h.v _ hb u]
   exact⟨fun x=>.inl ⟨hu,x⟩,fun x=>x.elim (·.2) fun y=>absurd y e⟩
 have und:((q.r.i q.b).units++(q.r.i q.a).units).Nodup:=by
  rw[List.nodup_append]
  exact⟨nodup_inc b4.units,nodup_inc a4.units,fun x hx y hy e=>ne (by rw[<- (h.unit ha hy).2.1,<- e];exact(h.unit hb hx).2.1)⟩
 have um:∀ u,u∈(muX q).x.units↔u∈(q.r.i q.b).units∨u∈(q.r.i q.a).units:=fun u=>by
  show u∈srtU ((q.r.i q.b).units++(q.r.i q.a).units)↔_
  rw[(srtU_perm _).mem_iff,List.mem_append]
 have hu3:∀ u∈(muX q).x.units,0<=u/\u<=3:=fun u hu=>((um u).1 hu).elim (fun x=>(h.unit hb x).2.2) fun x=>(h.unit ha x).2.2
 refine⟨h.cn,by rw[ek];exact h.kn,h.hn,h.cl,by rw[ek];exact h.il,fun k hk=>?_,⟨by rw[z,ek];exact hb,by rw[z];exact b2,by rw[z];exact b3⟩,uni_ok b4 (srtU_strict und) hu3,ob,?_,?_,?_,?_,fun p=>?_,fun u=>?_,fun k hk e=>?_,fun k hk e hm=>?_,fun k hk e hs=>?_,fun k hk e ho=>?_,fun k hk e p=>?_,fun u hu=>?_,fun k hk e u=>?_,?_⟩
 ·obtain⟨c1,c2,c3,c4⟩:=h.c k hk
  rw[ek]
  by_cases e:k∈(q.r.i q.a).calls
  ·rw[cY k e]
   have:=b4.id
   exact⟨⟨c1.call,⟨by show 0<=q.b;omega,by show q.b<=_;omega⟩,c1.urg,c1.code,c1.nodes,c1.len⟩,c2,c3,hb⟩
  ·rw[cN k e];exact⟨c1,c2,c3,c4⟩
 ·rw[z,io _ ne.symm];exact ob'.1
 ·show((q.r.i q.b).calls++(q.r.i q.a).calls).Nodup
  rw[List.nodup_append]
  exact⟨nodup_inc b4.calls,nodup_inc a4.calls,fun x hx y hy e=>ne (by rw[<- ((h.m _ ha y).1 hy).2,<- e];exact((h.m _ hb x).1 hx).2)⟩
 ·show(q.r.i q.b).calls++(q.r.i q.a).calls≠[]
  exact fun e=>(h.f _ hb ob).1 (List.append_eq_nil_iff.1 e).1
 ·show((q.r.i q.b).calls++(q.r.i q.a).calls).length<=12
  rw[List.length_append];omega
 ·show p∈(q.r.i q.b).calls++(q.r.i q.a).calls↔p∈q.r.ck/\_
  rw[List.mem_append,z]
  refine⟨fun x=>?_,fun x=>(cinc p x.1).1 x.2⟩
  have hp:p∈q.r.ck:=x.elim (fun y=>((h.m _ hb p).1 y).1) fun y=>((h.m _ ha p).1 y).1
  exact⟨hp,(cinc p hp).2 x⟩
 ·show _↔u∈q.r.hk/\_
  rw[um,z]
  refine⟨fun x=>?_,fun x=>(hinc u x.1).1 x.2⟩
  have hu:u∈q.r.hk:=x.elim (fun y=>((h.v _ hb u).1 y).1) fun y=>((h.v _ ha u).1 y).1
  exact⟨hu,(hinc u hu).2 x⟩
 ·rw[ek]at hk
  by_cases e2:k=q.a
  ·subst e2;rw[iA]
   exact⟨a1,a2,a3,⟨a4.id,a4.urg,a4.code,a4.nodes,a4.len,List.Pairwise.nil,fun c hc=>(by cases hc),Nat.zero_le _,List.Pairwise.nil,fun u hu=>(by cases hu),Nat.zero_le _⟩⟩
  ·rw[io k e2];exact h.i k hk
 ·rw[ek]at hk
  by_cases e2:k=q.a
  ·subst e2;rw[iA];rfl
  ·rw[io k e2]at hm ⊢;exact h.g k hk hm
 ·rw[ek]at hk
  by_cases e2:k=q.a
  ·subst e2;rw[iA];rfl
  ·rw[io k e2]at hs ⊢;exact h.s k hk hs
 ·rw[ek]at hk
  by_cases e2:k=q.a
  ·subst e2;rw[iA,isO_iff]at ho
   have:q.b=0:=ho.1
   omega
  ·rw[io k e2]at ho ⊢
   refine⟨(h.f k hk ho).1,?_⟩
   rw[show(q.r.i k).calls.map (muX q).r.c=(q.r.i k).calls.map q.r.c from List.map_congr_left fun p hp=>cN p fun hm=>e2 ?_]
   ·exact(h.f k hk ho).2
   ·exact((h.m k hk p).1 hp).2.symm.trans ((h.m _ ha p).1 hm).2
 ·rw[ek]at hk
  rw[z]at e
  show _↔p∈q.r.ck/\_
  by_cases e3:p∈(q.r.i q.a).calls
  ·rw[cY p e3]
   have e4:=((h.m _ ha p).1 e3)
   refine⟨fun x=>?_,fun x=>absurd x.2.symm e⟩
   by_cases e2:k=q.a
   ·subst e2;rw[iA]at x;cases x
   ·rw[io k e2]at x
    exact absurd (((h.m k hk p).1 x).2.symm.trans e4.2) e2
  ·rw[cN p e3]
   by_cases e2:k=q.a
   ·subst e2;rw[iA]
    exact⟨fun x=>(by cases x),fun x=>absurd ((h.m _ ha p).2 x) e3⟩
   ·rw[io k e2];exact h.m k hk p
 ·rw[ek]
  refine⟨?_,(h.u u hu).2⟩
  by_cases e:u∈(q.r.i q.a).units
  ·rw[hY u e];exact hb
  ·rw[hN u e];exact(h.u u hu).1
 ·rw[ek]at hk
  rw[z]at e
  show _↔u∈q.r.hk/\_
  by_cases e3:u∈(q.r.i q.a).units
  ·rw[hY u e3]
   have e4:=((h.v _ ha u).1 e3)
   refine⟨fun x=>?_,fun x=>absurd x.2.symm e⟩
   by_cases e2:k=q.a
   ·subst e2;rw[iA]at x;cases x
   ·rw[io k e2]at x
    exact absurd (((h.v k hk u).1 x).2.symm.trans e4.2) e2
  ·rw[hN u e3]
   by_cases e2:k=q.a
   ·subst e2;rw[iA]
    exact⟨fun x=>(by cases x),fun x=>absurd ((h.v _ ha u).2 x) e3⟩
   ·rw[io k e2];exact h.v k hk u
 ·refine root_ext (r:=q.r) (fun k hk=>by rw[ek];exact hk) (fun k hk=>?_) (fun k hk hn=>absurd (ek▸hk) hn) h.root
  by_cases e2:k=q.a
  ·subst e2
   refine .inr ⟨oa'.1,1,q.b,.up (by rw[ek];exact ha) ?_ ?_⟩
   ·rw[iA];show q.b≠0;omega
   ·rw[iA];exact .here (by rw[ek];exact hb) (by show((muX q).r.i q.b).merged=0;rw[io _ ne.symm];exact ob'.1)
  ·exact .inl (by rw[io k e2])
end
theorem RgN.mu {n:Nat} {q:MGx} (h:RgN n q.r):RgN n (muF q):=by
 unfold muF
 split
 ·exact h
 ·rename_i ne
  split
  ·rename_i hin
   split
   ·rename_i hop;exact(h.muP ne hin hop).reb
   ·exact h
  ·exact h
theorem RgN.muok {n:Nat} {q:MGx} (h:RgN n q.r):MUok q:=fun ne hin hop=>by
 have p:=h.muP ne hin hop
 have la:=h.len6 hin.1
 have lb:=h.len6 hin.2
 have ua:(mgA q).units.length<=7:=h.unit7 hin.1
 have us:=p.x.ulen
 refine⟨Nat.le_trans la (by omega),Nat.le_trans lb (by omega),?_,fun u hu=>((h.v _ hin.1 u).1 hu).1,fun k hk=>((h.m _ hin.1 k).1 hk).1,p.rrok⟩
 have e:(muX q).x.units.length=((mgB q).units++(mgA q).units).length:=srtU_len _
 rw[List.length_append]at e
 omega
section
variable {n:Nat} {q:SIx} (h:RgN n q.r) (hid:1<=q.id/\q.id<=n+1) (hn:n<=1000000) (hc:q.call∈q.r.ck) (hi:¬ q.id∈q.r.ik) (hno:¬ siNo q)
include h hid hn hc hi hno
theorem RgN.siP:RgP (n+1) (spX (siS q)):=by
 obtain⟨c1,c2,c3,c4⟩:=h.c _ hc
 obtain⟨a1,a2,a3,a4⟩:=h.i _ c4
 have ho:isO (siX q)=true:=by
  cases e:isO (siX q)with
  |true=>rfl
  |false=>exact absurd (.inl e) hno
 have h2:2<=(siX q).calls.length:=by have:¬ (siX q).calls.length<2:=fun p=>hno (.inr p);omega
 have ho':=isO_iff.1 ho
 have z:(spX (siS q)).x.id=(q.r.c q.call).inc:=a1
 have nz:(q.r.c q.call).inc≠q.id:=fun e=>hi (e▸c4)
 have mc:(movC (q.r.c q.call) q.id).call=q.call:=c2
 have ek:∀ k,k∈(spX (siS q)).r.ik↔k=q.id∨k∈q.r.ik:=fun k=>mem_madd
 have eck:(spX (siS q)).r.ck=q.r.ck:=by show madd1 q.r.ck (movC (q.r.c q.call) q.id).call=_;rw[mc];exact madd_old hc
 have i0:(spX (siS q)).r.i q.id=frm q.id (q.r.c q.call):=if_pos rfl
 have io:∀ k,k≠q.id->(spX (siS q)).r.i k=q.r.i k:=fun k hk=>if_neg hk
 have c0:(spX (siS q)).r.c q.call=movC (q.r.c q.call) q.id:=if_pos mc.symm
 have co:∀ p,p≠q.call->(spX (siS q)).r.c p=q.r.c p:=fun p hp=>if_neg (by show p≠(movC (q.r.c q.call) q.id).call;rw[mc];exact hp)
 have hij:∀ k∈q.r.ik,k≠q.id:=fun k hk e=>hi (e▸hk)
 have cx:q.call∈(siX q).calls:=(h.m _ c4 _).2 ⟨hc,rfl⟩
 have el:(spX (siS q)).l=outL (siX q).calls q.call:=by show outL (siX q).calls (q.r.c q.call).call=_;rw[c2]
 have hl:=h.len6 c4
 have hnd:(siX q).calls.Nodup:=nodup_inc a4.calls
 have hpl:=(outL_perm hnd cx).length_eq
 rw[List.length_append]at hpl
 have hl':(siX q).calls.length<=6:=hl
 refine⟨by rw[eck];exact h.cn,madd_nd h.kn,h.hn,by rw[eck];exact Nat.le_succ_of_le h.cl,Nat.le_trans madd_len (Nat.succ_le_succ h.il),fun k hk=>?_,⟨by rw[z];exact(ek _).2 (.inr c4),by rw[z];exact a2,by rw[z];show(q.r.c q.call).inc<=((n+1:Nat):Int);omega⟩,a4,ho,?_,?_,?_,?_,fun p=>?_,fun u=>?_,fun k hk e=>?_,fun k hk e hm=>?_,fun k hk e hs=>?_,fun k hk e ho=>?_,fun k hk e p=>?_,fun u hu=>?_,fun k hk e u=>?_,?_⟩
 ·rw[eck]at hk
  by_cases e:k=q.call
  ·subst e;rw[c0]
   exact⟨⟨c1.call,⟨by show 0<=q.id;omega,by show q.id<=_;omega⟩,c1.urg,c1.code,c1.nodes,c1.len⟩,c2,c3,(ek _).2 (.inl rfl)⟩
  ·rw[co k e];obtain⟨b1,b2,b3,b4⟩:=h.c k hk;exact⟨b1,b2,b3,(ek _).2 (.inr b4)⟩
 ·rw[z,io _ nz];exact ho'.1
 ·rw[el];exact hnd.filter _
 ·rw[el];intro e;rw[e]at hpl;simp at hpl;omega
 ·rw[el];have:=out_le (siX q).calls q.call;omega
 ·rw[el,outL_mem,eck,z]
  by_cases e:p=q.call
  ·subst e;rw[c0];exact⟨fun x=>absurd rfl x.2,fun x=>absurd x.2.symm nz⟩
  ·rw[co p e]
   refine⟨fun x=>(h.m _ c4 p).1 x.1,fun x=>⟨(h.m _ c4 p).2 x,e⟩⟩
 ·rw[z];exact h.v _ c4 u
 ·rcases(ek k).1 hk with e2|hk
  ·subst e2;rw[i0];exact⟨rfl,hid.1,hid.2,frm_ok c1 ⟨hid.1,by omega⟩⟩
  ·rw[io k (hij k hk)];obtain⟨a,b,c,d⟩:=h.i k hk;exact⟨a,b,by show k<=((n+1:Nat):Int);omega,d⟩
 ·rcases(ek k).1 hk with e2|hk
  ·subst e2;rw[i0]at hm;exact absurd rfl hm
  ·rw[io k (hij k hk)]at hm ⊢;exact h.g k hk hm
 ·rcases(ek k).1 hk with e2|hk
  ·subst e2;rw[i0];rfl
  ·rw[io k (hij k hk)]at hs ⊢;exact h.s k hk hs
 ·rcases(ek k).1 hk with e2|hk
  ·subst e2;rw[i0]
   refine⟨by simp[frm],?_⟩
   show rebI (frm q.id (q.r.c q.call)) [(spX (siS q)).r.c (q.r.c q.call).call]=_
   rw[c2,c0,reb_one];rfl
  ·rw[io k (hij k hk)]at ho ⊢
   refine⟨(h.f k hk ho).1,?_⟩
   rw[show(q.r.i k).calls.map (spX (siS q)).r.c=(q.r.i k).calls.map q.r.c from List.map_congr_left fun p hp=>co p fun e2=>e ?_]
   ·exact(h.f k hk ho).2
   ·rw[z,<- e2];exact((h.m k hk p).1 hp).2.symm
 ·rw[eck]
  rcases(ek k).1 hk with e2|hk
  ·subst e2;rw[i0]
   show p∈[(q.r.c q.call).call]↔_
   rw[List.mem_singleton,c2]
   by_cases e3:p=q.call
   ·subst e3;rw[c0];exact⟨fun _=>⟨hc,rfl⟩,fun _=>rfl⟩
   ·rw[co p e3];exact⟨fun x=>absurd x e3,fun x=>absurd (x.2▸(h.c p x.1).2.2.2) hi⟩
  ·rw[io k (hij k hk)]
   by_cases e3:p=q.call
   ·subst e3;rw[c0]
    exact⟨fun x=>absurd (by rw[z];exact((h.m k hk _).1 x).2.symm) e,fun x=>absurd x.2.symm (hij k hk)⟩
   ·rw[co p e3];exact h.m k hk p
 ·exact⟨(ek _).2 (.inr (h.u u hu).1),(h.u u hu).2⟩
 ·rcases(ek k).1 hk with e2|hk
  ·subst e2;rw[i0]
   exact⟨fun x=>(by cases x),fun x=>absurd (x.2▸(h.u u x.1).1) hi⟩
  ·rw[io k (hij k hk)];exact h.v k hk u
 ·refine root_ext (r:=q.r) (fun k hk=>(ek k).2 (.inr hk)) (fun k hk=>.inl (by rw[io k (hij k hk)])) (fun k hk hn=>?_) h.root
  rcases(ek k).1 hk with e2|hk
  ·subst e2;rw[i0];rfl
  ·exact absurd hk hn
end
theorem RgN.si {n:Nat} {q:SIx} (h:RgN n q.r) (hid:1<=q.id/\q.id<=n+1) (hn:n<=1000000):RgN (n+1) (siF q):=by
 unfold siF
 split
 ·rename_i g
  split
  ·exact h.mono (Nat.le_succ n)
  ·rename_i hi
   split
   ·split
    ·exact h.mono (Nat.le_succ n)
    ·rename_i hno
     exact(h.siP hid hn g.1 hi hno).reb
   ·exact h.mono (Nat.le_succ n)
 ·exact h.mono (Nat.le_succ n)
theorem RgN.siok {n:Nat} {q:SIx} (h:RgN n q.r) (hid:1<=q.id/\q.id<=n+1) (hn:n<=1000000) (hr:RootN q.r q.n q.inc q.a):SIok q:=by
 refine⟨⟨hid.1,by omega⟩,hr,fun hc=>(h.c _ hc).2.2.2,fun hc hi hno=>?_⟩
 have p:=h.siP hid hn hc hi hno
 exact⟨(h.c _ hc).1,⟨hid.1,by show q.id<=_;omega⟩,Nat.le_trans (h.len6 (h.c _ hc).2.2.2) (by omega),p.rrok⟩
end Go.Sym