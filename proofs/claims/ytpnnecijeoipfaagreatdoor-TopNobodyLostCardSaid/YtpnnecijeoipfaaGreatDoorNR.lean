import Derived.Test.YtpnnecijeoipfaaGreatDoorNH
namespace Go.Sym
set_option linter.unusedVariables false
set_option linter.unusedSimpArgs false
theorem RgN.open_ {n:Nat} {q:OPx} (h:RgN n q.r) (ht:COk q.t) (h6:q.t.call<=6) (hid:1<=q.id/\q.id<=n+1) (hn:n<=1000000):RgN (n+1) (opF q):=by
 unfold opF
 split
 ·exact h.mono (Nat.le_succ n)
 ·rename_i hc
  split
  ·exact h.mono (Nat.le_succ n)
  ·rename_i hi
   have hcj:∀ k∈q.r.ck,k≠q.t.call:=fun k hk e=>hc (e▸hk)
   have hij:∀ k∈q.r.ik,k≠q.id:=fun k hk e=>hi (e▸hk)
   obtain⟨r',hr'⟩:∃ r',r'=putI (putC q.r (taken q)) (frm q.id q.t):=⟨_,rfl⟩
   have ck:∀ k,k∈r'.ck↔k=q.t.call∨k∈q.r.ck:=fun k=>by rw[hr'];exact mem_madd
   have ik:∀ k,k∈r'.ik↔k=q.id∨k∈q.r.ik:=fun k=>by rw[hr'];exact mem_madd
   have c0:r'.c q.t.call=taken q:=by rw[hr'];exact if_pos rfl
   have co:∀ k,k≠q.t.call->r'.c k=q.r.c k:=fun k hk=>by rw[hr'];exact if_neg hk
   have i0:r'.i q.id=frm q.id q.t:=by rw[hr'];exact if_pos rfl
   have io:∀ k,k≠q.id->r'.i k=q.r.i k:=fun k hk=>by rw[hr'];exact if_neg hk
   have hk':r'.hk=q.r.hk:=by rw[hr'];rfl
   have hh:r'.h=q.r.h:=by rw[hr'];rfl
   have cn:r'.ck.Nodup:=by rw[hr'];exact madd_nd h.cn
   have kn:r'.ik.Nodup:=by rw[hr'];exact madd_nd h.kn
   have cl:r'.ck.length<=n+1:=by rw[hr'];exact Nat.le_trans madd_len (Nat.succ_le_succ h.cl)
   have il:r'.ik.length<=n+1:=by rw[hr'];exact Nat.le_trans madd_len (Nat.succ_le_succ h.il)
   rw[<- hr']
   clear hr'
   refine⟨cn,kn,by rw[hk'];exact h.hn,cl,il,fun k hk=>?_,fun k hk=>?_,fun k hk hm=>?_,fun k hk hs=>?_,fun k hk ho=>?_,fun k hk p=>?_,fun u hu=>?_,fun k hk u=>?_,?_⟩
   ·rcases(ck k).1 hk with e|hk
    ·subst e;rw[c0]
     exact⟨⟨ht.call,⟨by show 0<=q.id;omega,by show q.id<=_;omega⟩,ht.urg,ht.code,ht.nodes,ht.len⟩,rfl,h6,(ik _).2 (.inl rfl)⟩
    ·obtain⟨a,b,c,d⟩:=h.c k hk
     rw[co k (hcj k hk)]
     exact⟨a,b,c,(ik _).2 (.inr d)⟩
   ·rcases(ik k).1 hk with e|hk
    ·subst e;rw[i0];exact⟨rfl,hid.1,hid.2,frm_ok ht ⟨hid.1,by omega⟩⟩
    ·rw[io k (hij k hk)];obtain⟨a,b,c,d⟩:=h.i k hk;exact⟨a,b,by omega,d⟩
   ·rcases(ik k).1 hk with e|hk
    ·subst e;rw[i0]at hm;exact absurd rfl hm
    ·rw[io k (hij k hk)]at hm ⊢;exact h.g k hk hm
   ·rcases(ik k).1 hk with e|hk
    ·subst e;rw[i0];rfl
    ·rw[io k (hij k hk)]at hs ⊢;exact h.s k hk hs
   ·rcases(ik k).1 hk with e|hk
    ·subst e;rw[i0]
     refine⟨by simp[frm],?_⟩
     show rebI (frm q.id q.t) [r'.c q.t.call]=_
     rw[c0,reb_one];rfl
    ·rw[io k (hij k hk)]at ho ⊢
     refine⟨(h.f k hk ho).1,?_⟩
     rw[show(q.r.i k).calls.map r'.c=(q.r.i k).calls.map q.r.c from List.map_congr_left fun p hp=>co p (hcj p ((h.m k hk p).1 hp).1)]
     exact(h.f k hk ho).2
   ·rcases(ik k).1 hk with e|hk
    ·subst e;rw[i0]
     show p∈[q.t.call]↔_
     rw[List.mem_singleton,ck]
     by_cases e:p=q.t.call
     ·subst e;rw[c0];exact⟨fun _=>⟨.inl rfl,rfl⟩,fun _=>rfl⟩
     ·rw[co p e]
      refine⟨fun a=>absurd a e,fun a=>?_⟩
      rcases a.1 with b|b
      ·exact b
      ·exact absurd (a.2▸(h.c p b).2.2.2) hi
    ·rw[io k (hij k hk),ck]
     by_cases e:p=q.t.call
     ·subst e;rw[c0]
      exact⟨fun a=>absurd ((h.m k hk _).1 a).1 hc,fun a=>absurd a.2.symm (hij k hk)⟩
     ·rw[co p e,h.m k hk p]
      exact⟨fun a=>⟨.inr a.1,a.2⟩,fun a=>⟨a.1.elim (fun b=>absurd b e) _root_.id,a.2⟩⟩
   ·rw[hk']at hu;rw[hh]
    exact⟨(ik _).2 (.inr (h.u u hu).1),(h.u u hu).2⟩
   ·rw[hk',hh]
    rcases(ik k).1 hk with e|hk
    ·subst e;rw[i0]
     exact⟨fun a=>(by cases a),fun a=>absurd (a.2▸(h.u u a.1).1) hi⟩
    ·rw[io k (hij k hk)];exact h.v k hk u
   ·refine root_ext (r:=q.r) (fun k hk=>(ik k).2 (.inr hk)) (fun k hk=>.inl (by rw[io k (hij k hk)])) (fun k hk hn=>?_) h.root
    rcases(ik k).1 hk with e|hk
    ·subst e;rw[i0];rfl
    ·exact absurd hk hn
theorem RgN.addP {n:Nat} {q:OPx} (h:RgN n q.r) (ht:COk q.t) (h6:q.t.call<=6) (hid:q.id<=1000000) (hc:¬ q.t.call∈q.r.ck) (hi:q.id∈q.r.ik) (ho:isO (q.r.i q.id)=true):RgP (n+1) (adX q):=by
 obtain⟨j1,j2,j3,hio⟩:=h.i q.id hi
 have hcj:∀ k∈q.r.ck,k≠q.t.call:=fun k hk e=>hc (e▸hk)
 have hl:=h.len6 hi
 have ck:∀ k,k∈(adX q).r.ck↔k=q.t.call∨k∈q.r.ck:=fun k=>mem_madd
 have c0:(adX q).r.c q.t.call=taken q:=if_pos rfl
 have co:∀ k,k≠q.t.call->(adX q).r.c k=q.r.c k:=fun k hk=>if_neg hk
 have z:(adX q).x.id=q.id:=j1
 refine⟨madd_nd h.cn,h.kn,h.hn,Nat.le_trans madd_len (Nat.succ_le_succ h.cl),Nat.le_succ_of_le h.il,fun k hk=>?_,⟨by rw[z];exact hi,by rw[z];exact j2,by rw[z];show q.id<=((n+1:Nat):Int);omega⟩,hio,ho,?_,?_,by simp[adX],?_,fun p=>?_,?_,fun k hk e=>?_,fun k hk e=>?_,fun k hk e=>?_,fun k hk e ho=>?_,fun k hk e p=>?_,h.u,fun k hk e=>?_,?_⟩
 ·rcases(ck k).1 hk with e|hk
  ·subst e;rw[c0]
   exact⟨⟨ht.call,⟨by show 0<=q.id;omega,by show q.id<=_;omega⟩,ht.urg,ht.code,ht.nodes,ht.len⟩,rfl,h6,hi⟩
  ·rw[co k (hcj k hk)];exact h.c k hk
 ·rw[z];exact(isO_iff.1 ho).1
 ·show((q.r.i q.id).calls++[q.t.call]).Nodup
  rw[List.nodup_append]
  exact⟨nodup_inc hio.calls,by simp,fun a ha b hb=>by rw[List.mem_singleton.1 hb];exact hcj a ((h.m q.id hi a).1 ha).1⟩
 ·show((q.r.i q.id).calls++[q.t.call]).length<=12
  simp;omega
 ·show p∈(q.r.i q.id).calls++[q.t.call]↔_
  rw[List.mem_append,List.mem_singleton,ck,z,h.m q.id hi p]
  by_cases e:p=q.t.call
  ·subst e;rw[c0];exact⟨fun _=>⟨.inl rfl,rfl⟩,fun _=>.inr rfl⟩
  ·rw[co p e]
   exact⟨fun a=>a.elim (fun b=>⟨.inr b.1,b.2⟩) fun b=>absurd b e,fun a=>.inl ⟨a.1.elim (fun b=>absurd b e) _root_.id,a.2⟩⟩
 ·rw[z];exact h.v q.id hi
 ·obtain⟨a,b,c,d⟩:=h.i k hk;exact⟨a,b,by show k<=((n+1:Nat):Int);omega,d⟩
 ·exact h.g k hk
 ·exact h.s k hk
 ·refine⟨(h.f k hk ho).1,?_⟩
  show rebI (q.r.i k) ((q.r.i k).calls.map (adX q).r.c)=_
  rw[show(q.r.i k).calls.map (adX q).r.c=(q.r.i k).calls.map q.r.c from List.map_congr_left fun p hp=>co p (hcj p ((h.m k hk p).1 hp).1)]
  exact(h.f k hk ho).2
 ·rw[ck]
  show p∈(q.r.i k).calls↔_
  by_cases e2:p=q.t.call
  ·subst e2;rw[c0]
   exact⟨fun a=>absurd ((h.m k hk _).1 a).1 hc,fun a=>absurd (by rw[z];exact a.2.symm) e⟩
  ·rw[co p e2,h.m k hk p]
   exact⟨fun a=>⟨.inr a.1,a.2⟩,fun a=>⟨a.1.elim (fun b=>absurd b e2) _root_.id,a.2⟩⟩
 ·exact h.v k hk
 ·exact root_ext (r:=q.r) (fun k hk=>hk) (fun k hk=>.inl rfl) (fun k hk hn=>absurd hk hn) h.root
theorem RgN.add {n:Nat} {q:OPx} (h:RgN n q.r) (ht:COk q.t) (h6:q.t.call<=6) (hid:q.id<=1000000):RgN (n+1) (adF q):=by
 unfold adF
 split
 ·exact h.mono (Nat.le_succ n)
 ·rename_i hc
  split
  ·rename_i hi
   split
   ·rename_i ho
    exact(h.addP ht h6 hid hc hi ho).reb
   ·exact h.mono (Nat.le_succ n)
  ·exact h.mono (Nat.le_succ n)
theorem RgN.adok {n:Nat} {q:OPx} (h:RgN n q.r) (ht:COk q.t) (h6:q.t.call<=6) (hid:1<=q.id/\q.id<=1000000):ADok q:=
 ⟨ht,⟨hid.1,by omega⟩,fun hi=>by have:=h.len6 hi;omega,fun hc hi ho=>(h.addP ht h6 hid.2 hc hi ho).rrok⟩
section
variable {n:Nat} {r:Rg} (h:RgN n r) {d:CR} (hk:d.call∈r.ck) (hi:d.inc=(r.c d.call).inc) (hd:COk d)
theorem setC_inc (hi:d.inc=(r.c d.call).inc) (p:Int):((putC r d).c p).inc=(r.c p).inc:=by
 show(if p=d.call then d else r.c p).inc=_
 split
 ·rename_i e;rw[e];exact hi
 ·rfl
theorem setC_ck (hk:d.call∈r.ck):(putC r d).ck=r.ck:=madd_old hk
include h hk hi hd
theorem RgN.setC_c:∀ k∈(putC r d).ck,COk ((putC r d).c k)/\((putC r d).c k).call=k/\k<=6/\((putC r d).c k).inc∈r.ik:=by
 intro k hk2
 rw[setC_ck hk]at hk2
 obtain⟨a,b,c,e⟩:=h.c k hk2
 rw[setC_inc hi]
 refine⟨?_,?_,c,e⟩
 ·show COk (if k=d.call then d else r.c k);split;exact hd;exact a
 ·show(if k=d.call then d else r.c k).call=k;split;rename_i e;exact e.symm;exact b
theorem RgN.setC (hf:∀ j∈r.ik,isO (r.i j)=true->rebI (r.i j) ((r.i j).calls.map (putC r d).c)=r.i j):RgN n (putC r d):=by
 refine⟨by rw[setC_ck hk];exact h.cn,h.kn,h.hn,by rw[setC_ck hk];exact h.cl,h.il,h.setC_c hk hi hd,h.i,h.g,h.s,fun j hj ho=>⟨(h.f j hj ho).1,hf j hj ho⟩,fun k hk2 p=>?_,h.u,h.v,?_⟩
 ·rw[setC_ck hk,setC_inc hi];exact h.m k hk2 p
 ·exact root_ext (r:=r) (fun k hk=>hk) (fun k hk=>.inl rfl) (fun k hk hn=>absurd hk hn) h.root
omit hk hd in
theorem RgN.setC_map {j:Int} (hj:j∈r.ik) (hne:j≠d.inc):(r.i j).calls.map (putC r d).c=(r.i j).calls.map r.c:=by
 refine List.map_congr_left fun p hp=>if_neg fun e=>hne ?_
 have:=((h.m j hj p).1 hp).2
 rw[e,<- hi]at this
 exact this.symm
end
theorem RgN.ec {n:Nat} {q:GTx} (h:RgN n q.r):RgN n (ecF q):=by
 unfold ecF
 split
 ·rename_i g
  obtain⟨a,b,c,e⟩:=h.c q.k g.1
  have ec:(endC (q.r.c q.k)).call=q.k:=b
  refine h.setC (by rw[ec];exact g.1) (by rw[ec];rfl) ⟨a.call,a.inc,a.urg,a.code,a.nodes,a.len⟩ fun j hj ho=>?_
  obtain⟨f1,f2⟩:=h.f j hj ho
  have hcall:∀ p∈(q.r.i j).calls,(q.r.c p).call=p:=fun p hp=>(h.c p ((h.m j hj p).1 hp).1).2.1
  have e1:(q.r.i j).calls.map (putC q.r (endC (q.r.c q.k))).c=((q.r.i j).calls.map q.r.c).map fun c=>if c.call=q.k then endC c else c:=by
   rw[List.map_map]
   refine List.map_congr_left fun p hp=>?_
   show(if p=(endC (q.r.c q.k)).call then endC (q.r.c q.k)else q.r.c p)=if(q.r.c p).call=q.k then endC (q.r.c p)else q.r.c p
   rw[ec,hcall p hp]
   by_cases e:p=q.k
   ·rw[if_pos e,if_pos e,e]
   ·rw[if_neg e,if_neg e]
  rw[e1,rebI_like _ (fun c=>by split <;>exact⟨rfl,rfl,rfl,rfl⟩) (by rw[map_call hcall];exact nodup_inc (h.i j hj).2.2.2.calls)]
  exact f2
 ·exact h
section
variable {n:Nat} {q:UCx} (h:RgN n q.r) (ht:COk q.t) (g:ucGo q)
include h ht g
theorem RgN.uc_n:(ucN q).call=q.t.call/\(ucN q).call∈q.r.ck/\(ucN q).inc=(q.r.c (ucN q).call).inc/\COk (ucN q):=by
 obtain⟨a,b,c,e⟩:=h.c _ g.1
 have e1:(ucN q).call=q.t.call:=b
 exact⟨e1,by rw[e1];exact g.1,by rw[e1];rfl,⟨a.call,a.inc,ht.urg,ht.code,ht.nodes,ht.len⟩⟩
theorem RgN.ucP (ho:isO (ucI q)=true):RgP n (ucX q):=by
 obtain⟨e1,hk,hi,hd⟩:=h.uc_n ht g
 obtain⟨_,_,_,hz⟩:=h.c _ g.1
 obtain⟨j1,j2,j3,hio⟩:=h.i _ hz
 have z:(ucX q).x.id=(ucC q).inc:=j1
 refine⟨by show(putC q.r (ucN q)).ck.Nodup;rw[setC_ck hk];exact h.cn,h.kn,h.hn,by show(putC q.r (ucN q)).ck.length<=n;rw[setC_ck hk];exact h.cl,h.il,h.setC_c hk hi hd,⟨by rw[z];exact hz,by rw[z];exact j2,by rw[z];exact j3⟩,hio,ho,by rw[z];exact(isO_iff.1 ho).1,nodup_inc hio.calls,(h.f _ hz ho).1,
  Nat.le_trans (h.len6 hz) (by omega),fun p=>?_,by rw[z];exact h.v _ hz,fun k hk e=>h.i k hk,fun k hk e=>h.g k hk,fun k hk e=>h.s k hk,fun k hk2 e ho2=>⟨(h.f k hk2 ho2).1,?_⟩,fun k hk2 e p=>?_,h.u,fun k hk e=>h.v k hk,?_⟩
 ·show p∈(q.r.i (ucC q).inc).calls↔p∈(putC q.r (ucN q)).ck/\((putC q.r (ucN q)).c p).inc=_
  rw[setC_ck hk,setC_inc hi,z];exact h.m _ hz p
 ·show rebI (q.r.i k) ((q.r.i k).calls.map (putC q.r (ucN q)).c)=_
  rw[h.setC_map hi hk2 (by show k≠(ucC q).inc;rw[<- z];exact e)]
  exact(h.f k hk2 ho2).2
 ·show p∈(q.r.i k).calls↔p∈(putC q.r (ucN q)).ck/\((putC q.r (ucN q)).c p).inc=_
  rw[setC_ck hk,setC_inc hi];exact h.m k hk2 p
 ·exact root_ext (r:=q.r) (fun k hk=>hk) (fun k hk=>.inl rfl) (fun k hk hn=>absurd hk hn) h.root
theorem RgN.ucS (ho:isO (ucI q)=false):RgN n (putC q.r (ucN q)):=by
 obtain⟨e1,hk,hi,hd⟩:=h.uc_n ht g
 refine h.setC hk hi hd fun j hj ho2=>?_
 rw[h.setC_map hi hj fun e=>by
  have e:j=(ucC q).inc:=e
  have a:isO (q.r.i (ucC q).inc)=false:=ho
  rw[e,a]at ho2;cases ho2]
 exact(h.f j hj ho2).2
end
theorem RgN.uc {n:Nat} {q:UCx} (h:RgN n q.r) (ht:COk q.t):RgN n (ucF q):=by
 unfold ucF
 split
 ·rename_i g
  cases ho:isO (ucI q)with
  |true=>rw[if_pos rfl];exact(h.ucP ht g ho).reb
  |false=>rw[if_neg (by simp)];exact h.ucS ht g ho
 ·exact h
theorem RgN.ucok {n:Nat} {q:UCx} (h:RgN n q.r) (ht:COk q.t):UCok q:=
 ⟨ht,fun hk=>(h.c _ hk).2.1,fun hk=>(h.c _ hk).2.2.2,fun hk=>⟨(h.c _ hk).1.nodes,(h.c _ hk).1.len⟩,fun g ho=>(h.ucP ht g ho).rrok⟩
end Go.Sym