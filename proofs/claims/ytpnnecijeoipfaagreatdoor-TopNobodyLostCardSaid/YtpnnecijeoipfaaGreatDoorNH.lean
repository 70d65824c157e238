import Derived.Test.YtpnnecijeoipfaaGreatDoorNC
import Derived.Test.YtpnnecijeoipfaaGreatDoorNE
import Derived.Test.YtpnnecijeoipfaaGreatDoorNF
import Derived.Test.YtpnnecijeoipfaaGreatDoorNP
namespace Go.Sym
set_option linter.unusedVariables false
set_option linter.unusedSimpArgs false
theorem RgN.mono {n m:Nat} {r:Rg} (h:RgN n r) (hm:n<=m):RgN m r:=
 ⟨h.cn,h.kn,h.hn,Nat.le_trans h.cl hm,Nat.le_trans h.il hm,h.c,fun k hk=>by obtain⟨a,b,c,d⟩:=h.i k hk;exact⟨a,b,by omega,d⟩,h.g,h.s,h.f,h.m,h.u,h.v,h.root⟩
theorem root_ext {r r':Rg} (h1:∀ k∈r.ik,k∈r'.ik) (h2:∀ k∈r.ik,(r'.i k).merged=(r.i k).merged∨((r.i k).merged=0/\∃ n a,RootN r' n k a)) (h3:∀ k∈r'.ik,¬ k∈r.ik->(r'.i k).merged=0)
  (hr:∀ k,∃ n a,RootN r n k a):∀ k,∃ n a,RootN r' n k a:=by
 intro k
 obtain⟨n,a,h⟩:=hr k
 induction h with
 |out hk=>
  rename_i id
  by_cases q:id∈r'.ik
  ·exact⟨0,id,.here q (h3 id q hk)⟩
  ·exact⟨0,0,.out q⟩
 |here hk hm=>
  rename_i id
  rcases h2 id hk with e|⟨_,e⟩
  ·exact⟨0,id,.here (h1 id hk) (e.trans hm)⟩
  ·exact e
 |up hk hm _ ih=>
  rename_i m id b _
  rcases h2 id hk with e|⟨e,_⟩
  ·obtain⟨n',a',q⟩:=ih
   exact⟨n'+1,a',.up (h1 id hk) (by rw[e];exact hm) (by rw[e];exact q)⟩
  ·exact absurd e hm
theorem madd_old {l:List Int} {k:Int} (h:k∈l):madd1 l k=l:=if_pos h
theorem madd_nd {l:List Int} {k:Int} (h:l.Nodup):(madd1 l k).Nodup:=by
 unfold madd1
 split
 ·exact h
 ·rename_i e
  rw[List.nodup_append]
  exact⟨h,by simp,fun a ha b hb=>by rw[List.mem_singleton.1 hb];exact fun q=>e (q▸ha)⟩
theorem madd_len {l:List Int} {k:Int}:(madd1 l k).length<=l.length+1:=by
 unfold madd1;split
 ·omega
 ·rw[List.length_append];exact Nat.le_refl _
theorem isO_iff {x:Ic}:isO x=true↔x.merged=0/\x.closed=false:=by unfold isO;rw[Bool.and_eq_true,decide_eq_true_eq,Bool.not_eq_true']
structure RgP (n:Nat) (q:RRx):Prop where
 cn:q.r.ck.Nodup
 kn:q.r.ik.Nodup
 hn:q.r.hk.Nodup
 cl:q.r.ck.length<=n
 il:q.r.ik.length<=n
 c:∀ k∈q.r.ck,COk (q.r.c k)/\(q.r.c k).call=k/\k<=6/\(q.r.c k).inc∈q.r.ik
 z:q.x.id∈q.r.ik/\1<=q.x.id/\q.x.id<=n
 x:IOk q.x
 o:isO q.x=true
 mz:(q.r.i q.x.id).merged=0
 ln:q.l.Nodup
 le:q.l≠[]
 l12:q.l.length<=12
 lm:∀ p,p∈q.l↔p∈q.r.ck/\(q.r.c p).inc=q.x.id
 xv:∀ u,u∈q.x.units↔u∈q.r.hk/\q.r.h u=q.x.id
 i:∀ k∈q.r.ik,k≠q.x.id->(q.r.i k).id=k/\1<=k/\k<=n/\IOk (q.r.i k)
 g:∀ k∈q.r.ik,k≠q.x.id->(q.r.i k).merged≠0->(q.r.i k).calls=[]
 s:∀ k∈q.r.ik,k≠q.x.id->isO (q.r.i k)=false->(q.r.i k).units=[]
 f:∀ k∈q.r.ik,k≠q.x.id->isO (q.r.i k)=true->(q.r.i k).calls≠[]/\rebI (q.r.i k) ((q.r.i k).calls.map q.r.c)=q.r.i k
 m:∀ k∈q.r.ik,k≠q.x.id->∀ p,p∈(q.r.i k).calls↔p∈q.r.ck/\(q.r.c p).inc=k
 u:∀ u∈q.r.hk,q.r.h u∈q.r.ik/\0<=u/\u<=3
 v:∀ k∈q.r.ik,k≠q.x.id->∀ u,u∈(q.r.i k).units↔u∈q.r.hk/\q.r.h u=k
 root:∀ k,∃ n a,RootN q.r n k a
section
variable {n:Nat} {q:RRx} (h:RgP n q)
include h
theorem RgP.call:∀ p∈q.l,(q.r.c p).call=p:=fun p hp=>(h.c p ((h.lm p).1 hp).1).2.1
theorem RgP.lok:LOk (q.l.map q.r.c):=by
 refine⟨by simpa using h.le,by rw[List.length_map];exact h.l12,fun c hc=>?_,?_⟩
 ·obtain⟨p,hp,rfl⟩:=List.mem_map.1 hc
  exact(h.c p ((h.lm p).1 hp).1).1
 ·rw[map_call h.call];exact h.ln
theorem RgP.rrok:RRok q:=⟨h.x,(isO_iff.1 h.o).1,h.lok,fun k hk=>((h.lm k).1 hk).1⟩
theorem RgP.reb:RgN n (rrF q):=by
 obtain⟨y,hy⟩:∃ y,y=rebI q.x (q.l.map q.r.c):=⟨_,rfl⟩
 obtain⟨hp,hag⟩:=reb_again (x:=q.x) h.ln h.call h.le hy
 obtain⟨a1,a2,a3,a4⟩:=rebI_core q.x (q.l.map q.r.c)
 rw[<- hy]at a1 a2 a3 a4
 have oy:isO y=true:=by rw[isO_iff,a3,a4];exact isO_iff.1 h.o
 have e0:rrF q=putI q.r y:=by rw[hy];rfl
 have ek:(putI q.r y).ik=q.r.ik:=madd_old (by rw[a1];exact h.z.1)
 have iz:(putI q.r y).i q.x.id=y:=if_pos a1.symm
 have io:∀ k,k≠q.x.id->(putI q.r y).i k=q.r.i k:=fun k hk=>if_neg (by rw[a1];exact hk)
 rw[e0]
 refine⟨h.cn,by rw[ek];exact h.kn,h.hn,h.cl,by rw[ek];exact h.il,fun k hk=>?_,fun k hk=>?_,fun k hk hm=>?_,fun k hk hs=>?_,fun k hk ho=>?_,fun k hk p=>?_,fun u hu=>?_,fun k hk u=>?_,?_⟩
 ·rw[ek];exact h.c k hk
 ·rw[ek]at hk
  by_cases e:k=q.x.id
  ·subst e;rw[iz];exact⟨a1,h.z.2.1,h.z.2.2,by rw[hy];exact rebI_ok h.x h.lok⟩
  ·rw[io k e];exact h.i k hk e
 ·rw[ek]at hk
  by_cases e:k=q.x.id
  ·subst e;rw[iz]at hm;exact absurd (isO_iff.1 oy).1 hm
  ·rw[io k e]at hm ⊢;exact h.g k hk e hm
 ·rw[ek]at hk
  by_cases e:k=q.x.id
  ·subst e;rw[iz,oy]at hs;cases hs
  ·rw[io k e]at hs ⊢;exact h.s k hk e hs
 ·rw[ek]at hk
  by_cases e:k=q.x.id
  ·subst e;rw[iz]
   exact⟨fun e=>by rw[e]at hp;exact h.le (List.nil_perm.1 hp),hag⟩
  ·rw[io k e]at ho ⊢;exact h.f k hk e ho
 ·rw[ek]at hk
  by_cases e:k=q.x.id
  ·subst e;rw[iz,hp.mem_iff];exact h.lm p
  ·rw[io k e];exact h.m k hk e p
 ·rw[ek];exact h.u u hu
 ·rw[ek]at hk
  by_cases e:k=q.x.id
  ·subst e;rw[iz,a2];exact h.xv u
  ·rw[io k e];exact h.v k hk e u
 ·refine root_ext (r:=q.r) (fun k hk=>by rw[ek];exact hk) (fun k hk=>?_) (fun k hk hn=>absurd (ek▸hk) hn) h.root
  by_cases e:k=q.x.id
  ·subst e;left;rw[iz,h.mz];exact(isO_iff.1 oy).1
  ·left;rw[io k e]
end
theorem fold_uni (us:List Int) (l:List CR):∀ x:Ic,l.foldl furI (uniI x us)=uniI (l.foldl furI x) us:=by
 induction l with
 |nil=>intro x;rfl
 |cons c l ih=>intro x;rw[List.foldl_cons,List.foldl_cons];exact ih (furI x c)
theorem rebI_uni (x:Ic) (us:List Int) (l:List CR):rebI (uniI x us) l=uniI (rebI x l) us:=fold_uni us _ (fstI x _)
def likeC (a b:CR):Prop:=a.call=b.call/\a.urg=b.urg/\a.code=b.code/\a.nodes=b.nodes
theorem fold_like (g:CR->CR) (hg:∀ c,likeC (g c) c) (l:List CR):∀ x:Ic,(l.map g).foldl furI x=l.foldl furI x:=by
 induction l with
 |nil=>intro x;rfl
 |cons c l ih=>
  intro x
  obtain⟨a,b,d,e⟩:=hg c
  rw[List.map_cons,List.foldl_cons,List.foldl_cons,ih,show furI x (g c)=furI x c by unfold furI;rw[a,b,d,e]]
theorem rebI_like {x:Ic} {l:List CR} (g:CR->CR) (hg:∀ c,likeC (g c) c) (hn:(l.map (·.call)).Nodup):rebI x (l.map g)=rebI x l:=by
 have hc:∀ c,(g c).call=c.call:=fun c=>(hg c).1
 have hm:∀ l:List CR,(l.map g).map (·.call)=l.map (·.call):=fun l=>by rw[List.map_map];exact List.map_congr_left fun c _=>hc c
 have e1:srtC (l.map g)=(srtC l).map g:=by
  rw[<- srtC_uniq ((srtC_perm l).map g) (by rw[hm];exact((srtC_perm l).map _).nodup_iff.2 hn)]
  refine srtC_id ?_
  rw[List.pairwise_map]
  exact(srtC_strict hn).imp fun {a b} q=>by rw[hc,hc];exact q
 unfold rebI
 rw[e1]
 unfold derI
 cases srtC l with
 |nil=>rfl
 |cons c t=>
  show(t.map g).foldl furI (fstI x (g c))=t.foldl furI (fstI x c)
  obtain⟨a,b,d,e⟩:=hg c
  rw[fold_like g hg,show fstI x (g c)=fstI x c by unfold fstI;rw[a,b,d,e]]
end Go.Sym