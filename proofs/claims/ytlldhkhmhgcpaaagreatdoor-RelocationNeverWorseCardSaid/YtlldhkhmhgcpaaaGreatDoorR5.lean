import Derived.Test.YtlldhkhmhgcpaaaGreatDoorR3
import Derived.Test.YtlldhkhmhgcpaaaGreatDoorRP
import Derived.Test.YtlldhkhmhgcpaaaGreatDoorXD
import Derived.Test.YtlldhkhmhgcpaaaGreatDoorP7
import Derived.Test.YtlldhkhmhgcpaaaGreatDoorPL1
namespace Go.Sym
set_option linter.unusedVariables false
set_option linter.unusedSimpArgs false
open Go.Proofs
set_option maxRecDepth 100000
set_option maxHeartbeats 4000000
structure NOX where
 g:Gr
 of:List Int
structure WX where
 g:Gr
 ts:List Int
 src:List Int
 of:List Int
def WX.fx (x:WX):FX:=⟨x.g,x.ts,x.src⟩
structure WXok (x:WX):Prop where
 fx:FXok x.fx
 of:x.of.length<=1048576
theorem UXok.w {x:UX} (h:UXok x):WXok ⟨x.g,x.ts,freeL x.us,x.of⟩:=⟨⟨h.g,h.n,Nat.le_trans (freeL_len _) h.us⟩,h.of⟩
end Go.Sym
namespace Go.Sym
set_option linter.unusedVariables false
structure VX where
 g:Gr
 ts:List Int
 us:List Un
 of:List Int
 t:Int
def VX.u (x:VX):UX:=⟨x.g,x.ts,x.us,x.of⟩
end Go.Sym
namespace Go.Sym
set_option linter.unusedVariables false
theorem dist_mono {g:Gr} (hg:GOk g) (ts:List Int) {a b:List Int} (fwd:Bool) (h:∀ v,v<g.n->isSrc a v=true->isSrc b v=true) {v:Nat} (hv:v<g.n):(distG g ts b fwd).getD v default<=(distG g ts a fwd).getD v default:=by
 have hN:=netG_ok hg (wsOk_tt g ts) fwd
 have Ha:=distF_sol hN (isSrc a)
 have Hb:=distF_sol hN (isSrc b)
 exact Ha.least hN Hb.le (fun v hv hs=>by rw[Hb.src v hv (h v hv hs)];exact Int.le_refl _) Hb.clo v hv
end Go.Sym
namespace Go.Sym
set_option linter.unusedVariables false
theorem gmr {n v:Nat} {f:Nat->Int} (h:v<n):((List.range n).map f).getD v default=f v:=by
 simp[List.getD_eq_getElem?_getD,h]
def minD (F:Int->Int) (l:List Int):Int:=l.foldl (fun m p=>min m (F p)) INF
theorem minD_go (F:Int->Int):∀(l:List Int) (m:Int),l.foldl (fun m p=>min m (F p)) m<=m/\(∀ p∈l,l.foldl (fun m p=>min m (F p)) m<=F p)/\(l.foldl (fun m p=>min m (F p)) m=m∨∃ p∈l,l.foldl (fun m p=>min m (F p)) m=F p)
 | [],m=>⟨Int.le_refl _,fun p hp=>(by cases hp),.inl rfl⟩
 |x::l,m=>by
  rw[List.foldl_cons]
  obtain⟨h1,h2,h3⟩:=minD_go F l (min m (F x))
  refine⟨by omega,fun p hp=>?_,?_⟩
  ·rcases List.mem_cons.1 hp with q|q
   ·subst q;omega
   ·exact h2 p q
  ·rcases h3 with q|⟨p,hp,q⟩
   ·rcases(show min m (F x)=m∨min m (F x)=F x by omega)with e|e
    ·exact .inl (q.trans e)
    ·exact .inr ⟨x,by simp,q.trans e⟩
   ·exact .inr ⟨p,List.mem_cons_of_mem _ hp,q⟩
theorem dist_any {g:Gr} (hg:GOk g) (ts:List Int) (l:List Int) {v:Nat} (hv:v<g.n):
  (distG g ts l true).getD v default=minD (fun p=>(distG g ts [p] true).getD v default) l:=by
 have hN:=netG_ok hg (wsOk_tt g ts) true
 have H:Sol (netG g (ttL ts g.es.length) true) (fun v=>isSrc l v=true) (distG g ts l true):=distF_sol hN (isSrc l)
 have K:∀ p:Int,Sol (netG g (ttL ts g.es.length) true) (fun v=>isSrc [p] v=true) (distG g ts [p] true):=fun p=>distF_sol hN _
 have spec:=fun v=>minD_go (fun p=>(distG g ts [p] true).getD v default) l INF
 have hM:∀ v,v<g.n->at0 ((List.range g.n).map fun v=>minD (fun p=>(distG g ts [p] true).getD v default) l) v=minD (fun p=>(distG g ts [p] true).getD v default) l:=fun v hv=>gmr hv
 apply Int.le_antisymm
 ·obtain⟨_,_,h3⟩:=spec v
  unfold minD
  rcases h3 with q|⟨p,hp,q⟩
  ·rw[q];exact H.le v hv
  ·rw[q]
   refine dist_mono hg ts true (fun u _ hs=>?_) hv
   have:=isSrc_iff.1 hs
   rw[List.mem_singleton]at this
   exact isSrc_iff.2 (by rw[this];exact hp)
 ·have:=H.least hN (e:=(List.range g.n).map fun v=>minD (fun p=>(distG g ts [p] true).getD v default) l) (fun v hv=>by rw[hM v hv];exact(spec v).1)
   (fun v hv hs=>by
    rw[hM v hv]
    have hp:=isSrc_iff.1 hs
    have h1:=(spec v).2.1 _ hp
    have h2:=(K (v:Int)).src v hv (isSrc_iff.2 (by simp))
    have h2:(distG g ts [((v:Nat):Int)] true).getD v default=0:=h2
    unfold minD
    exact Int.le_trans h1 (Int.le_of_eq h2))
   (fun i hi hw hs=>by
    have hsn:=hN.s i hi
    have htn:=hN.t i hi
    rw[hM _ hsn]at hs ⊢
    rw[hM _ htn]
    unfold minD at*
    rcases(spec ((netG g (ttL ts g.es.length) true).s i)).2.2 with q|⟨p,hp,q⟩
    ·rw[q]at hs;exact absurd hs (Int.lt_irrefl _)
    ·rw[q]at hs ⊢
     have h1:=(spec ((netG g (ttL ts g.es.length) true).t i)).2.1 p hp
     have h2:=(K p).clo i hi hw hs
     exact Int.le_trans h1 h2) v hv
  rw[hM v hv]at this
  exact this
theorem maxD_go (D:Int->Int):∀(l:List Int) (s:Int × Int),(∀ v∈l,0<=v/\0<=D v)->(s.2<0->s.1=0)->
  (l.foldl (fun(s:Int × Int) v=>if s.2<0∨s.1<D v then(D v,v)else s) s).1=l.foldl (fun w v=>max w (D v)) s.1
 | [],s,_,_=>rfl
 |x::l,s,hl,hs=>by
  rw[List.foldl_cons,List.foldl_cons]
  have hx:=hl x (by simp)
  rw[maxD_go D l _ (fun v hv=>hl v (List.mem_cons_of_mem _ hv))]
  ·congr 1
   split
   ·rename_i h
    rcases h with h|h
    ·have:=hs h;simp only;omega
    ·simp only;omega
   ·rename_i h
    have:¬ s.1<D x:=fun q=>h (.inr q)
    omega
  ·split
   ·intro h;simp only at h;omega
   ·exact hs
theorem wait_is {x:Sr} (hg:GOk x.g) (hm:∀ v∈x.tg,0<=v/\v<x.g.n) (nd:List Int):waitF x nd=(worstF (distG x.g x.ts nd true) x.tg).1:=by
 have:=maxD_go (fun v=>(distG x.g x.ts nd true).getD v.toNat default) x.tg (0,-1) (fun v hv=>⟨(hm v hv).1,(dist_rng hg x.ts nd true (by have:=hm v hv;omega)).1⟩) (fun _=>rfl)
 refine Eq.trans ?_ this.symm
 show _=x.tg.foldl (fun w v=>max w ((distG x.g x.ts nd true).getD v.toNat default)) 0
 unfold waitF
 have e:∀(ns:List Int) (w:Int),(∀ v∈ns,0<=v/\v<x.g.n)->ns.foldl (fun w t=>max w (nearF x t nd)) w=ns.foldl (fun w v=>max w ((distG x.g x.ts nd true).getD v.toNat default)) w:=by
  intro ns
  induction ns with
  |nil=>intro w _;rfl
  |cons t ns ih=>
   intro w h
   rw[List.foldl_cons,List.foldl_cons,ih _ (fun v hv=>h v (List.mem_cons_of_mem _ hv))]
   have ht:=h t (by simp)
   have e2:nearF x t nd=(distG x.g x.ts nd true).getD t.toNat default:=by
    rw[dist_any hg x.ts nd (by omega)]
    unfold nearF minD
    congr 1
    funext m a
    unfold dsF
    rw[if_pos ht]
   rw[e2]
 exact e _ _ hm
end Go.Sym