import Derived.Test.YtlldhkhmhgcpaaaGreatDoorP7
namespace Go.Sym
set_option linter.unusedVariables false
def BdD (d:List Int) (M:Int):Prop:=∀ v,at0 d v=INF∨at0 d v<=M
theorem BdD.mono {d:List Int} {M M':Int} (h:BdD d M) (hm:M<=M'):BdD d M':=fun v=>(h v).imp id (fun q=>by omega)
theorem relax_bd {N:WNet} {d:List Int} {M:Int} (hM:0<=M) (hw:∀ i,i<N.m->N.w i=INF∨N.w i<=1048576) {i:Nat} (hi:i<N.m) (h:BdD d M):BdD (relaxE N d i) (M+1048576):=by
 intro v
 unfold relaxE
 split
 ·rename_i q
  rw[at0_set]
  split
  ·have h1:=(h (N.s i)).resolve_left (by omega)
   have h2:=(hw i hi).resolve_left (by omega)
   exact .inr (by omega)
  ·exact(h v).imp id (fun q=>by omega)
 ·exact(h v).imp id (fun q=>by omega)
theorem roundAt_bd {N:WNet} {d:List Int} {M:Int} (hM:0<=M) (hw:∀ i,i<N.m->N.w i=INF∨N.w i<=1048576) (h:BdD d M):∀ k,k<=N.m->BdD (roundAt N d k) (M+1048576*k)
 |0,_=>by simpa[roundAt]using h
 |k+1,hk=>by
  rw[roundAt_succ]
  refine(relax_bd (by omega) hw (by omega) (roundAt_bd hM hw h k (by omega))).mono ?_
  omega
theorem rounds_bd {N:WNet} {d:List Int} (hw:∀ i,i<N.m->N.w i=INF∨N.w i<=1048576) (hm:N.m<=16384) (h:BdD d 0):∀ k,BdD (rounds N d k) (17179869184*k)
 |0=>by simpa[rounds]using h
 |k+1=>by
  rw[rounds_succ]
  refine(roundAt_bd (M:=17179869184*k) (by omega) hw (rounds_bd hw hm h k) N.m (Nat.le_refl _)).mono ?_
  omega
theorem dist_bd {g:Gr} (hg:GOk g) (ts src:List Int) (fwd:Bool) (v:Nat):(distG g ts src fwd).getD v default=INF∨(distG g ts src fwd).getD v default<=70368744177664:=by
 have hi:BdD (initL g.n (isSrc src)) 0:=by
  intro v
  rcases Nat.lt_or_ge v g.n with h|h
  ·rw[initL_at h]
   split
   ·exact .inr (Int.le_refl _)
   ·exact .inl rfl
  ·refine .inr ?_
   unfold at0
   rw[List.getD_eq_getElem?_getD,List.getElem?_eq_none (by simp[initL];exact h)]
   exact Int.le_refl _
 have hw:=wsOk_tt g ts
 have:=rounds_bd (N:=netG g (ttL ts g.es.length) fwd) (d:=initL g.n (isSrc src)) (fun i hi=>by
  rcases hw.ok i hi with h|h
  ·exact .inl h
  ·exact .inr h.2) hg.m hi g.n v
 have hn:=hg.n
 rcases this with h|h
 ·exact .inl h
 ·refine .inr ?_
  have h:(distG g ts src fwd).getD v default<=17179869184*(g.n:Int):=h
  omega
structure Sr where
 g:Gr
 ts:List Int
 us:List Un
 tg:List Int
def dsF (x:Sr) (a b:Int):Int:=if 0<=b/\b<x.g.n then(distG x.g x.ts [a] true).getD b.toNat default else INF
theorem dsF_r {x:Sr} (hg:GOk x.g) (a b:Int):0<=dsF x a b/\(dsF x a b=INF∨dsF x a b<=70368744177664):=by
 unfold dsF
 split
 ·rename_i h
  have h1:=dist_rng hg x.ts [a] true (v:=b.toNat) (by omega)
  exact⟨h1.1,dist_bd hg x.ts [a] true b.toNat⟩
 ·exact⟨by decide,.inl rfl⟩
def nearA (x:Sr) (t:Int) (nd:List Int) (k:Nat):Int:=(nd.take k).foldl (fun m a=>min m (dsF x a t)) INF
def nearF (x:Sr) (t:Int) (nd:List Int):Int:=nd.foldl (fun m a=>min m (dsF x a t)) INF
def waitA (x:Sr) (nd:List Int) (k:Nat):Int:=(x.tg.take k).foldl (fun w t=>max w (nearF x t nd)) 0
def waitF (x:Sr) (nd:List Int):Int:=x.tg.foldl (fun w t=>max w (nearF x t nd)) 0
structure I2x where
 a:Int
 b:Int
def cmpI (a b:Int):Int:=if a<b then -1 else if b<a then 1 else 0
theorem cmp_lt {a b:Int} (h:a<b):cmpI a b= -1:=if_pos h
theorem cmp_gt {a b:Int} (h:¬ a<b) (h2:b<a):cmpI a b=1:=by unfold cmpI;rw[if_neg h,if_pos h2]
theorem cmp_eq {a b:Int} (h:¬ a<b) (h2:¬ b<a):cmpI a b=0:=by unfold cmpI;rw[if_neg h,if_neg h2]
theorem cmp_neg {a b:Int}:cmpI a b<0↔a<b:=by unfold cmpI;split <;>(try split) <;>omega
theorem subK (i:Nat):0+((i:Int)-1).toNat=i-1:=by omega
def orF:List Int->Int
 | []=>0
 |x::r=>if x=0 then orF r else x
theorem orF_take {l:List Int} {k:Nat} (hk:k<l.length) (h:∀ z∈l.take k,z=0) (hn:l.getD k default≠0):orF l=l.getD k default:=by
 induction l generalizing k with
 |nil=>simp at hk
 |cons x r ih=>
  cases k with
  |zero=>unfold orF;rw[if_neg (by simpa using hn)];rfl
  |succ k=>
   unfold orF
   rw[if_pos (h x (by simp))]
   exact ih (by simpa using hk) (fun z hz=>h z (by simp[hz])) hn
theorem orF_none {l:List Int} (h:∀ z∈l,z=0):orF l=0:=by
 induction l with
 |nil=>rfl
 |cons x r ih=>unfold orF;rw[if_pos (h x (by simp))];exact ih fun z hz=>h z (by simp[hz])
abbrev Mv:=Int × Int
def cmpMv (a b:Mv):Int:=orF [cmpI a.1 b.1,cmpI a.2 b.2]
def cmpMs:List Mv->List Mv->Int
 | [],[]=>0
 | [],_::_=> -1
 |_::_,[]=>1
 |a::l,b::m=>if cmpMv a b≠0 then cmpMv a b else cmpMs l m
structure Bst where
 found:Bool:=false
 best:List Mv:=[]
 worst:Int:=0
 total:Int:=0
structure Pos where
 nd:List Int
 mv:List Mv:=[]
 dur:Int:=0
def betF (w:Int) (p:Pos) (b:Bst):Int:=orF [cmpI w b.worst,cmpI p.mv.length b.best.length,cmpI p.dur b.total,cmpMs p.mv b.best]
def cnF (x:Sr) (p:Pos) (b:Bst):Bst:=if b.found=false∨betF (waitF x p.nd) p b<0 then⟨true,p.mv,waitF x p.nd,p.dur⟩else b
def pushP (x:Sr) (p:Pos) (i:Nat) (t:Int):Pos:=⟨p.nd.set i t,p.mv++[((x.us.getD i default).id,t)],p.dur+dsF x (p.nd.getD i default) t⟩
def goP (x:Sr) (p:Pos) (i:Nat) (t:Int):Prop:=¬ (t=p.nd.getD i default∨dsF x (p.nd.getD i default) t=INF)
instance (x:Sr) (p:Pos) (i:Nat) (t:Int):Decidable (goP x p i t):=by unfold goP;infer_instance
def exF (x:Sr):Nat->Nat->Pos->Bst->Bst
 |0,_,p,b=>cnF x p b
 |m+1,fi0,p,b=>(List.range' fi0 (x.us.length-fi0)).foldl (fun b i=>x.tg.foldl (fun b t=>if goP x p i t then exF x m (i+1) (pushP x p i t) b else b) b) (cnF x p b)
def exT (x:Sr) (m:Nat) (p:Pos) (i:Nat) (k:Nat) (b:Bst):Bst:=(x.tg.take k).foldl (fun b t=>if goP x p i t then exF x m (i+1) (pushP x p i t) b else b) b
def exA (x:Sr) (m:Nat) (p:Pos) (fi0 i:Nat) (b:Bst):Bst:=(List.range' fi0 (i-fi0)).foldl (fun b i=>exT x m p i x.tg.length b) (cnF x p b)
theorem exA_0 {x:Sr} {m:Nat} {p:Pos} {fi0:Nat} {b:Bst}:exA x m p fi0 fi0 b=cnF x p b:=by unfold exA;rw[Nat.sub_self];rfl
theorem exA_s {x:Sr} {m:Nat} {p:Pos} {fi0 i:Nat} {b:Bst} (h:fi0<=i):exA x m p fi0 (i+1) b=exT x m p i x.tg.length (exA x m p fi0 i b):=by
 unfold exA
 rw[show i+1-fi0=(i-fi0)+1 by omega,List.range'_concat,List.foldl_append,show fi0+1*(i-fi0)=i by omega]
 rfl
theorem exT_s {x:Sr} {m:Nat} {p:Pos} {i k:Nat} {b:Bst} (h:k<x.tg.length):exT x m p i (k+1) b=if goP x p i (x.tg.getD k default)then exF x m (i+1) (pushP x p i (x.tg.getD k default)) (exT x m p i k b)else exT x m p i k b:=by
 unfold exT
 rw[take_succ_getD (d:=default) h,List.foldl_append]
 rfl
theorem exA_t {x:Sr} {m:Nat} {p:Pos} {fi0 i:Nat} {b:Bst} (h:¬ i<x.us.length) (h1:i<=x.us.length∨i=fi0):exA x m p fi0 i b=exF x (m+1) fi0 p b:=by
 have e:i-fi0=x.us.length-fi0:=by omega
 unfold exA exF
 rw[e]
 congr 1
 funext b i
 unfold exT
 rw[List.take_length]
end Go.Sym