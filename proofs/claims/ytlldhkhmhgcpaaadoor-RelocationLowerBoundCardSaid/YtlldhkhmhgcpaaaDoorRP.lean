import Derived.Test.YtlldhkhmhgcpaaaDoorP7
import Derived.Test.YtlldhkhmhgcpaaaDoorS3
import Derived.Test.YtlldhkhmhgcpaaaDoorXD
namespace Go.Sym
set_option linter.unusedVariables false
set_option linter.unusedSimpArgs false
open Go.Proofs
set_option maxRecDepth 100000
theorem filter_yes {α:Type} {d:α} {p:α->Bool} {l:List α} {k:Nat} (hk:k<l.length) (h:p (l.getD k d)=true):(l.take (k+1)).filter p=(l.take k).filter p++[l.getD k d]:=by
 rw[take_succ_getD (d:=d) hk,List.filter_append,List.filter_cons,if_pos h,List.filter_nil]
theorem filter_no {α:Type} {d:α} {p:α->Bool} {l:List α} {k:Nat} (hk:k<l.length) (h:¬ p (l.getD k d)=true):(l.take (k+1)).filter p=(l.take k).filter p:=by
 rw[take_succ_getD (d:=d) hk,List.filter_append,List.filter_cons,if_neg h,List.filter_nil,List.append_nil]
theorem filter_len {α:Type} {p:α->Bool} {l:List α} {k c:Nat} (h:l.length<=c):((l.take k).filter p).length<=c:=by
 have:=List.length_filter_le p (l.take k)
 have h2:(l.take k).length<=l.length:=by rw[List.length_take];omega
 omega
def freeAt (us:List Un) (k:Nat):List Int:=((us.take k).filter fun u=>decide (u.st=1)).map fun u=>u.nd
def freeL (us:List Un):List Int:=(us.filter fun u=>decide (u.st=1)).map fun u=>u.nd
theorem free_yes {us:List Un} {k:Nat} (hk:(k:Int)<us.length) (h:(us.getD k default).st=1):freeAt us (k+1)=freeAt us k++[(us.getD k default).nd]:=by
 unfold freeAt;rw[filter_yes (d:=default) (p:=fun u:Un=>decide (u.st=1)) (l:=us) (k:=k) (by omega) (decide_eq_true h),List.map_append];rfl
theorem free_no {us:List Un} {k:Nat} (hk:(k:Int)<us.length) (h:¬ (us.getD k default).st=1):freeAt us (k+1)=freeAt us k:=by
 unfold freeAt;rw[filter_no (d:=default) (p:=fun u:Un=>decide (u.st=1)) (l:=us) (k:=k) (by omega) (by rw[decide_eq_false h];decide)]
theorem free_end {us:List Un} {k:Nat} (hle:k<=us.length) (hk:¬ (k:Int)<us.length):freeAt us k=freeL us:=by unfold freeAt freeL;rw[List.take_of_length_le (by omega)]
theorem freeAt_len {us:List Un} {k c:Nat} (h:us.length<=c):(freeAt us k).length<=c:=by unfold freeAt;rw[List.length_map];exact filter_len h
theorem freeL_len (us:List Un):(freeL us).length<=us.length:=by unfold freeL;rw[List.length_map];exact List.length_filter_le _ _
def worstS (D:List Int) (s:Int × Int) (v:Int):Int × Int:=if s.2<0∨s.1<D.getD v.toNat default then(D.getD v.toNat default,v)else s
def worstF (D l:List Int):Int × Int:=l.foldl (worstS D) (0,-1)
structure UX where
 g:Gr
 ts:List Int
 us:List Un
 of:List Int
structure UXok (x:UX):Prop where
 g:GOk x.g
 n:x.g.n<=12
 us:x.us.length<=1048576
 of:x.of.length<=1048576
theorem UXok.f {x:UX} (h:UXok x):FXok ⟨x.g,x.ts,freeL x.us⟩:=⟨h.g,h.n,Nat.le_trans (freeL_len _) h.us⟩
theorem worst_set {D:List Int}:∀(l:List Int) (s:Int × Int),(∀ v∈l,0<=v)->0<=s.2->0<=(l.foldl (worstS D) s).2/\s.1<=(l.foldl (worstS D) s).1/\(∀ v∈l,D.getD v.toNat default<=(l.foldl (worstS D) s).1)/\
  ((l.foldl (worstS D) s).1=s.1∨∃ v∈l,(l.foldl (worstS D) s).1=D.getD v.toNat default)
 | [],s,_,h=>⟨h,Int.le_refl _,fun v hv=>(by cases hv),.inl rfl⟩
 |x::l,s,hl,h=>by
  rw[List.foldl_cons]
  by_cases hc:s.1<D.getD x.toNat default
  ·have e:worstS D s x=(D.getD x.toNat default,x):=if_pos (.inr hc)
   rw[e]
   obtain⟨h1,h2,h3,h4⟩:=worst_set l (D.getD x.toNat default,x) (fun v hv=>hl v (List.mem_cons_of_mem _ hv)) (hl x (by simp))
   refine⟨h1,Int.le_trans (Int.le_of_lt hc) h2,fun v hv=>?_,?_⟩
   ·rcases List.mem_cons.1 hv with q|q
    ·subst q;exact h2
    ·exact h3 v q
   ·rcases h4 with q|⟨v,hv,q⟩
    ·exact .inr ⟨x,by simp,q⟩
    ·exact .inr ⟨v,List.mem_cons_of_mem _ hv,q⟩
  ·have e:worstS D s x=s:=if_neg (fun q=>q.elim (fun q=>by omega) hc)
   rw[e]
   obtain⟨h1,h2,h3,h4⟩:=worst_set l s (fun v hv=>hl v (List.mem_cons_of_mem _ hv)) h
   refine⟨h1,h2,fun v hv=>?_,?_⟩
   ·rcases List.mem_cons.1 hv with q|q
    ·subst q;omega
    ·exact h3 v q
   ·rcases h4 with q|⟨v,hv,q⟩
    ·exact .inl q
    ·exact .inr ⟨v,List.mem_cons_of_mem _ hv,q⟩
theorem worst_spec {D l:List Int} (hl:∀ v∈l,0<=v):(l=[]/\worstF D l=(0,-1))∨(l≠[]/\0<=(worstF D l).2/\(∀ v∈l,D.getD v.toNat default<=(worstF D l).1)/\∃ v∈l,(worstF D l).1=D.getD v.toNat default):=by
 cases l with
 |nil=>exact .inl ⟨rfl,rfl⟩
 |cons x l=>
  right
  refine⟨by simp,?_⟩
  unfold worstF
  rw[List.foldl_cons]
  have e:worstS D (0,-1) x=(D.getD x.toNat default,x):=if_pos (.inl (by show(-1:Int)<0;omega))
  rw[e]
  obtain⟨h1,h2,h3,h4⟩:=worst_set l (D.getD x.toNat default,x) (fun v hv=>hl v (List.mem_cons_of_mem _ hv)) (hl x (by simp))
  refine⟨h1,fun v hv=>?_,?_⟩
  ·rcases List.mem_cons.1 hv with q|q
   ·subst q;exact h2
   ·exact h3 v q
  ·rcases h4 with q|⟨v,hv,q⟩
   ·exact⟨x,by simp,q⟩
   ·exact⟨v,List.mem_cons_of_mem _ hv,q⟩
end Go.Sym
namespace Go.Sym
set_option linter.unusedVariables false
set_option linter.unusedSimpArgs false
open Go.Proofs
set_option maxRecDepth 100000
set_option maxHeartbeats 4000000
def neverC:CT where
 X:=Unit
 pre:=fun _=>True
 args:=fun _=>[]
 g0:=fun _=>[]
 res:=fun _=>.i .i64 4611686018427387904
 g1:=fun _=>[]
set_option maxRecDepth 100000 in
theorem never_keeps:Keeps cfgN0 Tryd.f44 neverC noIv:=Eq.mp (show((∀ x1:Unit,(True->(((4611686018427387904:Int)=4611686018427387904)/\True))))=(Keeps cfgN0 Tryd.f44 neverC noIv) by kernel_rfl) (fun x1=>fun h2=>⟨rfl,trivial⟩)
theorem never_good:Good Tryd.prog 44 neverC/\FnOk Tryd.prog 44:=good_of tok conN0 (fn:=Tryd.f44) rfl (by decide+kernel) (fun _=>rfl) never_keeps
def cfgNv:Cfg:=⟨T,[],[(44,.one neverC)],noInv,20,{}⟩
theorem conNv:ConOk Tryd.prog cfgNv:=ConL.ok (.cons (ConL.one never_good) .nil)
end Go.Sym