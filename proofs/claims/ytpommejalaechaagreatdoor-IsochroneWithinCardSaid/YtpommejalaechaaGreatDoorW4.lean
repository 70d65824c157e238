import Derived.Test.YtpommejalaechaaGreatDoorW3
import Derived.Test.YtpommejalaechaaGreatDoorJ9
import Derived.Test.YtpommejalaechaaGreatDoorJ10
namespace Go.Sym
set_option linter.unusedVariables false
theorem sortedE:∀ {a b:List Int},a.Pairwise (· <·)->b.Pairwise (· <·)->(∀ x,x∈a↔x∈b)->a=b
 | [],b,_,_,h=>by
  cases b with
  |nil=>rfl
  |cons y b=>exact absurd ((h y).2 (by simp)) (by simp)
 |x::a,[],_,_,h=>absurd ((h x).1 (by simp)) (by simp)
 |x::a,y::b,ha,hb,h=>by
  rw[List.pairwise_cons]at ha hb
  have e:x=y:=by
   rcases List.mem_cons.1 ((h x).1 (by simp))with q|q
   ·exact q
   ·rcases List.mem_cons.1 ((h y).2 (by simp))with r|r
    ·exact r.symm
    ·have:=ha.1 y r;have:=hb.1 x q;omega
  subst e
  congr 1
  refine sortedE ha.2 hb.2 fun z=>?_
  constructor
  ·intro hz
   rcases List.mem_cons.1 ((h z).1 (by simp[hz]))with q|q
   ·subst q;exact absurd (ha.1 z hz) (by omega)
   ·exact q
  ·intro hz
   rcases List.mem_cons.1 ((h z).2 (by simp[hz]))with q|q
   ·subst q;exact absurd (hb.1 z hz) (by omega)
   ·exact q
theorem srcL_mem {s:List Bool} {v:Int}:v∈srcL s↔0<=v/\v<s.length/\s.getD v.toNat default=true:=by
 unfold srcL
 rw[List.mem_map]
 constructor
 ·rintro⟨i,hi,rfl⟩
  have h:=List.mem_filter.1 hi
  have:=List.mem_range.1 h.1
  exact⟨by omega,by omega,by rw[Int.toNat_natCast];exact h.2⟩
 ·rintro⟨h1,h2,h3⟩
  exact⟨v.toNat,List.mem_filter.2 ⟨List.mem_range.2 (by omega),h3⟩,by omega⟩
theorem srcL_sorted (s:List Bool):(srcL s).Pairwise (· <·):=by
 unfold srcL
 rw[List.pairwise_map]
 exact(List.Pairwise.filter _ (List.pairwise_lt_range (n:=s.length))).imp fun h=>by omega
theorem getD_setB {s:List Bool} {v i:Nat} {b:Bool}:(s.set v b).getD i default=if v=i/\i<s.length then b else s.getD i default:=by
 rw[List.getD_eq_getElem?_getD,List.getD_eq_getElem?_getD,List.getElem?_set]
 by_cases h:v=i
 ·subst h
  by_cases h2:v<s.length
  ·rw[if_pos rfl,if_pos h2,if_pos ⟨rfl,h2⟩];rfl
  ·rw[if_pos rfl,if_neg h2,if_neg (fun q=>h2 q.2),List.getElem?_eq_none (by omega)]
 ·rw[if_neg h,if_neg (fun q=>h q.1)]
theorem orR_mem {v:Int}:∀ {a:List Int} {x:Int},x∈orR a [v]↔x∈a∨x=v
 | [],x=>by simp[orR]
 |y::a,x=>by
  rw[orR]
  split
  ·rw[List.mem_cons,orR_mem,List.mem_cons,or_assoc]
  ·split
   ·rw[orR_nil,List.mem_cons,or_comm]
   ·have e:y=v:=by omega
    rw[orR_nil,List.mem_cons,e]
    constructor
    ·rintro(q|q) <;>simp[q]
    ·rintro((q|q)|q) <;>simp[q]
theorem orR_sorted {v:Int}:∀ {a:List Int},a.Pairwise (· <·)->(orR a [v]).Pairwise (· <·)
 | [],_=>by simp[orR]
 |y::a,h=>by
  rw[List.pairwise_cons]at h
  rw[orR]
  split
  ·rw[List.pairwise_cons]
   refine⟨fun z hz=>?_,orR_sorted h.2⟩
   rcases orR_mem.1 hz with q|q
   ·exact h.1 z q
   ·omega
  ·split
   ·rw[orR_nil,List.pairwise_cons,List.pairwise_cons]
    refine⟨fun z hz=>?_,h⟩
    rcases List.mem_cons.1 hz with q|q
    ·omega
    ·have:=h.1 z q;omega
   ·rw[orR_nil,List.pairwise_cons];exact h
def rF (m:MS):FX:=⟨m.g,m.ts,srcL m.src⟩
theorem in_src {m:MS} (h:m.src.length=m.g.n) {v:Int} (h1:0<=v) (h2:v<m.g.n):v∈srcL m.src↔m.src.getD v.toNat default=true:=by
 rw[srcL_mem];exact⟨fun q=>q.2.2,fun q=>⟨h1,by omega,q⟩⟩
theorem put_is {m:MS} (h:m.src.length=m.g.n) (v:Int):putE (rF m) v=addE m v/\putS (rF m) v=srcL (addM m v).src:=by
 by_cases hv:0<=v/\v<m.g.n
 ·have q:¬ (v<0∨((rF m).g.n:Int)<=v):=fun w=>by rcases w with w|w;omega;have:(m.g.n:Int)<=v:=w;omega
  have q1:inN1 m v=true:=decide_eq_true hv
  unfold putE putS addE addM
  rw[if_neg q,if_neg q,q1]
  cases hb:m.src.getD v.toNat default with
  |true=>
   have hm:v∈(rF m).src:=(in_src h hv.1 hv.2).2 hb
   rw[if_pos hm,if_pos hm];exact⟨rfl,rfl⟩
  |false=>
   have hm:¬ v∈(rF m).src:=fun w=>by have:=(in_src h hv.1 hv.2).1 w;rw[hb]at this;cases this
   rw[if_neg hm,if_neg hm]
   refine⟨rfl,sortedE (orR_sorted (srcL_sorted _)) (srcL_sorted _) fun x=>?_⟩
   rw[orR_mem]
   show x∈srcL m.src∨x=v↔x∈srcL (m.src.set v.toNat true)
   rw[srcL_mem,srcL_mem,List.length_set,getD_setB]
   constructor
   ·rintro(⟨a,b,c⟩|rfl)
    ·refine⟨a,b,?_⟩;split
     ·rfl
     ·exact c
    ·exact⟨hv.1,by omega,by rw[if_pos ⟨rfl,by omega⟩]⟩
   ·rintro⟨a,b,c⟩
    split at c
    ·right;omega
    ·exact .inl ⟨a,b,c⟩
 ·have q:v<0∨((rF m).g.n:Int)<=v:=by
   rcases Classical.em (v<0)with w|w
   ·exact .inl w
   ·right;show(m.g.n:Int)<=v;omega
  have q1:inN1 m v=false:=decide_eq_false hv
  have p:=put_0 q
  unfold addE addM
  rw[q1]
  exact⟨p.2,by rw[p.1,if_neg (fun w=>by cases w.1)];rfl⟩
theorem drop_is {m:MS} (h:m.src.length=m.g.n) (v:Int):remB m v=decide (v∈(rF m).src)/\leL (rF m).src [v]=srcL (remM m v).src:=by
 have key:leL (rF m).src [v]=srcL (if inN1 m v=true then m.src.set v.toNat false else m.src):=by
  refine sortedE (List.Pairwise.filter _ (srcL_sorted _)) (srcL_sorted _) fun x=>?_
  unfold leL
  rw[List.mem_filter]
  show x∈srcL m.src/\_↔_
  have e:((!decide (x∈[v]))=true)↔¬ x=v:=by simp
  rw[e,srcL_mem,srcL_mem]
  by_cases hv:0<=v/\v<m.g.n
  ·have hi:inN1 m v=true:=decide_eq_true hv
   rw[if_pos hi,List.length_set,getD_setB]
   constructor
   ·rintro⟨⟨a,b,c⟩,d⟩
    exact⟨a,b,by rw[if_neg (fun w=>d (by omega))];exact c⟩
   ·rintro⟨a,b,c⟩
    split at c
    ·cases c
    ·rename_i w
     exact⟨⟨a,b,c⟩,fun e=>w ⟨by rw[e],by omega⟩⟩
  ·have hi:¬ inN1 m v=true:=fun w=>hv (of_decide_eq_true w)
   rw[if_neg hi]
   exact⟨fun w=>w.1,fun w=>⟨w,fun e=>hv (by rw[<- e];exact⟨w.1,by have:=w.2.1;omega⟩)⟩⟩
 have e2:(remM m v).src=if inN1 m v=true then m.src.set v.toNat false else m.src:=by
  unfold remM
  by_cases hi:inN1 m v=true
  ·rw[if_pos hi]
   cases hb:m.src.getD v.toNat default with
   |true=>rw[if_pos ⟨hi,rfl⟩]
   |false=>
    rw[if_neg (fun w=>by cases w.2)]
    apply List.ext_getElem (by rw[List.length_set])
    intro i h1 h2
    rw[List.getElem_set]
    split
    ·rename_i w;subst w
     rw[List.getD_eq_getElem?_getD,List.getElem?_eq_getElem h1]at hb;exact hb
    ·rfl
  ·rw[if_neg hi,if_neg (fun w=>hi w.1)]
 refine⟨?_,by rw[key,e2]⟩
 unfold remB
 rw[Bool.eq_iff_iff,Bool.and_eq_true]
 show _↔decide (v∈srcL m.src)=true
 rw[decide_eq_true_iff]
 constructor
 ·rintro⟨a,b⟩
  have:=of_decide_eq_true (show decide _=true from a)
  exact(in_src h this.1 this.2).2 b
 ·intro a
  have:=srcL_mem.1 a
  exact⟨decide_eq_true ⟨this.1,by omega⟩,this.2.2⟩
theorem set_noop {l:List Int} {i:Nat}:l.set i (l.getD i default)=l:=by
 apply List.ext_getElem (by rw[List.length_set])
 intro j h1 h2
 rw[List.getElem_set]
 split
 ·rename_i w;subst w;rw[List.getD_eq_getElem?_getD,List.getElem?_eq_getElem h2];rfl
 ·rfl
theorem cnt_self (a:List Int) (k:Nat):cntAt a a k=0:=by unfold cntAt;simp
theorem change_is (m:MS) (e t:Int):chN (rF m) e t=setN m e t/\chE (rF m) e t=setE m e t/\chT (rF m) e t=(setM m e t).ts:=by
 have ho:okR (rF m) e t=okE m e t:=rfl
 unfold chN chE chT setN setE setM isCh
 rw[ho]
 cases hk:okE m e t with
 |false=>exact⟨rfl,rfl,rfl⟩
 |true=>
  by_cases he:m.ts.getD e.toNat default=t
  ·rw[decide_eq_false (fun q=>q he)]
   have q:(m.ts.set e.toNat t)=m.ts:=by rw[<- he];exact set_noop
   have q2:(chF (rF m) e t).d=(rF m).d:=by unfold chF FX.d;show distG m.g (m.ts.set e.toNat t) _ _=_;rw[q];rfl
   refine⟨?_,rfl,?_⟩
   ·show cntAt (rF m).d (chF (rF m) e t).d m.g.n=0
    rw[q2];exact cnt_self _ _
   ·show m.ts.set e.toNat t=m.ts;exact q
  ·rw[decide_eq_true he]
   exact⟨rfl,rfl,rfl⟩
theorem addM_ok {x:MS} (h:MSok x) (v:Int):MSok (addM x v):=by
 unfold addM
 split
 ·exact⟨h.g,h.n,h.ts,h.tv,by show(x.src.set v.toNat true).length=x.g.n;rw[List.length_set];exact h.src,h.dl,h.sl,fun q=>by cases q⟩
 ·exact h
theorem remM_ok {x:MS} (h:MSok x) (v:Int):MSok (remM x v):=by
 unfold remM
 split
 ·exact⟨h.g,h.n,h.ts,h.tv,by show(x.src.set v.toNat false).length=x.g.n;rw[List.length_set];exact h.src,h.dl,h.sl,fun q=>by cases q⟩
 ·exact h
theorem isCh_ok {x:MS} {e t:Int} (h:isCh x e t=true):okE x e t=true:=by
 unfold isCh at h
 cases q:okE x e t with
 |true=>rfl
 |false=>rw[q]at h;cases h
theorem setM_ok {x:MS} (h:MSok x) (e t:Int):MSok (setM x e t):=by
 unfold setM
 split
 ·rename_i q;exact mup_ok (chg_ok h (isCh_ok q)).1
 ·exact h
theorem setM_g (x:MS) (e t:Int):(setM x e t).g=x.g:=by unfold setM;split <;>rfl
theorem setM_src (x:MS) (e t:Int):(setM x e t).src=x.src:=by unfold setM;split <;>rfl
structure Ac where
 k:Int
 a:Int
 t:Int
instance:Inhabited Ac:=⟨⟨0,0,0⟩⟩
def kA:List Kd:=[.int .i64,.int .i64,.int .i64]
def encA (x:Ac):Nat->D:=encN [.i x.k,.i x.a,.i x.t]
def doM (m:MS) (x:Ac):MS:=if x.k=0 then addM m x.a else if x.k=1 then remM m x.a else if x.k=2 then setM m x.a x.t else m
theorem doM_0 {m:MS} {x:Ac} (h:x.k=0):doM m x=addM m x.a:=if_pos h
theorem doM_1 {m:MS} {x:Ac} (h0:¬ x.k=0) (h:x.k=1):doM m x=remM m x.a:=by unfold doM;rw[if_neg h0,if_pos h]
theorem doM_2 {m:MS} {x:Ac} (h0:¬ x.k=0) (h1:¬ x.k=1) (h:x.k=2):doM m x=setM m x.a x.t:=by unfold doM;rw[if_neg h0,if_neg h1,if_pos h]
theorem doM_3 {m:MS} {x:Ac} (h0:¬ x.k=0) (h1:¬ x.k=1) (h:¬ x.k=2):doM m x=m:=by unfold doM;rw[if_neg h0,if_neg h1,if_neg h]
theorem doM_ok {m:MS} (h:MSok m) (x:Ac):MSok (doM m x):=by
 unfold doM
 split
 ·exact addM_ok h _
 ·split
  ·exact remM_ok h _
  ·split
   ·exact setM_ok h _ _
   ·exact h
theorem doM_g (m:MS) (x:Ac):(doM m x).g=m.g:=by
 unfold doM
 split
 ·exact(addM_g _ _).1
 ·split
  ·exact(remM_g _ _).1
  ·split
   ·exact setM_g _ _ _
   ·rfl
end Go.Sym