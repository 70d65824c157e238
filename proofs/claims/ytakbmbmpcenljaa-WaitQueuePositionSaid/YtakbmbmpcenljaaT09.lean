import Derived.Test.YtakbmbmpcenljaaT04
import Derived.Test.YtakbmbmpcenljaaT06
import Derived.Test.YtakbmbmpcenljaaT08
import Derived.Test.YtakbmbmpcenljaaXD
namespace Go.Sym
set_option linter.unusedVariables false
set_option linter.unusedSimpArgs false
open Go.Proofs
set_option maxRecDepth 100000
set_option maxHeartbeats 16000000
structure PQx where
 d:Array Pl
 a:Nat
 b:Nat
 l:Nat
def pqF (x:PQx):Array Pl:=Sort.pdq ltP x.d x.a x.b x.l true true
structure PQpre (x:PQx):Prop where
 n:x.d.size<=30
 b:x.b<=x.d.size
 a:x.a<=x.b
 l:x.l<=100
 w:Sort.Below ltP x.a x.b x.d
def pqC (m:Nat):CT where
 X:=PQx
 pre:=fun x=>PQpre x/\x.b-x.a<m
 args:=fun x=>[.sl 100000 0 x.d.size,.i .i64 x.a,.i .i64 x.b,.i .i64 x.l,cmA]
 g0:=fun x=>[(100000,.rows .own kP x.d.size (aR x.d))]
 res:=fun _=>.tup []
 g1:=fun x=>[(100000,.rows .own kP x.d.size (aR (pqF x)))]
structure PS where
 a:Nat
 b:Nat
 l:Nat
 wb:Bool
 wp:Bool
 d:Array Pl
structure PQok (x:PQx) (s:PS):Prop where
 b:s.b<=x.d.size
 a:s.a<=s.b
 l:s.l<=100
 m:s.b-s.a<=x.b-x.a
 n:s.d.size=x.d.size
 w:Sort.Below ltP s.a s.b s.d
 eq:Sort.pdq ltP s.d s.a s.b s.l s.wb s.wp=pqF x
def s1 (s:PS):Array Pl:=if(!s.wb)=true then brF s.d s.a s.b else s.d
def sL (s:PS):Nat:=if(!s.wb)=true then s.l-1 else s.l
def sC (s:PS):Nat × Sort.Hint:=chF (s1 s) s.a s.b
def s2 (s:PS):Array Pl:=if(sC s).2= .decreasing then reF (s1 s) s.a s.b else s1 s
def sP (s:PS):Nat:=if(sC s).2= .decreasing then(s.b-1)-((sC s).1-s.a)else(sC s).1
def sH (s:PS):Sort.Hint:=if(sC s).2= .decreasing then .increasing else(sC s).2
def sInc (s:PS):Bool:=s.wb&&s.wp&&decide (sH s= .increasing)
def sA (s:PS):SAx:=⟨s2 s,s.a,s.b⟩
def sY (s:PS):SPx:=⟨s2 s,s.a,s.b,sP s⟩
def sPI (s:PS):Bool:=sInc s&&decide (scF (sA s)=s.b)
def sEq (s:PS):Bool:=decide (s.a>0)&& !ltP (s2 s)[s.a-1]! (s2 s)[sP s]!
def sLt (s:PS):Prop:=(ptF (sY s)).1-s.a<s.b-(ptF (sY s)).1
instance (s:PS):Decidable (sLt s):=inferInstanceAs (Decidable (_<_))
theorem swoP:Sort.SWO ltP where
 irrefl x:=by rw[<- Bool.not_eq_true,ltP_iff];omega
 trans x y z h1 h2:=by rw[ltP_iff]at *;omega
 ntrans x y z h1 h2:=by rw[<- Bool.not_eq_true,ltP_iff]at *;omega
structure Big (s:PS):Prop where
 n:s.d.size<=30
 b:s.b<=s.d.size
 a:12<s.b-s.a
 l:s.l≠0
 w:Sort.Below ltP s.a s.b s.d
theorem s1_perm {s:PS} (h:Big s):Sort.PermIn s.a s.b s.d (s1 s):=by
 have:=h.a
 unfold s1
 split
 ·exact Sort.breakPatterns_holds s.d s.a s.b (by omega) h.b
 ·exact Sort.permIn_refl _ _ _
theorem sC_rng {s:PS} (h:Big s):s.a<=(sC s).1/\(sC s).1<s.b:=Sort.choosePivot_holds ltP (s1 s) s.a s.b (by have:=h.a;omega)
theorem sP_rng {s:PS} (h:Big s):s.a<=sP s/\sP s<s.b:=by
 have:=sC_rng h
 unfold sP
 split <;>omega
theorem s2_perm {s:PS} (h:Big s):Sort.PermIn s.a s.b s.d (s2 s):=by
 have:=h.a
 have p:=s1_perm h
 unfold s2
 split
 ·exact Sort.permIn_trans _ _ _ _ _ p (Sort.reverseRange_holds (s1 s) s.a s.b (by omega) (by rw[p.1];exact h.b))
 ·exact p
theorem s1_size {s:PS} (h:Big s):(s1 s).size=s.d.size:=(s1_perm h).1
theorem s2_size {s:PS} (h:Big s):(s2 s).size=s.d.size:=(s2_perm h).1
theorem s2_below {s:PS} (h:Big s):Sort.Below ltP s.a s.b (s2 s):=h.w.perm h.b (s2_perm h)
theorem sA_ok {s:PS} (h:Big s):SAok (sA s):=by
 have e:=s2_size h;have:=h.n;have:=h.b;have:=h.a
 exact⟨by show(s2 s).size<=30;omega,by show s.b<=(s2 s).size;omega,by show s.a<s.b;omega⟩
theorem sY_ok {s:PS} (h:Big s):SPok (sY s):=by
 have e:=s2_size h;have:=h.n;have:=h.b;have:=sP_rng h
 exact⟨by show(s2 s).size<=30;omega,by show s.b<=(s2 s).size;omega,this.1,this.2⟩
theorem pq_unf {s:PS} (h:Big s):Sort.pdq ltP s.d s.a s.b s.l s.wb s.wp=
  (if sPI s=true then s2 s else if sEq s=true then(if s.a<(peF (sY s)).1/\(peF (sY s)).1<=s.b then Sort.pdq ltP (peF (sY s)).2 (peF (sY s)).1 s.b (sL s) s.wb s.wp else(peF (sY s)).2)
   else if s.a<=(ptF (sY s)).1/\(ptF (sY s)).1<s.b then
    if sLt s then Sort.pdq ltP (Sort.pdq ltP (ptF (sY s)).2.2 s.a (ptF (sY s)).1 (sL s) true true) ((ptF (sY s)).1+1) s.b (sL s) (decide ((ptF (sY s)).1-s.a ≥ (s.b-s.a) / 8)) (ptF (sY s)).2.1
    else Sort.pdq ltP (Sort.pdq ltP (ptF (sY s)).2.2 ((ptF (sY s)).1+1) s.b (sL s) true true) s.a (ptF (sY s)).1 (sL s) (decide (s.b-(ptF (sY s)).1 ≥ (s.b-s.a) / 8)) (ptF (sY s)).2.1
   else(ptF (sY s)).2.2):=by
 have ha:=h.a
 conv=>lhs;unfold Sort.pdq
 rw[if_neg (by omega),if_neg h.l]
 have hpi:(if sInc s=true then Sort.partialInsertionSort ltP (s2 s) s.a s.b else(s2 s,false))=(s2 s,sPI s):=by
  unfold sPI
  cases hi:sInc s with
  |true=>rw[if_pos rfl,Bool.true_and];exact pi_eq (sA_ok h)
  |false=>rw[if_neg (by simp),Bool.false_and]
 have hpe:Sort.partitionEqual ltP (s2 s) s.a s.b (sP s)=peF (sY s):=rfl
 have hpt:Sort.partition ltP (s2 s) s.a s.b (sP s)=ptF (sY s):=rfl
 have hq:sEq s=(decide (s.a>0)&& !ltP (s2 s)[s.a-1]! (s2 s)[sP s]!):=rfl
 have hl:sLt s=((ptF (sY s)).1-s.a<s.b-(ptF (sY s)).1):=rfl
 extract_lets d1 limit c d2 pivot hint pi
 have e1:d1=s1 s:=rfl
 have e2:limit=sL s:=rfl
 have e3:c=sC s:=rfl
 have e4:d2=s2 s:=rfl
 have e5:pivot=sP s:=rfl
 have e6:hint=sH s:=rfl
 have e7:pi=(if sInc s=true then Sort.partialInsertionSort ltP (s2 s) s.a s.b else(s2 s,false)):=rfl
 rw[hpi]at e7
 clear_value pi
 clear_value hint pivot
 clear_value d2
 clear_value c
 clear_value limit d1
 subst e7
 subst e5
 subst e2
 show(if sPI s=true then s2 s else if(decide (s.a>0)&& !ltP (s2 s)[s.a-1]! (s2 s)[sP s]!)=true then(match Sort.partitionEqual ltP (s2 s) s.a s.b (sP s)with|(mid,d4)=>if _h:s.a<mid/\mid<=s.b then Sort.pdq ltP d4 mid s.b (sL s) s.wb s.wp else d4)
  else(match Sort.partition ltP (s2 s) s.a s.b (sP s)with|(mid,alreadyPartitioned,d4)=>if _h:s.a<=mid/\mid<s.b then(if mid-s.a<s.b-mid then Sort.pdq ltP (Sort.pdq ltP d4 s.a mid (sL s) true true) (mid+1) s.b (sL s) (decide (mid-s.a ≥ (s.b-s.a) / 8)) alreadyPartitioned else Sort.pdq ltP (Sort.pdq ltP d4 (mid+1) s.b (sL s) true true) s.a mid (sL s) (decide (s.b-mid ≥ (s.b-s.a) / 8)) alreadyPartitioned)else d4))=_
 rw[<- hq,hpe,hpt]
 have f1:¬ (false=true):=by simp
 cases sPI s with
 |true=>rfl
 |false=>
  rw[if_neg f1,if_neg f1]
  cases sEq s with
  |true=>
   rw[if_pos rfl,if_pos rfl]
   generalize peF (sY s)=q
   obtain⟨mid,d4⟩:=q
   rfl
  |false=>
   rw[if_neg f1,if_neg f1]
   have:∀ q:Nat × Bool × Array Pl,(match q with|(mid,alreadyPartitioned,d4)=>if _h:s.a<=mid/\mid<s.b then(if mid-s.a<s.b-mid then Sort.pdq ltP (Sort.pdq ltP d4 s.a mid (sL s) true true) (mid+1) s.b (sL s) (decide (mid-s.a ≥ (s.b-s.a) / 8)) alreadyPartitioned else Sort.pdq ltP (Sort.pdq ltP d4 (mid+1) s.b (sL s) true true) s.a mid (sL s) (decide (s.b-mid ≥ (s.b-s.a) / 8)) alreadyPartitioned)else d4)=
     (if s.a<=q.1/\q.1<s.b then(if q.1-s.a<s.b-q.1 then Sort.pdq ltP (Sort.pdq ltP q.2.2 s.a q.1 (sL s) true true) (q.1+1) s.b (sL s) (decide (q.1-s.a ≥ (s.b-s.a) / 8)) q.2.1 else Sort.pdq ltP (Sort.pdq ltP q.2.2 (q.1+1) s.b (sL s) true true) s.a q.1 (sL s) (decide (s.b-q.1 ≥ (s.b-s.a) / 8)) q.2.1)else q.2.2):=by
    rintro⟨mid,ap,d4⟩;rfl
   exact this _
theorem PQok.big {x:PQx} (hx:PQpre x) {s:PS} (h:PQok x s) (h12:¬ (s.b:Int)-s.a<=12) (hl:¬ (s.l:Int)=0):Big s:=by
 have:=hx.n;have:=h.n;have:=h.b;have:=h.a
 exact⟨by omega,by omega,by omega,by omega,h.w⟩
theorem pq_small {x:PQx} {s:PS} (h:PQok x s) (h12:(s.b:Int)-s.a<=12):inF s.d s.a s.b=pqF x:=by
 rw[<- h.eq]
 unfold Sort.pdq
 rw[if_pos (by omega)];rfl
theorem pq_heap {x:PQx} {s:PS} (h:PQok x s) (h12:¬ (s.b:Int)-s.a<=12) (hl:(s.l:Int)=0):hsF s.d s.a s.b=pqF x:=by
 rw[<- h.eq]
 unfold Sort.pdq
 rw[if_neg (by omega),if_pos (by omega)];rfl
theorem pq_ins {x:PQx} {s:PS} (h:PQok x s) (g:Big s) (hp:sPI s=true):s2 s=pqF x:=by
 rw[<- h.eq,pq_unf g,if_pos hp]
theorem pe_mid {s:PS} (g:Big s) (he:sEq s=true):s.a<(peF (sY s)).1/\(peF (sY s)).1<=s.b/\(peF (sY s)).2.size=(s2 s).size/\Sort.Below ltP (peF (sY s)).1 s.b (peF (sY s)).2:=by
 have r:=sP_rng g
 unfold sEq at he
 rw[Bool.and_eq_true,decide_eq_true_iff,Bool.not_eq_true']at he
 have:=Sort.round_eq swoP (Sort.partitionEqual_holds ltP) (d3:=s2 s) (a:=s.a) (b:=s.b) (pivot:=sP s) he.1 r.1 r.2 (by rw[s2_size g];exact g.b) (s2_below g) he.2 (mid:=(peF (sY s)).1) (d4:=(peF (sY s)).2) rfl
 exact⟨this.1,this.2.1,this.2.2.1,this.2.2.2.1⟩
theorem sL_le {s:PS}:sL s<=s.l:=by unfold sL;split <;>omega
theorem pq_eq {x:PQx} {s:PS} (hx:PQpre x) (h:PQok x s) (g:Big s) (hp:sPI s=false) (he:sEq s=true):PQok x ⟨(peF (sY s)).1,s.b,sL s,s.wb,s.wp,(peF (sY s)).2⟩:=by
 obtain⟨k1,k2,k3,k4⟩:=pe_mid g he
 have:=h.b;have:=h.m;have:=h.l;have:=sL_le (s:=s)
 refine⟨h.b,k2,by show sL s<=100;omega,by show s.b-(peF (sY s)).1<=_;omega,by show(peF (sY s)).2.size=_;rw[k3,s2_size g,h.n],k4,?_⟩
 rw[<- h.eq,pq_unf g,if_neg (by rw[hp];simp),if_pos he,if_pos ⟨k1,k2⟩]
theorem pt_mid {s:PS} (g:Big s):s.a<=(ptF (sY s)).1/\(ptF (sY s)).1<s.b/\(ptF (sY s)).2.2.size=(s2 s).size/\Sort.Below ltP s.a (ptF (sY s)).1 (ptF (sY s)).2.2/\Sort.Below ltP ((ptF (sY s)).1+1) s.b (ptF (sY s)).2.2/\
  (∀ L,Sort.PermIn s.a (ptF (sY s)).1 (ptF (sY s)).2.2 L->Sort.SortedIn ltP s.a (ptF (sY s)).1 L->Sort.Below ltP ((ptF (sY s)).1+1) s.b L)/\
  (∀ L,Sort.PermIn ((ptF (sY s)).1+1) s.b (ptF (sY s)).2.2 L->Sort.SortedIn ltP ((ptF (sY s)).1+1) s.b L->Sort.Below ltP s.a (ptF (sY s)).1 L):=by
 have r:=sP_rng g
 have:=Sort.round_part swoP (Sort.partition_holds ltP) (d3:=s2 s) (a:=s.a) (b:=s.b) (pivot:=sP s) r.1 r.2 (by rw[s2_size g];exact g.b) (s2_below g) (mid:=(ptF (sY s)).1) (ap:=(ptF (sY s)).2.1) (d4:=(ptF (sY s)).2.2) rfl
 exact⟨this.1,this.2.1,this.2.2.1,this.2.2.2.1,this.2.2.2.2.1,fun L a b=>(this.2.2.2.2.2.1 L a b).1,fun L a b=>(this.2.2.2.2.2.2 L a b).1⟩
theorem pq_sorts {x:PQx} (h:PQpre x):Sort.PermIn x.a x.b x.d (pqF x)/\Sort.SortedIn ltP x.a x.b (pqF x):=Sort.pdq_sorts ltP swoP x.d x.a x.b x.l true true h.a h.b h.w
def xL (s:PS):PQx:=⟨(ptF (sY s)).2.2,s.a,(ptF (sY s)).1,sL s⟩
def xR (s:PS):PQx:=⟨(ptF (sY s)).2.2,(ptF (sY s)).1+1,s.b,sL s⟩
theorem xL_ok {x:PQx} (hx:PQpre x) {s:PS} (h:PQok x s) (g:Big s):PQpre (xL s):=by
 obtain⟨k1,k2,k3,k4,k5,_,_⟩:=pt_mid g
 have e:=s2_size g;have:=g.n;have:=g.b;have:=h.l;have:=sL_le (s:=s)
 exact⟨by show(ptF (sY s)).2.2.size<=30;omega,by show(ptF (sY s)).1<=(ptF (sY s)).2.2.size;omega,k1,by show sL s<=100;omega,k4⟩
theorem xR_ok {x:PQx} (hx:PQpre x) {s:PS} (h:PQok x s) (g:Big s):PQpre (xR s):=by
 obtain⟨k1,k2,k3,k4,k5,_,_⟩:=pt_mid g
 have e:=s2_size g;have:=g.n;have:=g.b;have:=h.l;have:=sL_le (s:=s)
 exact⟨by show(ptF (sY s)).2.2.size<=30;omega,by show s.b<=(ptF (sY s)).2.2.size;omega,by show(ptF (sY s)).1+1<=s.b;omega,by show sL s<=100;omega,k5⟩
def nL (s:PS):PS:=⟨(ptF (sY s)).1+1,s.b,sL s,decide (((s.b:Int)-s.a) / 8<=((ptF (sY s)).1:Int)-s.a),(ptF (sY s)).2.1,pqF (xL s)⟩
def nR (s:PS):PS:=⟨s.a,(ptF (sY s)).1,sL s,decide (((s.b:Int)-s.a) / 8<=(s.b:Int)-(ptF (sY s)).1),(ptF (sY s)).2.1,pqF (xR s)⟩
theorem pq_left {x:PQx} (hx:PQpre x) {s:PS} (h:PQok x s) (g:Big s) (hp:sPI s=false) (he:sEq s=false) (hl:((ptF (sY s)).1:Int)-s.a<(s.b:Int)-(ptF (sY s)).1):PQok x (nL s):=by
 obtain⟨k1,k2,k3,k4,k5,k6,k7⟩:=pt_mid g
 have:=h.b;have:=h.m;have:=h.l;have:=sL_le (s:=s)
 have p:=pq_sorts (xL_ok hx h g)
 have e:(pqF (xL s)).size=(ptF (sY s)).2.2.size:=p.1.1
 refine⟨h.b,by show(ptF (sY s)).1+1<=s.b;omega,by show sL s<=100;omega,by show s.b-((ptF (sY s)).1+1)<=_;omega,by show(pqF (xL s)).size=_;rw[e,k3,s2_size g,h.n],k6 _ p.1 p.2,?_⟩
 rw[<- h.eq,pq_unf g,if_neg (by rw[hp];simp),if_neg (by rw[he];simp),if_pos ⟨k1,k2⟩,if_pos (show sLt s by show(ptF (sY s)).1-s.a<s.b-(ptF (sY s)).1;omega)]
 have ew:decide (((s.b:Int)-s.a) / 8<=((ptF (sY s)).1:Int)-s.a)=decide ((ptF (sY s)).1-s.a ≥ (s.b-s.a) / 8):=decide_eq_decide.2 (by omega)
 show Sort.pdq ltP (pqF (xL s)) ((ptF (sY s)).1+1) s.b (sL s) (decide (((s.b:Int)-s.a) / 8<=((ptF (sY s)).1:Int)-s.a)) (ptF (sY s)).2.1=_
 rw[ew];rfl
theorem pq_right {x:PQx} (hx:PQpre x) {s:PS} (h:PQok x s) (g:Big s) (hp:sPI s=false) (he:sEq s=false) (hl:¬ ((ptF (sY s)).1:Int)-s.a<(s.b:Int)-(ptF (sY s)).1):PQok x (nR s):=by
 obtain⟨k1,k2,k3,k4,k5,k6,k7⟩:=pt_mid g
 have:=h.b;have:=h.m;have:=h.l;have:=sL_le (s:=s)
 have p:=pq_sorts (xR_ok hx h g)
 have e:(pqF (xR s)).size=(ptF (sY s)).2.2.size:=p.1.1
 refine⟨by show(ptF (sY s)).1<=x.d.size;omega,k1,by show sL s<=100;omega,by show(ptF (sY s)).1-s.a<=_;omega,by show(pqF (xR s)).size=_;rw[e,k3,s2_size g,h.n],k7 _ p.1 p.2,?_⟩
 rw[<- h.eq,pq_unf g,if_neg (by rw[hp];simp),if_neg (by rw[he];simp),if_pos ⟨k1,k2⟩,if_neg (show ¬ sLt s by show ¬ (ptF (sY s)).1-s.a<s.b-(ptF (sY s)).1;omega)]
 have ew:decide (((s.b:Int)-s.a) / 8<=(s.b:Int)-(ptF (sY s)).1)=decide (s.b-(ptF (sY s)).1 ≥ (s.b-s.a) / 8):=decide_eq_decide.2 (by omega)
 show Sort.pdq ltP (pqF (xR s)) s.a (ptF (sY s)).1 (sL s) (decide (((s.b:Int)-s.a) / 8<=(s.b:Int)-(ptF (sY s)).1)) (ptF (sY s)).2.1=_
 rw[ew];rfl
def pqI (x:PQx) (id:Nat):Option Inv:=match id with
 | 0 => some { X := PS, ok := fun s => PQok x s, fr := fun s => [(1, .i .i64 s.a), (2, .i .i64 s.b), (3, .i .i64 s.l), (10, .b s.wb), (11, .b s.wp)], hp := fun s => [(100000, .rows .own kP x.d.size (aR s.d))], me := fun s => s.b - s.a,
               inn:=fun s id=>match id with
                |300039=>some { X:=Unit,ok:=fun _=>True,fr:=fun _=>[(3,.i .i64 (sL s))],hp:=fun _=>[(100000,.rows .own kP x.d.size (aR (s1 s)))],me:=fun _=>0 }
                |300056=>some { X:=Unit,ok:=fun _=>True,fr:=fun _=>[(13,.i .i64 (sP s)),(14,.i .i64 (hC (sH s)))],hp:=fun _=>[(100000,.rows .own kP x.d.size (aR (s2 s)))],me:=fun _=>0 }
                |100075=>some (cutB 75 (sInc s))
                |300075=>some { X:=Unit,ok:=fun _=>sPI s=false,fr:=fun _=>[],hp:=fun _=>[(100000,.rows .own kP x.d.size (aR (s2 s)))],me:=fun _=>0 }
                |100097=>some (cutB 97 (sEq s))
                |_=>none }
 |_=>none
def cfgPq (m:Nat):Cfg:=⟨T,[],[(35,.one qcC),(47,.one (srtC SAle fun x=>inF x.d x.a x.b)),(48,.one (srtC SAok fun x=>hsF x.d x.a x.b)),(49,.one (srtC SAok fun x=>brF x.d x.a x.b)),(50,.one chC),(51,.one (srtC SAok fun x=>reF x.d x.a x.b)),(52,.one piC),(53,.one peC),(54,.one ptC),(40,.one (pqC m))],noInv,21,{}⟩
theorem hC2 {h:Sort.Hint} (e:hC h=2):h= .decreasing:=by cases h <;>first|rfl|(exact absurd e (by decide))
theorem hC2n {h:Sort.Hint} (e:¬ hC h=2):¬ h= .decreasing:=fun q=>e (by rw[q];rfl)
theorem hC1 (h:Sort.Hint):decide (hC h=1)=decide (h= .increasing):=by cases h <;>rfl
theorem pq_le {x:PQx} (hx:PQpre x) {s:PS} (h:PQok x s):SAle ⟨s.d,s.a,s.b⟩:=by
 have:=hx.n;have:=h.n;have:=h.b
 exact⟨by show s.d.size<=30;omega,by show s.b<=s.d.size;omega,h.a⟩
theorem pq_sa {x:PQx} (hx:PQpre x) {s:PS} (h:PQok x s) (h12:¬ (s.b:Int)-s.a<=12):SAok ⟨s.d,s.a,s.b⟩:=by
 have:=hx.n;have:=h.n;have:=h.b
 exact⟨by show s.d.size<=30;omega,by show s.b<=s.d.size;omega,by show s.a<s.b;omega⟩
theorem s1_ok {s:PS} (g:Big s):SAok ⟨s1 s,s.a,s.b⟩:=by
 have e:=s1_size g;have:=g.n;have:=g.b;have:=g.a
 exact⟨by show(s1 s).size<=30;omega,by show s.b<=(s1 s).size;omega,by show s.a<s.b;omega⟩
set_option maxRecDepth 100000 in
theorem pq_keeps:∀ m,Keeps (cfgPq m) Try.f40 (pqC (m+1)) pqI:=Eq.mp (show((∀ m1:Nat,(∀ x2:PQx,((PQpre x2/\x2.b-x2.a<m1+(1:Nat))->(∃ x4:PS,(((PQok x2 x4)/\((((x2.a:Int)=(x4.a:Int))/\(((x2.b:Int)=(x4.b:Int))/\(((x2.l:Int)=(x4.l:Int))/\(true=x4.wb/\(true=x4.wp/\((0=0/\(Array.size x2.d=Array.size x2.d))/\(True/\True)))))))/\(((RLe (Array.size x2.d) (Array.size x2.d))/\(RowsEq [.int .i64,.int .i64,.int .i64] (Array.size x2.d) (aR x2.d) (aR x4.d)))/\True)))/\(∀ x5:PS,((PQok x2 x5)->((((-9223372036854775808:Int)<=(x5.b:Int)-(x5.a:Int))/\((x5.b:Int)-(x5.a:Int)<=(9223372036854775807:Int)))/\(((decide ((x5.b:Int)-(x5.a:Int)<=(12:Int))=true)->(∃ x8:SAx,((SAle x8)/\(((0=0/\(Array.size x2.d=Array.size x8.d))/\(((x5.a:Int)=(x8.a:Int))/\(((x5.b:Int)=(x8.b:Int))/\(True/\True))))/\((((RLe (Array.size x8.d) (Array.size x2.d))/\(RowsEq [.int .i64,.int .i64,.int .i64] (Array.size x8.d) (aR x5.d) (aR x8.d)))/\True)/\(True/\(((RLe (Array.size x2.d) (Array.size x8.d))/\(RowsEq [.int .i64,.int .i64,.int .i64] (Array.size x2.d) (aR (inF x8.d x8.a x8.b)) (aR (pqF x2))))/\True)))))))/\((decide ((x5.b:Int)-(x5.a:Int)<=(12:Int))=false)->(((decide ((x5.l:Int)=0)=true)->(∃ x11:SAx,((SAok x11)/\(((0=0/\(Array.size x2.d=Array.size x11.d))/\(((x5.a:Int)=(x11.a:Int))/\(((x5.b:Int)=(x11.b:Int))/\(True/\True))))/\((((RLe (Array.size x11.d) (Array.size x2.d))/\(RowsEq [.int .i64,.int .i64,.int .i64] (Array.size x11.d) (aR x5.d) (aR x11.d)))/\True)/\(True/\(((RLe (Array.size x2.d) (Array.size x11.d))/\(RowsEq [.int .i64,.int .i64,.int .i64] (Array.size x2.d) (aR (hsF x11.d x11.a x11.b)) (aR (pqF x2))))/\True)))))))/\((decide ((x5.l:Int)=0)=false)->(((((!x5.wb)=true)->(∃ x14:SAx,((SAok x14)/\(((0=0/\(Array.size x2.d=Array.size x14.d))/\(((x5.a:Int)=(x14.a:Int))/\(((x5.b:Int)=(x14.b:Int))/\(True/\True))))/\((((RLe (Array.size x14.d) (Array.size x2.d))/\(RowsEq [.int .i64,.int .i64,.int .i64] (Array.size x14.d) (aR x5.d) (aR x14.d)))/\True)/\((((-9223372036854775808:Int)<=(x5.l:Int)-1)/\((x5.l:Int)-1<=(9223372036854775807:Int)))/\(∃ x15:Unit,(True/\((((x5.l:Int)-1=(↑(sL x5):Int))/\(((x5.b:Int)-(x5.a:Int)=(x5.b:Int)-(x5.a:Int))/\(((x5.a:Int)=(x5.a:Int))/\(((x5.b:Int)=(x5.b:Int))/\(x5.wb=x5.wb/\(x5.wp=x5.wp/\((0=0/\(Array.size x2.d=Array.size x2.d))/\(True/\True))))))))/\(((RLe (Array.size x2.d) (Array.size x14.d))/\(RowsEq [.int .i64,.int .i64,.int .i64] (Array.size x2.d) (aR (brF x14.d x14.a x14.b)) (aR (s1 x5))))/\True))))))))))/\(((!x5.wb)=false)->(∃ x17:Unit,(True/\((((x5.l:Int)=(↑(sL x5):Int))/\(((x5.b:Int)-(x5.a:Int)=(x5.b:Int)-(x5.a:Int))/\(((x5.a:Int)=(x5.a:Int))/\(((x5.b:Int)=(x5.b:Int))/\(x5.wb=x5.wb/\(x5.wp=x5.wp/\((0=0/\(Array.size x2.d=Array.size x2.d))/\(True/\True))))))))/\(((RLe (Array.size x2.d) (Array.size x2.d))/\(RowsEq [.int .i64,.int .i64,.int .i64] (Array.size x2.d) (aR x5.d) (aR (s1 x5))))/\True))))))/\(∀ y18:Unit,(True->(∃ x20:SAx,((SAok x20)/\(((0=0/\(Array.size x2.d=Array.size x20.d))/\(((x5.a:Int)=(x20.a:Int))/\(((x5.b:Int)=(x20.b:Int))/\(True/\True))))/\((((RLe (Array.size x20.d) (Array.size x2.d))/\(RowsEq [.int .i64,.int .i64,.int .i64] (Array.size x20.d) (aR (s1 x5)) (aR x20.d)))/\True)/\((((decide (hC (Prod.snd (chF x20.d x20.a x20.b))=(2:Int))=true)->(∃ x22:SAx,((SAok x22)/\(((0=0/\(Array.size x2.d=Array.size x22.d))/\(((x5.a:Int)=(x22.a:Int))/\(((x5.b:Int)=(x22.b:Int))/\(True/\True))))/\((((RLe (Array.size x22.d) (Array.size x2.d))/\(RowsEq [.int .i64,.int .i64,.int .i64] (Array.size x22.d) (aR (s1 x5)) (aR x22.d)))/\True)/\((((-9223372036854775808:Int)<=(x5.b:Int)-1)/\((x5.b:Int)-1<=(9223372036854775807:Int)))/\((((-9223372036854775808:Int)<=(↑(Prod.fst (chF x20.d x20.a x20.b)):Int)-(x5.a:Int))/\((↑(Prod.fst (chF x20.d x20.a x20.b)):Int)-(x5.a:Int)<=(9223372036854775807:Int)))/\((((-9223372036854775808:Int)<=(x5.b:Int)-1-((↑(Prod.fst (chF x20.d x20.a x20.b)):Int)-(x5.a:Int)))/\((x5.b:Int)-1-((↑(Prod.fst (chF x20.d x20.a x20.b)):Int)-(x5.a:Int))<=(9223372036854775807:Int)))/\(∃ x23:Unit,(True/\((((x5.b:Int)-1-((↑(Prod.fst (chF x20.d x20.a x20.b)):Int)-(x5.a:Int))=(↑(sP x5):Int))/\(((1:Int)=hC (sH x5))/\(((↑(sL x5):Int)=(↑(sL x5):Int))/\(((x5.b:Int)-(x5.a:Int)=(x5.b:Int)-(x5.a:Int))/\(((x5.a:Int)=(x5.a:Int))/\(((x5.b:Int)=(x5.b:Int))/\(x5.wb=x5.wb/\(x5.wp=x5.wp/\((0=0/\(Array.size x2.d=Array.size x2.d))/\(True/\True))))))))))/\(((RLe (Array.size x2.d) (Array.size x22.d))/\(RowsEq [.int .i64,.int .i64,.int .i64] (Array.size x2.d) (aR (reF x22.d x22.a x22.b)) (aR (s2 x5))))/\True))))))))))))/\((decide (hC (Prod.snd (chF x20.d x20.a x20.b))=(2:Int))=false)->(∃ x25:Unit,(True/\((((↑(Prod.fst (chF x20.d x20.a x20.b)):Int)=(↑(sP x5):Int))/\((hC (Prod.snd (chF x20.d x20.a x20.b))=hC (sH x5))/\(((↑(sL x5):Int)=(↑(sL x5):Int))/\(((x5.b:Int)-(x5.a:Int)=(x5.b:Int)-(x5.a:Int))/\(((x5.a:Int)=(x5.a:Int))/\(((x5.b:Int)=(x5.b:Int))/\(x5.wb=x5.wb/\(x5.wp=x5.wp/\((0=0/\(Array.size x2.d=Array.size x2.d))/\(True/\True))))))))))/\(((RLe (Array.size x2.d) (Array.size x2.d))/\(RowsEq [.int .i64,.int .i64,.int .i64] (Array.size x2.d) (aR (s1 x5)) (aR (s2 x5))))/\True))))))/\(∀ y26:Unit,(True->(((x5.wb=true->((x5.wp=true->(∃ x30:Unit,(True/\((decide (hC (sH x5)=(1:Int))=sInc x5)/\True))))/\(x5.wp=false->(∃ x32:Unit,(True/\((false=sInc x5)/\True))))))/\(x5.wb=false->(∃ x34:Unit,(True/\((false=sInc x5)/\True)))))/\(∀ x35:Unit,(True->((((sInc x5=true)->(∃ x38:SAx,((SAok x38)/\(((0=0/\(Array.size x2.d=Array.size x38.d))/\(((x5.a:Int)=(x38.a:Int))/\(((x5.b:Int)=(x38.b:Int))/\(True/\True))))/\((((RLe (Array.size x38.d) (Array.size x2.d))/\(RowsEq [.int .i64,.int .i64,.int .i64] (Array.size x38.d) (aR (s2 x5)) (aR x38.d)))/\True)/\(((decide (scF x38=x38.b)=true)->(True/\(((RLe (Array.size x2.d) (Array.size x38.d))/\(RowsEq [.int .i64,.int .i64,.int .i64] (Array.size x2.d) (aR x38.d) (aR (pqF x2))))/\True)))/\((decide (scF x38=x38.b)=false)->(∃ x41:Unit,((sPI x5=false)/\((((↑(sP x5):Int)=(↑(sP x5):Int))/\((hC (sH x5)=hC (sH x5))/\(((↑(sL x5):Int)=(↑(sL x5):Int))/\(((x5.b:Int)-(x5.a:Int)=(x5.b:Int)-(x5.a:Int))/\(((x5.a:Int)=(x5.a:Int))/\(((x5.b:Int)=(x5.b:Int))/\(x5.wb=x5.wb/\(x5.wp=x5.wp/\((0=0/\(Array.size x2.d=Array.size x2.d))/\(True/\True))))))))))/\(((RLe (Array.size x2.d) (Array.size x38.d))/\(RowsEq [.int .i64,.int .i64,.int .i64] (Array.size x2.d) (aR x38.d) (aR (s2 x5))))/\True)))))))))))/\((sInc x5=false)->(∃ x43:Unit,((sPI x5=false)/\((((↑(sP x5):Int)=(↑(sP x5):Int))/\((hC (sH x5)=hC (sH x5))/\(((↑(sL x5):Int)=(↑(sL x5):Int))/\(((x5.b:Int)-(x5.a:Int)=(x5.b:Int)-(x5.a:Int))/\(((x5.a:Int)=(x5.a:Int))/\(((x5.b:Int)=(x5.b:Int))/\(x5.wb=x5.wb/\(x5.wp=x5.wp/\((0=0/\(Array.size x2.d=Array.size x2.d))/\(True/\True))))))))))/\(((RLe (Array.size x2.d) (Array.size x2.d))/\(RowsEq [.int .i64,.int .i64,.int .i64] (Array.size x2.d) (aR (s2 x5)) (aR (s2 x5))))/\True))))))/\(∀ y44:Unit,((sPI x5=false)->((((decide (0<(x5.a:Int))=true)->((((-9223372036854775808:Int)<=(x5.a:Int)-1)/\((x5.a:Int)-1<=(9223372036854775807:Int)))/\((((0:Int)<=(x5.a:Int)-1)/\((x5.a:Int)-1<(↑(Array.size x2.d):Int)))/\((0+Int.toNat ((x5.a:Int)-1)<Array.size x2.d)/\((((0:Int)<=(↑(sP x5):Int))/\((↑(sP x5):Int)<(↑(Array.size x2.d):Int)))/\((0+Int.toNat (↑(sP x5):Int)<Array.size x2.d)/\(∃ x47:P2x,(True/\((((((Array.toList (s2 x5)).getD (0+Int.toNat ((x5.a:Int)-1)) default).rk=x47.a.rk)/\((((Array.toList (s2 x5)).getD (0+Int.toNat ((x5.a:Int)-1)) default).si=x47.a.si)/\((((Array.toList (s2 x5)).getD (0+Int.toNat ((x5.a:Int)-1)) default).ca=x47.a.ca)/\True)))/\(((((Array.toList (s2 x5)).getD (0+Int.toNat (↑(sP x5):Int)) default).rk=x47.b.rk)/\((((Array.toList (s2 x5)).getD (0+Int.toNat (↑(sP x5):Int)) default).si=x47.b.si)/\((((Array.toList (s2 x5)).getD (0+Int.toNat (↑(sP x5):Int)) default).ca=x47.b.ca)/\True)))/\True))/\(True/\(∃ x48:Unit,(True/\(((!decide (cmpP x47.a x47.b<(0:Int)))=sEq x5)/\True)))))))))))))/\((decide (0<(x5.a:Int))=false)->(∃ x50:Unit,(True/\((false=sEq x5)/\True)))))/\(∀ x51:Unit,(True->(((sEq x5=true)->(∃ x54:SPx,((SPok x54)/\(((0=0/\(Array.size x2.d=Array.size x54.d))/\(((x5.a:Int)=(x54.a:Int))/\(((x5.b:Int)=(x54.b:Int))/\(((↑(sP x5):Int)=(x54.p:Int))/\(True/\True)))))/\((((RLe (Array.size x54.d) (Array.size x2.d))/\(RowsEq [.int .i64,.int .i64,.int .i64] (Array.size x54.d) (aR (s2 x5)) (aR x54.d)))/\True)/\(∃ x55:PS,((x55.b-x55.a<x5.b-x5.a)/\((PQok x2 x55)/\((((↑(Prod.fst (peF x54)):Int)=(x55.a:Int))/\(((x5.b:Int)=(x55.b:Int))/\(((↑(sL x5):Int)=(x55.l:Int))/\(x5.wb=x55.wb/\(x5.wp=x55.wp/\((0=0/\(Array.size x2.d=Array.size x2.d))/\(True/\True)))))))/\(((RLe (Array.size x2.d) (Array.size x54.d))/\(RowsEq [.int .i64,.int .i64,.int .i64] (Array.size x2.d) (aR (Prod.snd (peF x54))) (aR x55.d)))/\True))))))))))/\((sEq x5=false)->(∃ x57:SPx,((SPok x57)/\(((0=0/\(Array.size x2.d=Array.size x57.d))/\(((x5.a:Int)=(x57.a:Int))/\(((x5.b:Int)=(x57.b:Int))/\(((↑(sP x5):Int)=(x57.p:Int))/\(True/\True)))))/\((((RLe (Array.size x57.d) (Array.size x2.d))/\(RowsEq [.int .i64,.int .i64,.int .i64] (Array.size x57.d) (aR (s2 x5)) (aR x57.d)))/\True)/\((((-9223372036854775808:Int)<=(↑(Prod.fst (ptF x57)):Int)-(x5.a:Int))/\((↑(Prod.fst (ptF x57)):Int)-(x5.a:Int)<=(9223372036854775807:Int)))/\((((-9223372036854775808:Int)<=(x5.b:Int)-(↑(Prod.fst (ptF x57)):Int))/\((x5.b:Int)-(↑(Prod.fst (ptF x57)):Int)<=(9223372036854775807:Int)))/\((((0:Int)<=(x5.b:Int)-(x5.a:Int))/\(((0:Int)<8)/\(((-9223372036854775808:Int)<=((x5.b:Int)-(x5.a:Int)) / 8)/\(((x5.b:Int)-(x5.a:Int)) / 8<=(9223372036854775807:Int)))))/\(((decide ((↑(Prod.fst (ptF x57)):Int)-(x5.a:Int)<(x5.b:Int)-(↑(Prod.fst (ptF x57)):Int))=true)->(∃ x59:PQx,(((PQpre x59)/\(x59.b-x59.a<m1))/\(((0=0/\(Array.size x2.d=Array.size x59.d))/\(((x5.a:Int)=(x59.a:Int))/\(((↑(Prod.fst (ptF x57)):Int)=(x59.b:Int))/\(((↑(sL x5):Int)=(x59.l:Int))/\(True/\True)))))/\((((RLe (Array.size x59.d) (Array.size x57.d))/\(RowsEq [.int .i64,.int .i64,.int .i64] (Array.size x59.d) (aR (Prod.snd (Prod.snd (ptF x57)))) (aR x59.d)))/\True)/\((((-9223372036854775808:Int)<=(↑(Prod.fst (ptF x57)):Int)+1)/\((↑(Prod.fst (ptF x57)):Int)+1<=(9223372036854775807:Int)))/\(∃ x60:PS,((x60.b-x60.a<x5.b-x5.a)/\((PQok x2 x60)/\((((↑(Prod.fst (ptF x57)):Int)+1=(x60.a:Int))/\(((x5.b:Int)=(x60.b:Int))/\(((↑(sL x5):Int)=(x60.l:Int))/\((decide (((x5.b:Int)-(x5.a:Int)) / 8<=(↑(Prod.fst (ptF x57)):Int)-(x5.a:Int))=x60.wb)/\((Prod.fst (Prod.snd (ptF x57))=x60.wp)/\((0=0/\(Array.size x2.d=Array.size x2.d))/\(True/\True)))))))/\(((RLe (Array.size x2.d) (Array.size x59.d))/\(RowsEq [.int .i64,.int .i64,.int .i64] (Array.size x2.d) (aR (pqF x59)) (aR x60.d)))/\True)))))))))))/\((decide ((↑(Prod.fst (ptF x57)):Int)-(x5.a:Int)<(x5.b:Int)-(↑(Prod.fst (ptF x57)):Int))=false)->((((-9223372036854775808:Int)<=(↑(Prod.fst (ptF x57)):Int)+1)/\((↑(Prod.fst (ptF x57)):Int)+1<=(9223372036854775807:Int)))/\(∃ x62:PQx,(((PQpre x62)/\(x62.b-x62.a<m1))/\(((0=0/\(Array.size x2.d=Array.size x62.d))/\(((↑(Prod.fst (ptF x57)):Int)+1=(x62.a:Int))/\(((x5.b:Int)=(x62.b:Int))/\(((↑(sL x5):Int)=(x62.l:Int))/\(True/\True)))))/\((((RLe (Array.size x62.d) (Array.size x57.d))/\(RowsEq [.int .i64,.int .i64,.int .i64] (Array.size x62.d) (aR (Prod.snd (Prod.snd (ptF x57)))) (aR x62.d)))/\True)/\(∃ x63:PS,((x63.b-x63.a<x5.b-x5.a)/\((PQok x2 x63)/\((((x5.a:Int)=(x63.a:Int))/\(((↑(Prod.fst (ptF x57)):Int)=(x63.b:Int))/\(((↑(sL x5):Int)=(x63.l:Int))/\((decide (((x5.b:Int)-(x5.a:Int)) / 8<=(x5.b:Int)-(↑(Prod.fst (ptF x57)):Int))=x63.wb)/\((Prod.fst (Prod.snd (ptF x57))=x63.wp)/\((0=0/\(Array.size x2.d=Array.size x2.d))/\(True/\True)))))))/\(((RLe (Array.size x2.d) (Array.size x62.d))/\(RowsEq [.int .i64,.int .i64,.int .i64] (Array.size x2.d) (aR (pqF x62)) (aR x63.d)))/\True)))))))))))))))))))))))))))))))))))))))))))))))))))))=(∀ m,Keeps (cfgPq m) Try.f40 (pqC (m+1)) pqI) by kernel_rfl) (fun m1=>fun x2=>fun h3=>⟨({ a:=PQx.a x2,b:=PQx.b x2,l:=PQx.l x2,wb:=true,wp:=true,d:=PQx.d x2:PS }),
⟨(by(try dsimp only at *);exact⟨h3.1.b,h3.1.a,h3.1.l,Nat.le_refl _,rfl,h3.1.w,rfl⟩),
⟨rfl,rfl,rfl,rfl,rfl,
⟨rfl,rfl⟩,trivial,trivial⟩,
⟨rl,rr⟩,trivial⟩,
fun x5=>fun h6=>⟨⟨(by(try dsimp only at *);(have:=h6.b;have:=h6.a;have:=h6.l;have:=h3.1.n;omega)),
(by(try dsimp only at *);(have:=h6.b;have:=h6.a;have:=h6.l;have:=h3.1.n;omega))⟩,
fun g7=>have h7:=dT g7;⟨({ d:=PS.d x5,a:=PS.a x5,b:=PS.b x5:SAx }),
(by(try dsimp only at *);exact pq_le h3.1 h6),
⟨⟨rfl,
(by(try dsimp only at *);exact h6.n.symm)⟩,rfl,rfl,trivial,trivial⟩,
⟨⟨⟨(by(try dsimp only at *);exact Nat.le_of_eq h6.n)⟩,rr⟩,trivial⟩,trivial,
⟨⟨(by(try dsimp only at *);exact Nat.le_of_eq h6.n.symm)⟩,
(by(try dsimp only at *);(show RowsEq kP _ (aR (inF x5.d x5.a x5.b)) _;rw[pq_small h6 h7];exact rr))⟩,trivial⟩,
fun g9=>have h9:=dF g9;⟨fun g10=>have h10:=dT g10;⟨({ d:=PS.d x5,a:=PS.a x5,b:=PS.b x5:SAx }),
(by(try dsimp only at *);exact pq_sa h3.1 h6 h9),
⟨⟨rfl,
(by(try dsimp only at *);exact h6.n.symm)⟩,rfl,rfl,trivial,trivial⟩,
⟨⟨⟨(by(try dsimp only at *);exact Nat.le_of_eq h6.n)⟩,rr⟩,trivial⟩,trivial,
⟨⟨(by(try dsimp only at *);exact Nat.le_of_eq h6.n.symm)⟩,
(by(try dsimp only at *);(show RowsEq kP _ (aR (hsF x5.d x5.a x5.b)) _;rw[pq_heap h6 h9 h10];exact rr))⟩,trivial⟩,
fun g12=>have h12:=dF g12;⟨⟨fun h13=>⟨({ d:=PS.d x5,a:=PS.a x5,b:=PS.b x5:SAx }),
(by(try dsimp only at *);exact pq_sa h3.1 h6 h9),
⟨⟨rfl,
(by(try dsimp only at *);exact h6.n.symm)⟩,rfl,rfl,trivial,trivial⟩,
⟨⟨⟨(by(try dsimp only at *);exact Nat.le_of_eq h6.n)⟩,rr⟩,trivial⟩,
⟨(by(try dsimp only at *);omega),
(by(try dsimp only at *);(have:=h6.b;have:=h6.a;have:=h6.l;have:=h3.1.n;omega))⟩,
(default),trivial,
⟨(by(try dsimp only at *);(unfold sL;rw[if_pos h13];omega)),rfl,rfl,rfl,rfl,rfl,
⟨rfl,rfl⟩,trivial,trivial⟩,
⟨⟨(by(try dsimp only at *);exact Nat.le_of_eq h6.n.symm)⟩,
(by(try dsimp only at *);(unfold s1;rw[if_pos h13];exact rr))⟩,trivial⟩,
fun h16=>⟨(default),trivial,
⟨(by(try dsimp only at *);(unfold sL;rw[if_neg (by rw[h16];simp)])),rfl,rfl,rfl,rfl,rfl,
⟨rfl,rfl⟩,trivial,trivial⟩,
⟨rl,
(by(try dsimp only at *);(unfold s1;rw[if_neg (by rw[h16];simp)];exact rr))⟩,trivial⟩⟩,
fun y18=>fun h19=>⟨({ d:=s1 x5,a:=PS.a x5,b:=PS.b x5:SAx }),
(by(try dsimp only at *);exact s1_ok (h6.big h3.1 h9 h12)),
⟨⟨rfl,
(by(try dsimp only at *);exact((s1_size (h6.big h3.1 h9 h12)).trans h6.n).symm)⟩,rfl,rfl,trivial,trivial⟩,
⟨⟨⟨(by(try dsimp only at *);exact Nat.le_of_eq ((s1_size (h6.big h3.1 h9 h12)).trans h6.n))⟩,rr⟩,trivial⟩,
⟨fun g21=>have h21:=dT g21;⟨({ d:=s1 x5,a:=PS.a x5,b:=PS.b x5:SAx }),
(by(try dsimp only at *);exact s1_ok (h6.big h3.1 h9 h12)),
⟨⟨rfl,
(by(try dsimp only at *);exact((s1_size (h6.big h3.1 h9 h12)).trans h6.n).symm)⟩,rfl,rfl,trivial,trivial⟩,
⟨⟨⟨(by(try dsimp only at *);exact Nat.le_of_eq ((s1_size (h6.big h3.1 h9 h12)).trans h6.n))⟩,rr⟩,trivial⟩,
⟨(by(try dsimp only at *);omega),
(by(try dsimp only at *);(have:=h6.b;have:=h6.a;have:=h6.l;have:=h3.1.n;omega))⟩,
⟨(by(try dsimp only at *);(have:=h6.b;have:=h6.a;have:=h6.l;have:=h3.1.n;omega)),
(by(try dsimp only at *);(have q:=sC_rng (h6.big h3.1 h9 h12);unfold sC at q;have:=h6.b;have:=h3.1.n;(try dsimp only);omega))⟩,
⟨(by(try dsimp only at *);(have q:=sC_rng (h6.big h3.1 h9 h12);unfold sC at q;have:=h6.b;have:=h3.1.n;(try dsimp only);omega)),
(by(try dsimp only at *);(have:=h6.b;have:=h6.a;have:=h6.l;have:=h3.1.n;omega))⟩,
(default),trivial,
⟨(by(try dsimp only at *);(have q:=sC_rng (h6.big h3.1 h9 h12);unfold sP;have e:(sC x5).2= .decreasing:=hC2 h21;rw[if_pos e];unfold sC at q ⊢;(try dsimp only);omega)),
(by(try dsimp only at *);(unfold sH;have e:(sC x5).2= .decreasing:=hC2 h21;rw[if_pos e];rfl)),rfl,rfl,rfl,rfl,rfl,rfl,
⟨rfl,rfl⟩,trivial,trivial⟩,
⟨⟨(by(try dsimp only at *);exact Nat.le_of_eq ((s1_size (h6.big h3.1 h9 h12)).trans h6.n).symm)⟩,
(by(try dsimp only at *);(unfold s2;have e:(sC x5).2= .decreasing:=hC2 h21;rw[if_pos e];exact rr))⟩,trivial⟩,
fun g24=>have h24:=dF g24;⟨(default),trivial,
⟨(by(try dsimp only at *);(unfold sP;have e:¬ (sC x5).2= .decreasing:=hC2n h24;rw[if_neg e];rfl)),
(by(try dsimp only at *);(unfold sH;have e:¬ (sC x5).2= .decreasing:=hC2n h24;rw[if_neg e];rfl)),rfl,rfl,rfl,rfl,rfl,rfl,
⟨rfl,rfl⟩,trivial,trivial⟩,
⟨rl,
(by(try dsimp only at *);(unfold s2;have e:¬ (sC x5).2= .decreasing:=hC2n h24;rw[if_neg e];exact rr))⟩,trivial⟩⟩,
fun y26=>fun h27=>⟨⟨fun h28=>⟨fun h29=>⟨(default),trivial,
(by(try dsimp only at *);(unfold sInc;rw[h28,h29,hC1];rfl)),trivial⟩,
fun h31=>⟨(default),trivial,
(by(try dsimp only at *);(unfold sInc;rw[h28,h31];rfl)),trivial⟩⟩,
fun h33=>⟨(default),trivial,
(by(try dsimp only at *);(unfold sInc;rw[h33];rfl)),trivial⟩⟩,
fun x35=>fun h36=>⟨⟨fun h37=>⟨({ d:=s2 x5,a:=PS.a x5,b:=PS.b x5:SAx }),
(by(try dsimp only at *);exact sA_ok (h6.big h3.1 h9 h12)),
⟨⟨rfl,
(by(try dsimp only at *);exact((s2_size (h6.big h3.1 h9 h12)).trans h6.n).symm)⟩,rfl,rfl,trivial,trivial⟩,
⟨⟨⟨(by(try dsimp only at *);exact Nat.le_of_eq ((s2_size (h6.big h3.1 h9 h12)).trans h6.n))⟩,rr⟩,trivial⟩,
fun g39=>have h39:=dT g39;⟨trivial,
⟨⟨(by(try dsimp only at *);exact Nat.le_of_eq ((s2_size (h6.big h3.1 h9 h12)).trans h6.n).symm)⟩,
(by(try dsimp only at *);(show RowsEq kP _ (aR (s2 x5)) _;rw[pq_ins h6 (h6.big h3.1 h9 h12) (by unfold sPI;rw[h37];exact decide_eq_true h39)];exact rr))⟩,trivial⟩,
fun g40=>have h40:=dF g40;⟨(default),
(by(try dsimp only at *);(unfold sPI;rw[h37];exact decide_eq_false h40)),
⟨rfl,rfl,rfl,rfl,rfl,rfl,rfl,rfl,
⟨rfl,rfl⟩,trivial,trivial⟩,
⟨⟨(by(try dsimp only at *);exact Nat.le_of_eq ((s2_size (h6.big h3.1 h9 h12)).trans h6.n).symm)⟩,rr⟩,trivial⟩⟩,
fun h42=>⟨(default),
(by(try dsimp only at *);(unfold sPI;rw[h42];rfl)),
⟨rfl,rfl,rfl,rfl,rfl,rfl,rfl,rfl,
⟨rfl,rfl⟩,trivial,trivial⟩,
⟨rl,rr⟩,trivial⟩⟩,
fun y44=>fun h45=>⟨⟨fun g46=>have h46:=dT g46;⟨⟨(by(try dsimp only at *);omega),
(by(try dsimp only at *);(have:=h6.b;have:=h6.a;have:=h6.l;have:=h3.1.n;omega))⟩,
⟨(by(try dsimp only at *);omega),
(by(try dsimp only at *);(have:=h6.b;have:=h6.a;have:=h6.l;have:=h3.1.n;omega))⟩,
(by(try dsimp only at *);(have:=h6.b;have:=h6.a;have:=h6.l;have:=h3.1.n;omega)),
⟨(by(try dsimp only at *);omega),
(by(try dsimp only at *);(have q:=sP_rng (h6.big h3.1 h9 h12);have:=h6.b;have:=h3.1.n;omega))⟩,
(by(try dsimp only at *);(have q:=sP_rng (h6.big h3.1 h9 h12);have:=h6.b;have:=h3.1.n;omega)),
({ a:=List.getD (Array.toList (s2 x5)) ((0:Nat)+Int.toNat ((↑(PS.a x5):Int)-(1:Int))) default,b:=List.getD (Array.toList (s2 x5)) ((0:Nat)+Int.toNat (↑(sP x5):Int)) default:P2x }),trivial,
⟨⟨rfl,rfl,rfl,trivial⟩,
⟨rfl,rfl,rfl,trivial⟩,trivial⟩,trivial,
(default),trivial,
(by(try dsimp only at *);(simp only[nat0,subN0];unfold sEq;rw[show decide (x5.a>0)=true from decide_eq_true (by omega),Bool.true_and,gA,gA];rfl)),trivial⟩,
fun g49=>have h49:=dF g49;⟨(default),trivial,
(by(try dsimp only at *);(unfold sEq;rw[show decide (x5.a>0)=false from decide_eq_false (by omega)];rfl)),trivial⟩⟩,
fun x51=>fun h52=>⟨fun h53=>⟨({ d:=s2 x5,a:=PS.a x5,b:=PS.b x5,p:=sP x5:SPx }),
(by(try dsimp only at *);exact sY_ok (h6.big h3.1 h9 h12)),
⟨⟨rfl,
(by(try dsimp only at *);exact((s2_size (h6.big h3.1 h9 h12)).trans h6.n).symm)⟩,rfl,rfl,rfl,trivial,trivial⟩,
⟨⟨⟨(by(try dsimp only at *);exact Nat.le_of_eq ((s2_size (h6.big h3.1 h9 h12)).trans h6.n))⟩,rr⟩,trivial⟩,
({ a:=Prod.fst (peF { d:=s2 x5,a:=PS.a x5,b:=PS.b x5,p:=sP x5:SPx }),b:=PS.b x5,l:=sL x5,wb:=PS.wb x5,wp:=PS.wp x5,d:=Prod.snd (peF { d:=s2 x5,a:=PS.a x5,b:=PS.b x5,p:=sP x5:SPx }):PS }),
(by(try dsimp only at *);(show x5.b-(peF (sY x5)).1<x5.b-x5.a;have:=pe_mid (h6.big h3.1 h9 h12) h53;omega)),
(by(try dsimp only at *);exact pq_eq h3.1 h6 (h6.big h3.1 h9 h12) h45 h53),
⟨rfl,rfl,rfl,rfl,rfl,
⟨rfl,rfl⟩,trivial,trivial⟩,
⟨⟨(by(try dsimp only at *);exact Nat.le_of_eq ((s2_size (h6.big h3.1 h9 h12)).trans h6.n).symm)⟩,rr⟩,trivial⟩,
fun h56=>⟨({ d:=s2 x5,a:=PS.a x5,b:=PS.b x5,p:=sP x5:SPx }),
(by(try dsimp only at *);exact sY_ok (h6.big h3.1 h9 h12)),
⟨⟨rfl,
(by(try dsimp only at *);exact((s2_size (h6.big h3.1 h9 h12)).trans h6.n).symm)⟩,rfl,rfl,rfl,trivial,trivial⟩,
⟨⟨⟨(by(try dsimp only at *);exact Nat.le_of_eq ((s2_size (h6.big h3.1 h9 h12)).trans h6.n))⟩,rr⟩,trivial⟩,
⟨(by(try dsimp only at *);(have:=h6.b;have:=h6.a;have:=h6.l;have:=h3.1.n;omega)),
(by(try dsimp only at *);(have q:=pt_mid (h6.big h3.1 h9 h12);unfold sY at q;have:=h6.b;have:=h3.1.n;omega))⟩,
⟨(by(try dsimp only at *);(have q:=pt_mid (h6.big h3.1 h9 h12);unfold sY at q;have:=h6.b;have:=h3.1.n;omega)),
(by(try dsimp only at *);(have:=h6.b;have:=h6.a;have:=h6.l;have:=h3.1.n;omega))⟩,
⟨(by(try dsimp only at *);omega),
(by(try dsimp only at *);omega),
(by(try dsimp only at *);omega),
(by(try dsimp only at *);(have:=h6.b;have:=h6.a;have:=h6.l;have:=h3.1.n;omega))⟩,
fun g58=>have h58:=dT g58;⟨({ d:=Prod.snd (Prod.snd (ptF { d:=s2 x5,a:=PS.a x5,b:=PS.b x5,p:=sP x5:SPx })),a:=PS.a x5,b:=Prod.fst (ptF { d:=s2 x5,a:=PS.a x5,b:=PS.b x5,p:=sP x5:SPx }),l:=sL x5:PQx }),
⟨(by(try dsimp only at *);exact xL_ok h3.1 h6 (h6.big h3.1 h9 h12)),
(by(try dsimp only at *);(have q:=pt_mid (h6.big h3.1 h9 h12);show(ptF (sY x5)).1-x5.a<m1;have:=h6.m;have:=h3.2;omega))⟩,
⟨⟨rfl,
(by(try dsimp only at *);exact((pt_mid (h6.big h3.1 h9 h12)).2.2.1.trans ((s2_size (h6.big h3.1 h9 h12)).trans h6.n)).symm)⟩,rfl,rfl,rfl,trivial,trivial⟩,
⟨⟨⟨(by(try dsimp only at *);(have q:=pt_mid (h6.big h3.1 h9 h12);unfold sY at q;have:=h6.b;have:=h3.1.n;omega))⟩,rr⟩,trivial⟩,
⟨(by(try dsimp only at *);omega),
(by(try dsimp only at *);(have:=h6.b;have:=h6.a;have:=h6.l;have:=h3.1.n;omega))⟩,
({ a:=Prod.fst (ptF { d:=s2 x5,a:=PS.a x5,b:=PS.b x5,p:=sP x5:SPx })+(1:Nat),b:=PS.b x5,l:=sL x5,wb:=decide (((↑(PS.b x5):Int)-(↑(PS.a x5):Int)) / (8:Int)<=(↑(Prod.fst (ptF { d:=s2 x5,a:=PS.a x5,b:=PS.b x5,p:=sP x5:SPx })):Int)-(↑(PS.a x5):Int)),wp:=Prod.fst (Prod.snd (ptF { d:=s2 x5,a:=PS.a x5,b:=PS.b x5,p:=sP x5:SPx })),d:=pqF { d:=Prod.snd (Prod.snd (ptF { d:=s2 x5,a:=PS.a x5,b:=PS.b x5,p:=sP x5:SPx })),a:=PS.a x5,b:=Prod.fst (ptF { d:=s2 x5,a:=PS.a x5,b:=PS.b x5,p:=sP x5:SPx }),l:=sL x5:PQx }:PS }),
(by(try dsimp only at *);(have q:=pt_mid (h6.big h3.1 h9 h12);unfold sY at q;have:=h6.b;have:=h3.1.n;omega)),
(by(try dsimp only at *);exact pq_left h3.1 h6 (h6.big h3.1 h9 h12) h45 h56 h58),
⟨(by(try dsimp only at *);omega),rfl,rfl,rfl,rfl,
⟨rfl,rfl⟩,trivial,trivial⟩,
⟨⟨(by(try dsimp only at *);exact Nat.le_of_eq ((pt_mid (h6.big h3.1 h9 h12)).2.2.1.trans ((s2_size (h6.big h3.1 h9 h12)).trans h6.n)).symm)⟩,rr⟩,trivial⟩,
fun g61=>have h61:=dF g61;⟨⟨(by(try dsimp only at *);omega),
(by(try dsimp only at *);(have q:=pt_mid (h6.big h3.1 h9 h12);unfold sY at q;have:=h6.b;have:=h3.1.n;omega))⟩,
({ d:=Prod.snd (Prod.snd (ptF { d:=s2 x5,a:=PS.a x5,b:=PS.b x5,p:=sP x5:SPx })),a:=Prod.fst (ptF { d:=s2 x5,a:=PS.a x5,b:=PS.b x5,p:=sP x5:SPx })+(1:Nat),b:=PS.b x5,l:=sL x5:PQx }),
⟨(by(try dsimp only at *);exact xR_ok h3.1 h6 (h6.big h3.1 h9 h12)),
(by(try dsimp only at *);(have q:=pt_mid (h6.big h3.1 h9 h12);show x5.b-((ptF (sY x5)).1+1)<m1;have:=h6.m;have:=h3.2;omega))⟩,
⟨⟨rfl,
(by(try dsimp only at *);exact((pt_mid (h6.big h3.1 h9 h12)).2.2.1.trans ((s2_size (h6.big h3.1 h9 h12)).trans h6.n)).symm)⟩,
(by(try dsimp only at *);omega),rfl,rfl,trivial,trivial⟩,
⟨⟨⟨(by(try dsimp only at *);(have q:=pt_mid (h6.big h3.1 h9 h12);unfold sY at q;have:=h6.b;have:=h3.1.n;omega))⟩,rr⟩,trivial⟩,
({ a:=PS.a x5,b:=Prod.fst (ptF { d:=s2 x5,a:=PS.a x5,b:=PS.b x5,p:=sP x5:SPx }),l:=sL x5,wb:=decide (((↑(PS.b x5):Int)-(↑(PS.a x5):Int)) / (8:Int)<=(↑(PS.b x5):Int)-(↑(Prod.fst (ptF { d:=s2 x5,a:=PS.a x5,b:=PS.b x5,p:=sP x5:SPx })):Int)),wp:=Prod.fst (Prod.snd (ptF { d:=s2 x5,a:=PS.a x5,b:=PS.b x5,p:=sP x5:SPx })),d:=pqF { d:=Prod.snd (Prod.snd (ptF { d:=s2 x5,a:=PS.a x5,b:=PS.b x5,p:=sP x5:SPx })),a:=Prod.fst (ptF { d:=s2 x5,a:=PS.a x5,b:=PS.b x5,p:=sP x5:SPx })+(1:Nat),b:=PS.b x5,l:=sL x5:PQx }:PS }),
(by(try dsimp only at *);(have q:=pt_mid (h6.big h3.1 h9 h12);unfold sY at q;have:=h6.b;have:=h3.1.n;omega)),
(by(try dsimp only at *);exact pq_right h3.1 h6 (h6.big h3.1 h9 h12) h45 h56 h61),
⟨rfl,rfl,rfl,rfl,rfl,
⟨rfl,rfl⟩,trivial,trivial⟩,
⟨⟨(by(try dsimp only at *);exact Nat.le_of_eq ((pt_mid (h6.big h3.1 h9 h12)).2.2.1.trans ((s2_size (h6.big h3.1 h9 h12)).trans h6.n)).symm)⟩,rr⟩,trivial⟩⟩⟩⟩⟩⟩⟩⟩⟩⟩⟩)
theorem pq_all:∀ m,Good Try.prog 40 (pqC m)/\FnOk Try.prog 40:=by
 intro m
 induction m with
 |zero=>
  exact⟨fun x h=>absurd h.2 (Nat.not_lt_zero _),Try.f40,rfl,by decide+kernel,rfl⟩
 |succ m ih=>
  exact good_of tok (ConL.ok (.cons (ConL.one qc_good) (.cons (ConL.one ins_good) (.cons (ConL.one hs_good) (.cons (ConL.one br_good) (.cons (ConL.one ch_good) (.cons (ConL.one rv_good) (.cons (ConL.one pi_good) (.cons (ConL.one pe_good) (.cons (ConL.one pt_good) (.cons (ConL.one ih) .nil))))))))))) (fn:=Try.f40) rfl (by decide+kernel) (fun _=>rfl) (pq_keeps m)
def sfC:CT where
 X:=Array Pl
 pre:=fun d=>d.size<=30
 args:=fun d=>[.sl 100000 0 d.size,cmA]
 g0:=fun d=>[(100000,.rows .own kP d.size (aR d))]
 res:=fun _=>.tup []
 g1:=fun d=>[(100000,.rows .own kP d.size (aR (pqF ⟨d,0,d.size,len5 d.size⟩)))]
def cfgSf:Cfg:=⟨T,[],[(41,.one len64C),(40,.one (pqC 1000))],noInv,20,{}⟩
theorem conSf:ConOk Try.prog cfgSf:=ConL.ok (.cons (ConL.one blen_good) (.cons (ConL.one (pq_all 1000)) .nil))
theorem sf_pre {d:Array Pl} (h:d.size<=30):PQpre ⟨d,0,d.size,len5 d.size⟩:=⟨h,Nat.le_refl _,Nat.zero_le _,Nat.le_trans (len5_le _) (by omega),.inl rfl⟩
set_option maxRecDepth 100000 in
theorem sf_keeps:Keeps cfgSf Try.f34 sfC noIv:=Eq.mp (show((∀ x1:Array Pl,((Array.size x1<=(30:Nat))->((((0:Int)<=(↑(Array.size x1):Int))/\((↑(Array.size x1):Int)<=(18446744073709551615:Int)))/\(∃ x3:Nat,((x3<=(30:Nat))/\((((↑(Array.size x1):Int)=(x3:Int))/\True)/\(True/\(∃ x4:PQx,(((PQpre x4)/\(x4.b-x4.a<(1000:Nat)))/\(((0=0/\(Array.size x1=Array.size x4.d))/\((0=(x4.a:Int))/\(((↑(Array.size x1):Int)=(x4.b:Int))/\(((↑(len5 x3):Int)=(x4.l:Int))/\(True/\True)))))/\((((RLe (Array.size x4.d) (Array.size x1))/\(RowsEq [.int .i64,.int .i64,.int .i64] (Array.size x4.d) (aR x1) (aR x4.d)))/\True)/\(True/\(((RLe (Array.size x1) (Array.size x4.d))/\(RowsEq [.int .i64,.int .i64,.int .i64] (Array.size x1) (aR (pqF x4)) (aR (pqF (PQx.mk x1 0 (Array.size x1) (len5 (Array.size x1)))))))/\True))))))))))))))=(Keeps cfgSf Try.f34 sfC noIv) by kernel_rfl) (fun x1=>fun h2=>⟨⟨(by omega),
(by omega)⟩,
(Array.size x1),
(by(try dsimp only at *);omega),
⟨rfl,trivial⟩,trivial,
({ d:=x1,a:=(0:Nat),b:=Array.size x1,l:=len5 (Array.size x1):PQx }),
⟨(by(try dsimp only at *);exact sf_pre h2),
(by(try dsimp only at *);omega)⟩,
⟨⟨rfl,rfl⟩,
(by(try dsimp only at *);omega),rfl,rfl,trivial,trivial⟩,
⟨⟨rl,rr⟩,trivial⟩,trivial,
⟨rl,rr⟩,trivial⟩)
theorem sf_good:Good Try.prog 34 sfC/\FnOk Try.prog 34:=good_of tok conSf (fn:=Try.f34) rfl (by decide+kernel) (fun _=>rfl) sf_keeps
def ordP (l:List Pl):List Pl:=l.mergeSort fun x y=> !ltP y x
theorem ltP_tot (x y:Pl) (h1:ltP x y=false) (h2:ltP y x=false):x=y:=by
 rw[<- Bool.not_eq_true,ltP_iff]at h1 h2
 obtain⟨a,b,c⟩:=x
 obtain⟨a',b',c'⟩:=y
 simp only at h1 h2
 obtain rfl:a=a':=by omega
 obtain rfl:b=b':=by omega
 obtain rfl:c=c':=by omega
 rfl
theorem sf_list {d:Array Pl} (h:d.size<=30):(pqF ⟨d,0,d.size,len5 d.size⟩).toList=ordP d.toList:=by
 have p:=pq_sorts (sf_pre h)
 exact Sort.sorted_unique_holds swoP ltP_tot d _ p.1 p.2
end Go.Sym