import Derived.Test.YtakbmbmpcenljaaT03
import Derived.Sort.LotC
import Derived.Test.YtakbmbmpcenljaaXD
namespace Go.Sym
set_option linter.unusedVariables false
set_option linter.unusedSimpArgs false
open Go.Proofs
set_option maxRecDepth 100000
set_option maxHeartbeats 4000000
theorem su_go {p:Pl->Bool} {d:Array Pl} {j i:Nat} (h:i<=j) (hp:p d[i]! =true):Sort.scanUp p d j (i+1)=Sort.scanUp p d j i:=by
 conv=>rhs;unfold Sort.scanUp
 rw[hp,decide_eq_true h];rfl
theorem su_stop {p:Pl->Bool} {d:Array Pl} {j i:Nat} (h:¬ (i<=j/\p d[i]! =true)):Sort.scanUp p d j i=i:=by
 unfold Sort.scanUp
 rw[if_neg (by rw[Bool.and_eq_true,decide_eq_true_iff];exact h)]
theorem sw_go {p:Pl->Bool} {d:Array Pl} {i j:Nat} (h0:0<j) (h:i<=j) (hp:p d[j]! =true):Sort.scanDown p d i (j-1)=Sort.scanDown p d i j:=by
 obtain⟨k,rfl⟩:∃ k,j=k+1:=⟨j-1,by omega⟩
 conv=>rhs;unfold Sort.scanDown
 rw[hp,decide_eq_true h];rfl
theorem sw_stop {p:Pl->Bool} {d:Array Pl} {i j:Nat} (h:¬ (i<=j/\p d[j]! =true)):Sort.scanDown p d i j=j:=by
 cases j with
 |zero=>rfl
 |succ k=>
  unfold Sort.scanDown
  rw[if_neg (by rw[Bool.and_eq_true,decide_eq_true_iff];exact h)]
structure SPx where
 d:Array Pl
 a:Nat
 b:Nat
 p:Nat
structure SPok (x:SPx):Prop where
 n:x.d.size<=30
 b:x.b<=x.d.size
 a:x.a<=x.p
 p:x.p<x.b
def peF (x:SPx):Nat × Array Pl:=Sort.partitionEqual ltP x.d x.a x.b x.p
def peC:CT where
 X:=SPx
 pre:=SPok
 args:=fun x=>[.sl 100000 0 x.d.size,.i .i64 x.a,.i .i64 x.b,.i .i64 x.p,cmA]
 g0:=fun x=>[(100000,.rows .own kP x.d.size (aR x.d))]
 res:=fun x=>.i .i64 (peF x).1
 g1:=fun x=>[(100000,.rows .own kP x.d.size (aR (peF x).2))]
structure PTs where
 i:Nat
 j:Nat
 d:Array Pl
structure PEok (x:SPx) (s:PTs):Prop where
 i:x.a<s.i
 j:s.j<x.b
 ij:s.i<=s.j+1
 n:s.d.size=x.d.size
 eq:Sort.partEqLoop ltP x.a s.i s.j s.d=peF x
def peP (x:SPx) (s:PTs):Pl->Bool:=fun z=> !ltP s.d[x.a]! z
def peQ (x:SPx) (s:PTs):Pl->Bool:=fun z=>ltP s.d[x.a]! z
def peU (x:SPx) (s:PTs):Nat:=Sort.scanUp (peP x s) s.d s.j s.i
def peD (x:SPx) (s:PTs):Nat:=Sort.scanDown (peQ x s) s.d (peU x s) s.j
def suB (s:PTs) (p:Pl->Bool) (i:Nat):Bool:=decide (i<=s.j)&&p s.d[i]!
def swB (s:PTs) (p:Pl->Bool) (u j:Nat):Bool:=decide (u<=j)&&p s.d[j]!
structure SUok (s:PTs) (p:Pl->Bool) (i:Nat):Prop where
 lo:s.i<=i
 hi:i<=s.j+1
 eq:Sort.scanUp p s.d s.j i=Sort.scanUp p s.d s.j s.i
structure SWok (s:PTs) (p:Pl->Bool) (u j:Nat):Prop where
 ul:s.i<=u
 uh:u<=s.j+1
 hi:j<=s.j
 lo:u<=j+1
 eq:Sort.scanDown p s.d u j=Sort.scanDown p s.d u s.j
theorem suB_in {s:PTs} {p:Pl->Bool} {i:Nat} {v:Bool} (h:(i:Int)<=s.j) (hv:v=p s.d[i]!):v=suB s p i:=by
 unfold suB;rw[decide_eq_true (show i<=s.j by omega),Bool.true_and];exact hv
theorem suB_out {s:PTs} {p:Pl->Bool} {i:Nat} (h:¬ (i:Int)<=s.j):false=suB s p i:=by
 unfold suB;rw[decide_eq_false (show ¬ i<=s.j by omega),Bool.false_and]
theorem swB_in {s:PTs} {p:Pl->Bool} {u j:Nat} {v:Bool} (h:(u:Int)<=j) (hv:v=p s.d[j]!):v=swB s p u j:=by
 unfold swB;rw[decide_eq_true (show u<=j by omega),Bool.true_and];exact hv
theorem swB_out {s:PTs} {p:Pl->Bool} {u j:Nat} (h:¬ (u:Int)<=j):false=swB s p u j:=by
 unfold swB;rw[decide_eq_false (show ¬ u<=j by omega),Bool.false_and]
theorem suB_le {s:PTs} {p:Pl->Bool} {i:Nat} (h:suB s p i=true):i<=s.j:=by
 unfold suB at h;rw[Bool.and_eq_true,decide_eq_true_iff]at h;exact h.1
theorem swB_le {s:PTs} {p:Pl->Bool} {u j:Nat} (h:swB s p u j=true):u<=j:=by
 unfold swB at h;rw[Bool.and_eq_true,decide_eq_true_iff]at h;exact h.1
theorem su_next {s:PTs} {p:Pl->Bool} {i:Nat} (k:SUok s p i) (h:suB s p i=true):SUok s p (i+1):=by
 have a:=suB_le h
 unfold suB at h;rw[Bool.and_eq_true,decide_eq_true_iff]at h
 exact⟨by have:=k.lo;omega,by omega,(su_go h.1 h.2).trans k.eq⟩
theorem su_fin {s:PTs} {p:Pl->Bool} {i:Nat} (k:SUok s p i) (h:suB s p i=false):i=Sort.scanUp p s.d s.j s.i:=by
 rw[<- k.eq,su_stop]
 unfold suB at h
 rintro⟨a,b⟩
 rw[decide_eq_true a,b]at h;cases h
theorem sw_next {s:PTs} {p:Pl->Bool} {u j:Nat} (hi:1<=s.i) (k:SWok s p u j) (h:swB s p u j=true):SWok s p u (j-1):=by
 have a:=swB_le h
 have b:=k.ul
 unfold swB at h;rw[Bool.and_eq_true,decide_eq_true_iff]at h
 exact⟨k.ul,k.uh,by have:=k.hi;omega,by omega,(sw_go (by omega) h.1 h.2).trans k.eq⟩
theorem sw_fin {s:PTs} {p:Pl->Bool} {u j:Nat} (k:SWok s p u j) (h:swB s p u j=false):j=Sort.scanDown p s.d u s.j:=by
 rw[<- k.eq,sw_stop]
 unfold swB at h
 rintro⟨a,b⟩
 rw[decide_eq_true a,b]at h;cases h
theorem sw_start {s:PTs} {p q:Pl->Bool} {i:Nat} (k:SUok s p i):SWok s q i s.j:=⟨k.lo,k.hi,Nat.le_refl _,k.hi,rfl⟩
theorem su_start {s:PTs} {p:Pl->Bool} (h:s.i<=s.j+1):SUok s p s.i:=⟨Nat.le_refl _,h,rfl⟩
def peI (x:SPx) (id:Nat):Option Inv:=match id with
 | 0 => some { X := PTs, ok := fun s => PEok x s, fr := fun s => [(11, .i .i64 s.i), (12, .i .i64 s.j)], hp := fun s => [(100000, .rows .own kP x.d.size (aR s.d))], me := fun s => s.j + 1 - s.i,
               inn:=fun s id=>match id with
                | 2 => some { X := Nat, ok := fun i => SUok s (peP x s) i, fr := fun i => [(11, .i .i64 i)], hp := fun _ => [], me := fun i => s.j + 1 - i,
                              inn:=fun i id=>match id with
                               |100047=>some (cutB 47 (suB s (peP x s) i))
                               |_=>none }
                | 4 => some { X := Nat, ok := fun j => SWok s (peQ x s) (peU x s) j, fr := fun j => [(11, .i .i64 (peU x s)), (12, .i .i64 j)], hp := fun _ => [], me := fun j => j,
                              inn:=fun j id=>match id with
                               |100065=>some (cutB 65 (swB s (peQ x s) (peU x s) j))
                               |_=>none }
                |_=>none }
 |_=>none
theorem peP_at (x:SPx) (s:PTs) (i:Nat):(!decide (cmpP (s.d.toList.getD x.a default) (s.d.toList.getD i default)<0))=peP x s s.d[i]! :=by
 show _= !ltP _ _;rw[gA,gA];rfl
theorem peQ_at (x:SPx) (s:PTs) (i:Nat):decide (cmpP (s.d.toList.getD x.a default) (s.d.toList.getD i default)<0)=peQ x s s.d[i]! :=by
 show _=ltP _ _;rw[gA,gA];rfl
theorem pe_unf (x:SPx) (s:PTs):Sort.partEqLoop ltP x.a s.i s.j s.d=(if peU x s>peD x s then(peU x s,s.d)else Sort.partEqLoop ltP x.a (peU x s+1) (peD x s-1) (Sort.swp s.d (peU x s) (peD x s))):=by
 conv=>lhs;unfold Sort.partEqLoop
 show(if peU x s>peD x s then _ else _)=_
 by_cases h:peU x s>peD x s
 ·rw[if_pos h,if_pos h];rfl
 ·rw[if_neg h,if_neg h]
  exact dif_pos (Sort.partEqLoop_guard (lt:=ltP) x.a s.i s.j s.d h)
theorem pe_end {x:SPx} {s:PTs} (h:PEok x s) {j:Nat} (k:SWok s (peQ x s) (peU x s) j) (hb:swB s (peQ x s) (peU x s) j=false) (hl:(j:Int)<peU x s):peF x=(peU x s,s.d):=by
 rw[<- h.eq,pe_unf]
 have e:j=peD x s:=sw_fin k hb
 rw[if_pos (by omega)]
theorem pe_ne {x:SPx} {s:PTs} {i:Nat} (k8:SUok s (peP x s) i) (hs:suB s (peP x s) i=false) {j:Nat} (k:SWok s (peQ x s) (peU x s) j) (hb:swB s (peQ x s) (peU x s) j=false):peU x s≠j:=by
 intro q
 have e:i=peU x s:=su_fin k8 hs
 have:=k.hi
 have a:peP x s s.d[i]! =false:=by
  unfold suB at hs
  rwa [decide_eq_true (show i<=s.j by omega),Bool.true_and]at hs
 have b:peQ x s s.d[j]! =false:=by
  unfold swB at hb
  rwa [decide_eq_true (show peU x s<=j by omega),Bool.true_and]at hb
 rw[e,q]at a
 unfold peP at a
 unfold peQ at b
 rw[b]at a;cases a
theorem pe_start {x:SPx} (h:SPok x):PEok x ⟨x.a+1,x.b-1,Sort.swp x.d x.a x.p⟩:=by
 have:=h.p;have:=h.a
 exact⟨Nat.lt_succ_self _,by show x.b-1<x.b;omega,by show x.a+1<=x.b-1+1;omega,swp_size _ _ _,rfl⟩
theorem pe_next {x:SPx} {s:PTs} (h:PEok x s) {i:Nat} (k8:SUok s (peP x s) i) (hs:suB s (peP x s) i=false) {j:Nat} (k:SWok s (peQ x s) (peU x s) j) (hb:swB s (peQ x s) (peU x s) j=false) (hl:¬ (j:Int)<peU x s):PEok x ⟨peU x s+1,j-1,Sort.swp s.d (peU x s) j⟩:=by
 have e:j=peD x s:=sw_fin k hb
 have:=h.i;have:=h.j;have:=k.ul;have:=k.uh;have:=k.hi;have:=k.lo;have:=pe_ne k8 hs k hb
 refine⟨by show x.a<peU x s+1;omega,by show j-1<x.b;omega,by show peU x s+1<=j-1+1;omega,by show(Sort.swp _ _ _).size=_;rw[swp_size];exact h.n,?_⟩
 rw[<- h.eq,pe_unf x s,if_neg (by omega)]
 show Sort.partEqLoop ltP x.a (peU x s+1) (j-1) (Sort.swp s.d (peU x s) j)=_
 rw[e]
set_option maxRecDepth 100000 in
theorem pe_keeps:Keeps cfgO2 Try.f53 peC peI:=Eq.mp (show((∀ x1:SPx,((SPok x1)->((((0:Int)<=(x1.p:Int))/\((x1.p:Int)<(↑(Array.size x1.d):Int)))/\((0+Int.toNat (x1.p:Int)<Array.size x1.d)/\((((0:Int)<=(x1.a:Int))/\((x1.a:Int)<(↑(Array.size x1.d):Int)))/\((0+Int.toNat (x1.a:Int)<Array.size x1.d)/\((((0:Int)<=(x1.a:Int))/\((x1.a:Int)<(↑(Array.size x1.d):Int)))/\(((0+Int.toNat (x1.a:Int)<Array.size x1.d)/\(True/\(True/\(True/\True))))/\((((0:Int)<=(x1.p:Int))/\((x1.p:Int)<(↑(Array.size x1.d):Int)))/\(((0+Int.toNat (x1.p:Int)<Array.size x1.d)/\(True/\(True/\(True/\True))))/\((((-9223372036854775808:Int)<=(x1.a:Int)+1)/\((x1.a:Int)+1<=(9223372036854775807:Int)))/\((((-9223372036854775808:Int)<=(x1.b:Int)-1)/\((x1.b:Int)-1<=(9223372036854775807:Int)))/\(∃ x3:PTs,(((PEok x1 x3)/\((((x1.a:Int)+1=(x3.i:Int))/\(((x1.b:Int)-1=(x3.j:Int))/\(((x1.b:Int)-1=(x1.b:Int)-1)/\(((x1.b:Int)=(x1.b:Int))/\(((x1.a:Int)+1=(x1.a:Int)+1)/\(((x1.a:Int)=(x1.a:Int))/\(((0+Int.toNat (x1.p:Int)=0+Int.toNat (x1.p:Int))/\0=0)/\(((0+Int.toNat (x1.a:Int)=0+Int.toNat (x1.a:Int))/\0=0)/\(((((Array.toList x1.d).getD (0+Int.toNat (x1.a:Int)) default).rk=((Array.toList x1.d).getD (0+Int.toNat (x1.a:Int)) default).rk)/\((((Array.toList x1.d).getD (0+Int.toNat (x1.a:Int)) default).si=((Array.toList x1.d).getD (0+Int.toNat (x1.a:Int)) default).si)/\((((Array.toList x1.d).getD (0+Int.toNat (x1.a:Int)) default).ca=((Array.toList x1.d).getD (0+Int.toNat (x1.a:Int)) default).ca)/\True)))/\(((0+Int.toNat (x1.a:Int)=0+Int.toNat (x1.a:Int))/\0=0)/\(((x1.a:Int)=(x1.a:Int))/\((0=0/\(Array.size x1.d=Array.size x1.d))/\(((((Array.toList x1.d).getD (0+Int.toNat (x1.p:Int)) default).rk=((Array.toList x1.d).getD (0+Int.toNat (x1.p:Int)) default).rk)/\((((Array.toList x1.d).getD (0+Int.toNat (x1.p:Int)) default).si=((Array.toList x1.d).getD (0+Int.toNat (x1.p:Int)) default).si)/\((((Array.toList x1.d).getD (0+Int.toNat (x1.p:Int)) default).ca=((Array.toList x1.d).getD (0+Int.toNat (x1.p:Int)) default).ca)/\True)))/\(((0+Int.toNat (x1.p:Int)=0+Int.toNat (x1.p:Int))/\0=0)/\(((x1.p:Int)=(x1.p:Int))/\((0=0/\(Array.size x1.d=Array.size x1.d))/\(((x1.p:Int)=(x1.p:Int))/\((0=0/\(Array.size x1.d=Array.size x1.d))/\(((x1.a:Int)=(x1.a:Int))/\((0=0/\(Array.size x1.d=Array.size x1.d))/\(((0:Int)=0)/\((0=0/\(Array.size x1.d=Array.size x1.d))/\(((x1.a:Int)=(x1.a:Int))/\(((x1.b:Int)=(x1.b:Int))/\(((x1.p:Int)=(x1.p:Int))/\(True/\True))))))))))))))))))))))))))/\(((RLe (Array.size x1.d) (Array.size x1.d))/\(RowsEq [.int .i64,.int .i64,.int .i64] (Array.size x1.d) (setRow (setRow (aR x1.d) (0+Int.toNat (x1.a:Int)) 0 (D.i ((Array.toList x1.d).getD (0+Int.toNat (x1.p:Int)) default).rk::D.i ((Array.toList x1.d).getD (0+Int.toNat (x1.p:Int)) default).si::D.i ((Array.toList x1.d).getD (0+Int.toNat (x1.p:Int)) default).ca::@List.nil D)) (0+Int.toNat (x1.p:Int)) 0 (D.i ((Array.toList x1.d).getD (0+Int.toNat (x1.a:Int)) default).rk::D.i ((Array.toList x1.d).getD (0+Int.toNat (x1.a:Int)) default).si::D.i ((Array.toList x1.d).getD (0+Int.toNat (x1.a:Int)) default).ca::@List.nil D)) (aR x3.d)))/\True)))/\(∀ x4:PTs,((PEok x1 x4)->(∃ x6:Nat,(((SUok x4 (peP x1 x4) x6)/\((((x4.i:Int)=(x6:Int))/\(((x4.j:Int)=(x4.j:Int))/\(((x1.b:Int)-1=(x1.b:Int)-1)/\(((x1.b:Int)=(x1.b:Int))/\(((x1.a:Int)+1=(x1.a:Int)+1)/\(((x1.a:Int)=(x1.a:Int))/\(((0+Int.toNat (x1.p:Int)=0+Int.toNat (x1.p:Int))/\0=0)/\(((0+Int.toNat (x1.a:Int)=0+Int.toNat (x1.a:Int))/\0=0)/\(((((Array.toList x1.d).getD (0+Int.toNat (x1.a:Int)) default).rk=((Array.toList x1.d).getD (0+Int.toNat (x1.a:Int)) default).rk)/\((((Array.toList x1.d).getD (0+Int.toNat (x1.a:Int)) default).si=((Array.toList x1.d).getD (0+Int.toNat (x1.a:Int)) default).si)/\((((Array.toList x1.d).getD (0+Int.toNat (x1.a:Int)) default).ca=((Array.toList x1.d).getD (0+Int.toNat (x1.a:Int)) default).ca)/\True)))/\(((0+Int.toNat (x1.a:Int)=0+Int.toNat (x1.a:Int))/\0=0)/\(((x1.a:Int)=(x1.a:Int))/\((0=0/\(Array.size x1.d=Array.size x1.d))/\(((((Array.toList x1.d).getD (0+Int.toNat (x1.p:Int)) default).rk=((Array.toList x1.d).getD (0+Int.toNat (x1.p:Int)) default).rk)/\((((Array.toList x1.d).getD (0+Int.toNat (x1.p:Int)) default).si=((Array.toList x1.d).getD (0+Int.toNat (x1.p:Int)) default).si)/\((((Array.toList x1.d).getD (0+Int.toNat (x1.p:Int)) default).ca=((Array.toList x1.d).getD (0+Int.toNat (x1.p:Int)) default).ca)/\True)))/\(((0+Int.toNat (x1.p:Int)=0+Int.toNat (x1.p:Int))/\0=0)/\(((x1.p:Int)=(x1.p:Int))/\((0=0/\(Array.size x1.d=Array.size x1.d))/\(((x1.p:Int)=(x1.p:Int))/\((0=0/\(Array.size x1.d=Array.size x1.d))/\(((x1.a:Int)=(x1.a:Int))/\((0=0/\(Array.size x1.d=Array.size x1.d))/\(((0:Int)=0)/\((0=0/\(Array.size x1.d=Array.size x1.d))/\(((x1.a:Int)=(x1.a:Int))/\(((x1.b:Int)=(x1.b:Int))/\(((x1.p:Int)=(x1.p:Int))/\(True/\True))))))))))))))))))))))))))/\(((RLe (Array.size x1.d) (Array.size x1.d))/\(RowsEq [.int .i64,.int .i64,.int .i64] (Array.size x1.d) (aR x4.d) (aR x4.d)))/\True)))/\(∀ x7:Nat,((SUok x4 (peP x1 x4) x7)->((((decide ((x7:Int)<=(x4.j:Int))=true)->((((0:Int)<=(x1.a:Int))/\((x1.a:Int)<(↑(Array.size x1.d):Int)))/\((0+Int.toNat (x1.a:Int)<Array.size x1.d)/\((((0:Int)<=(x7:Int))/\((x7:Int)<(↑(Array.size x1.d):Int)))/\((0+Int.toNat (x7:Int)<Array.size x1.d)/\(∃ x10:P2x,(True/\((((((Array.toList x4.d).getD (0+Int.toNat (x1.a:Int)) default).rk=x10.a.rk)/\((((Array.toList x4.d).getD (0+Int.toNat (x1.a:Int)) default).si=x10.a.si)/\((((Array.toList x4.d).getD (0+Int.toNat (x1.a:Int)) default).ca=x10.a.ca)/\True)))/\(((((Array.toList x4.d).getD (0+Int.toNat (x7:Int)) default).rk=x10.b.rk)/\((((Array.toList x4.d).getD (0+Int.toNat (x7:Int)) default).si=x10.b.si)/\((((Array.toList x4.d).getD (0+Int.toNat (x7:Int)) default).ca=x10.b.ca)/\True)))/\True))/\(True/\(∃ x11:Unit,(True/\(((!decide (cmpP x10.a x10.b<(0:Int)))=suB x4 (peP x1 x4) x7)/\True))))))))))))/\((decide ((x7:Int)<=(x4.j:Int))=false)->(∃ x13:Unit,(True/\((false=suB x4 (peP x1 x4) x7)/\True)))))/\(∀ x14:Unit,(True->(((suB x4 (peP x1 x4) x7=true)->((((-9223372036854775808:Int)<=(x7:Int)+1)/\((x7:Int)+1<=(9223372036854775807:Int)))/\(∃ x17:Nat,((x4.j+(1:Nat)-x17<x4.j+(1:Nat)-x7)/\((SUok x4 (peP x1 x4) x17)/\((((x7:Int)+1=(x17:Int))/\(((x4.j:Int)=(x4.j:Int))/\(((x1.b:Int)-1=(x1.b:Int)-1)/\(((x1.b:Int)=(x1.b:Int))/\(((x1.a:Int)+1=(x1.a:Int)+1)/\(((x1.a:Int)=(x1.a:Int))/\(((0+Int.toNat (x1.p:Int)=0+Int.toNat (x1.p:Int))/\0=0)/\(((0+Int.toNat (x1.a:Int)=0+Int.toNat (x1.a:Int))/\0=0)/\(((((Array.toList x1.d).getD (0+Int.toNat (x1.a:Int)) default).rk=((Array.toList x1.d).getD (0+Int.toNat (x1.a:Int)) default).rk)/\((((Array.toList x1.d).getD (0+Int.toNat (x1.a:Int)) default).si=((Array.toList x1.d).getD (0+Int.toNat (x1.a:Int)) default).si)/\((((Array.toList x1.d).getD (0+Int.toNat (x1.a:Int)) default).ca=((Array.toList x1.d).getD (0+Int.toNat (x1.a:Int)) default).ca)/\True)))/\(((0+Int.toNat (x1.a:Int)=0+Int.toNat (x1.a:Int))/\0=0)/\(((x1.a:Int)=(x1.a:Int))/\((0=0/\(Array.size x1.d=Array.size x1.d))/\(((((Array.toList x1.d).getD (0+Int.toNat (x1.p:Int)) default).rk=((Array.toList x1.d).getD (0+Int.toNat (x1.p:Int)) default).rk)/\((((Array.toList x1.d).getD (0+Int.toNat (x1.p:Int)) default).si=((Array.toList x1.d).getD (0+Int.toNat (x1.p:Int)) default).si)/\((((Array.toList x1.d).getD (0+Int.toNat (x1.p:Int)) default).ca=((Array.toList x1.d).getD (0+Int.toNat (x1.p:Int)) default).ca)/\True)))/\(((0+Int.toNat (x1.p:Int)=0+Int.toNat (x1.p:Int))/\0=0)/\(((x1.p:Int)=(x1.p:Int))/\((0=0/\(Array.size x1.d=Array.size x1.d))/\(((x1.p:Int)=(x1.p:Int))/\((0=0/\(Array.size x1.d=Array.size x1.d))/\(((x1.a:Int)=(x1.a:Int))/\((0=0/\(Array.size x1.d=Array.size x1.d))/\(((0:Int)=0)/\((0=0/\(Array.size x1.d=Array.size x1.d))/\(((x1.a:Int)=(x1.a:Int))/\(((x1.b:Int)=(x1.b:Int))/\(((x1.p:Int)=(x1.p:Int))/\(True/\True))))))))))))))))))))))))))/\(((RLe (Array.size x1.d) (Array.size x1.d))/\(RowsEq [.int .i64,.int .i64,.int .i64] (Array.size x1.d) (aR x4.d) (aR x4.d)))/\True)))))))/\((suB x4 (peP x1 x4) x7=false)->(∃ x19:Nat,(((SWok x4 (peQ x1 x4) (peU x1 x4) x19)/\((((x7:Int)=(↑(peU x1 x4):Int))/\(((x4.j:Int)=(x19:Int))/\(((x1.b:Int)-1=(x1.b:Int)-1)/\(((x1.b:Int)=(x1.b:Int))/\(((x1.a:Int)+1=(x1.a:Int)+1)/\(((x1.a:Int)=(x1.a:Int))/\(((0+Int.toNat (x1.p:Int)=0+Int.toNat (x1.p:Int))/\0=0)/\(((0+Int.toNat (x1.a:Int)=0+Int.toNat (x1.a:Int))/\0=0)/\(((((Array.toList x1.d).getD (0+Int.toNat (x1.a:Int)) default).rk=((Array.toList x1.d).getD (0+Int.toNat (x1.a:Int)) default).rk)/\((((Array.toList x1.d).getD (0+Int.toNat (x1.a:Int)) default).si=((Array.toList x1.d).getD (0+Int.toNat (x1.a:Int)) default).si)/\((((Array.toList x1.d).getD (0+Int.toNat (x1.a:Int)) default).ca=((Array.toList x1.d).getD (0+Int.toNat (x1.a:Int)) default).ca)/\True)))/\(((0+Int.toNat (x1.a:Int)=0+Int.toNat (x1.a:Int))/\0=0)/\(((x1.a:Int)=(x1.a:Int))/\((0=0/\(Array.size x1.d=Array.size x1.d))/\(((((Array.toList x1.d).getD (0+Int.toNat (x1.p:Int)) default).rk=((Array.toList x1.d).getD (0+Int.toNat (x1.p:Int)) default).rk)/\((((Array.toList x1.d).getD (0+Int.toNat (x1.p:Int)) default).si=((Array.toList x1.d).getD (0+Int.toNat (x1.p:Int)) default).si)/\((((Array.toList x1.d).getD (0+Int.toNat (x1.p:Int)) default).ca=((Array.toList x1.d).getD (0+Int.toNat (x1.p:Int)) default).ca)/\True)))/\(((0+Int.toNat (x1.p:Int)=0+Int.toNat (x1.p:Int))/\0=0)/\(((x1.p:Int)=(x1.p:Int))/\((0=0/\(Array.size x1.d=Array.size x1.d))/\(((x1.p:Int)=(x1.p:Int))/\((0=0/\(Array.size x1.d=Array.size x1.d))/\(((x1.a:Int)=(x1.a:Int))/\((0=0/\(Array.size x1.d=Array.size x1.d))/\(((0:Int)=0)/\((0=0/\(Array.size x1.d=Array.size x1.d))/\(((x1.a:Int)=(x1.a:Int))/\(((x1.b:Int)=(x1.b:Int))/\(((x1.p:Int)=(x1.p:Int))/\(True/\True))))))))))))))))))))))))))/\(((RLe (Array.size x1.d) (Array.size x1.d))/\(RowsEq [.int .i64,.int .i64,.int .i64] (Array.size x1.d) (aR x4.d) (aR x4.d)))/\True)))/\(∀ x20:Nat,((SWok x4 (peQ x1 x4) (peU x1 x4) x20)->((((decide ((↑(peU x1 x4):Int)<=(x20:Int))=true)->((((0:Int)<=(x1.a:Int))/\((x1.a:Int)<(↑(Array.size x1.d):Int)))/\((0+Int.toNat (x1.a:Int)<Array.size x1.d)/\((((0:Int)<=(x20:Int))/\((x20:Int)<(↑(Array.size x1.d):Int)))/\((0+Int.toNat (x20:Int)<Array.size x1.d)/\(∃ x23:P2x,(True/\((((((Array.toList x4.d).getD (0+Int.toNat (x1.a:Int)) default).rk=x23.a.rk)/\((((Array.toList x4.d).getD (0+Int.toNat (x1.a:Int)) default).si=x23.a.si)/\((((Array.toList x4.d).getD (0+Int.toNat (x1.a:Int)) default).ca=x23.a.ca)/\True)))/\(((((Array.toList x4.d).getD (0+Int.toNat (x20:Int)) default).rk=x23.b.rk)/\((((Array.toList x4.d).getD (0+Int.toNat (x20:Int)) default).si=x23.b.si)/\((((Array.toList x4.d).getD (0+Int.toNat (x20:Int)) default).ca=x23.b.ca)/\True)))/\True))/\(True/\(∃ x24:Unit,(True/\((decide (cmpP x23.a x23.b<(0:Int))=swB x4 (peQ x1 x4) (peU x1 x4) x20)/\True))))))))))))/\((decide ((↑(peU x1 x4):Int)<=(x20:Int))=false)->(∃ x26:Unit,(True/\((false=swB x4 (peQ x1 x4) (peU x1 x4) x20)/\True)))))/\(∀ x27:Unit,(True->(((swB x4 (peQ x1 x4) (peU x1 x4) x20=true)->((((-9223372036854775808:Int)<=(x20:Int)-1)/\((x20:Int)-1<=(9223372036854775807:Int)))/\(∃ x30:Nat,((x30<x20)/\((SWok x4 (peQ x1 x4) (peU x1 x4) x30)/\((((↑(peU x1 x4):Int)=(↑(peU x1 x4):Int))/\(((x20:Int)-1=(x30:Int))/\(((x1.b:Int)-1=(x1.b:Int)-1)/\(((x1.b:Int)=(x1.b:Int))/\(((x1.a:Int)+1=(x1.a:Int)+1)/\(((x1.a:Int)=(x1.a:Int))/\(((0+Int.toNat (x1.p:Int)=0+Int.toNat (x1.p:Int))/\0=0)/\(((0+Int.toNat (x1.a:Int)=0+Int.toNat (x1.a:Int))/\0=0)/\(((((Array.toList x1.d).getD (0+Int.toNat (x1.a:Int)) default).rk=((Array.toList x1.d).getD (0+Int.toNat (x1.a:Int)) default).rk)/\((((Array.toList x1.d).getD (0+Int.toNat (x1.a:Int)) default).si=((Array.toList x1.d).getD (0+Int.toNat (x1.a:Int)) default).si)/\((((Array.toList x1.d).getD (0+Int.toNat (x1.a:Int)) default).ca=((Array.toList x1.d).getD (0+Int.toNat (x1.a:Int)) default).ca)/\True)))/\(((0+Int.toNat (x1.a:Int)=0+Int.toNat (x1.a:Int))/\0=0)/\(((x1.a:Int)=(x1.a:Int))/\((0=0/\(Array.size x1.d=Array.size x1.d))/\(((((Array.toList x1.d).getD (0+Int.toNat (x1.p:Int)) default).rk=((Array.toList x1.d).getD (0+Int.toNat (x1.p:Int)) default).rk)/\((((Array.toList x1.d).getD (0+Int.toNat (x1.p:Int)) default).si=((Array.toList x1.d).getD (0+Int.toNat (x1.p:Int)) default).si)/\((((Array.toList x1.d).getD (0+Int.toNat (x1.p:Int)) default).ca=((Array.toList x1.d).getD (0+Int.toNat (x1.p:Int)) default).ca)/\True)))/\(((0+Int.toNat (x1.p:Int)=0+Int.toNat (x1.p:Int))/\0=0)/\(((x1.p:Int)=(x1.p:Int))/\((0=0/\(Array.size x1.d=Array.size x1.d))/\(((x1.p:Int)=(x1.p:Int))/\((0=0/\(Array.size x1.d=Array.size x1.d))/\(((x1.a:Int)=(x1.a:Int))/\((0=0/\(Array.size x1.d=Array.size x1.d))/\(((0:Int)=0)/\((0=0/\(Array.size x1.d=Array.size x1.d))/\(((x1.a:Int)=(x1.a:Int))/\(((x1.b:Int)=(x1.b:Int))/\(((x1.p:Int)=(x1.p:Int))/\(True/\True))))))))))))))))))))))))))/\(((RLe (Array.size x1.d) (Array.size x1.d))/\(RowsEq [.int .i64,.int .i64,.int .i64] (Array.size x1.d) (aR x4.d) (aR x4.d)))/\True)))))))/\((swB x4 (peQ x1 x4) (peU x1 x4) x20=false)->(((decide ((x20:Int)<(↑(peU x1 x4):Int))=true)->(((↑(peU x1 x4):Int)=(↑(Prod.fst (peF x1)):Int))/\(((RLe (Array.size x1.d) (Array.size x1.d))/\(RowsEq [.int .i64,.int .i64,.int .i64] (Array.size x1.d) (aR x4.d) (aR (Prod.snd (peF x1)))))/\True)))/\((decide ((x20:Int)<(↑(peU x1 x4):Int))=false)->((((0:Int)<=(x20:Int))/\((x20:Int)<(↑(Array.size x1.d):Int)))/\((0+Int.toNat (x20:Int)<Array.size x1.d)/\((((0:Int)<=(↑(peU x1 x4):Int))/\((↑(peU x1 x4):Int)<(↑(Array.size x1.d):Int)))/\((0+Int.toNat (↑(peU x1 x4):Int)<Array.size x1.d)/\((((0:Int)<=(↑(peU x1 x4):Int))/\((↑(peU x1 x4):Int)<(↑(Array.size x1.d):Int)))/\(((0+Int.toNat (↑(peU x1 x4):Int)<Array.size x1.d)/\(True/\(True/\(True/\True))))/\((((0:Int)<=(x20:Int))/\((x20:Int)<(↑(Array.size x1.d):Int)))/\(((0+Int.toNat (x20:Int)<Array.size x1.d)/\(True/\(True/\(True/\True))))/\((((-9223372036854775808:Int)<=(↑(peU x1 x4):Int)+1)/\((↑(peU x1 x4):Int)+1<=(9223372036854775807:Int)))/\((((-9223372036854775808:Int)<=(x20:Int)-1)/\((x20:Int)-1<=(9223372036854775807:Int)))/\(∃ x34:PTs,((x34.j+(1:Nat)-x34.i<x4.j+(1:Nat)-x4.i)/\((PEok x1 x34)/\((((↑(peU x1 x4):Int)+1=(x34.i:Int))/\(((x20:Int)-1=(x34.j:Int))/\(((x1.b:Int)-1=(x1.b:Int)-1)/\(((x1.b:Int)=(x1.b:Int))/\(((x1.a:Int)+1=(x1.a:Int)+1)/\(((x1.a:Int)=(x1.a:Int))/\(((0+Int.toNat (x1.p:Int)=0+Int.toNat (x1.p:Int))/\0=0)/\(((0+Int.toNat (x1.a:Int)=0+Int.toNat (x1.a:Int))/\0=0)/\(((((Array.toList x1.d).getD (0+Int.toNat (x1.a:Int)) default).rk=((Array.toList x1.d).getD (0+Int.toNat (x1.a:Int)) default).rk)/\((((Array.toList x1.d).getD (0+Int.toNat (x1.a:Int)) default).si=((Array.toList x1.d).getD (0+Int.toNat (x1.a:Int)) default).si)/\((((Array.toList x1.d).getD (0+Int.toNat (x1.a:Int)) default).ca=((Array.toList x1.d).getD (0+Int.toNat (x1.a:Int)) default).ca)/\True)))/\(((0+Int.toNat (x1.a:Int)=0+Int.toNat (x1.a:Int))/\0=0)/\(((x1.a:Int)=(x1.a:Int))/\((0=0/\(Array.size x1.d=Array.size x1.d))/\(((((Array.toList x1.d).getD (0+Int.toNat (x1.p:Int)) default).rk=((Array.toList x1.d).getD (0+Int.toNat (x1.p:Int)) default).rk)/\((((Array.toList x1.d).getD (0+Int.toNat (x1.p:Int)) default).si=((Array.toList x1.d).getD (0+Int.toNat (x1.p:Int)) default).si)/\((((Array.toList x1.d).getD (0+Int.toNat (x1.p:Int)) default).ca=((Array.toList x1.d).getD (0+Int.toNat (x1.p:Int)) default).ca)/\True)))/\(((0+Int.toNat (x1.p:Int)=0+Int.toNat (x1.p:Int))/\0=0)/\(((x1.p:Int)=(x1.p:Int))/\((0=0/\(Array.size x1.d=Array.size x1.d))/\(((x1.p:Int)=(x1.p:Int))/\((0=0/\(Array.size x1.d=Array.size x1.d))/\(((x1.a:Int)=(x1.a:Int))/\((0=0/\(Array.size x1.d=Array.size x1.d))/\(((0:Int)=0)/\((0=0/\(Array.size x1.d=Array.size x1.d))/\(((x1.a:Int)=(x1.a:Int))/\(((x1.b:Int)=(x1.b:Int))/\(((x1.p:Int)=(x1.p:Int))/\(True/\True))))))))))))))))))))))))))/\(((RLe (Array.size x1.d) (Array.size x1.d))/\(RowsEq [.int .i64,.int .i64,.int .i64] (Array.size x1.d) (setRow (setRow (aR x4.d) (0+Int.toNat (↑(peU x1 x4):Int)) 0 (D.i ((Array.toList x4.d).getD (0+Int.toNat (x20:Int)) default).rk::D.i ((Array.toList x4.d).getD (0+Int.toNat (x20:Int)) default).si::D.i ((Array.toList x4.d).getD (0+Int.toNat (x20:Int)) default).ca::@List.nil D)) (0+Int.toNat (x20:Int)) 0 (D.i ((Array.toList x4.d).getD (0+Int.toNat (↑(peU x1 x4):Int)) default).rk::D.i ((Array.toList x4.d).getD (0+Int.toNat (↑(peU x1 x4):Int)) default).si::D.i ((Array.toList x4.d).getD (0+Int.toNat (↑(peU x1 x4):Int)) default).ca::@List.nil D)) (aR x34.d)))/\True))))))))))))))))))))))))))))))))))))))))))))))))))))=(Keeps cfgO2 Try.f53 peC peI) by kernel_rfl) (fun x1=>fun h2=>⟨⟨(by omega),
(by(have:=h2.n;have:=h2.b;have:=h2.a;have:=h2.p;omega))⟩,
(by(have:=h2.n;have:=h2.b;have:=h2.a;have:=h2.p;omega)),
⟨(by omega),
(by(have:=h2.n;have:=h2.b;have:=h2.a;have:=h2.p;omega))⟩,
(by(have:=h2.n;have:=h2.b;have:=h2.a;have:=h2.p;omega)),
⟨(by omega),
(by(have:=h2.n;have:=h2.b;have:=h2.a;have:=h2.p;omega))⟩,
⟨(by(have:=h2.n;have:=h2.b;have:=h2.a;have:=h2.p;omega)),trivial,trivial,trivial,trivial⟩,
⟨(by omega),
(by(have:=h2.n;have:=h2.b;have:=h2.a;have:=h2.p;omega))⟩,
⟨(by(have:=h2.n;have:=h2.b;have:=h2.a;have:=h2.p;omega)),trivial,trivial,trivial,trivial⟩,
⟨(by omega),
(by(have:=h2.n;have:=h2.b;have:=h2.a;have:=h2.p;omega))⟩,
⟨(by omega),
(by(have:=h2.n;have:=h2.b;have:=h2.a;have:=h2.p;omega))⟩,
({ i:=SPx.a x1+(1:Nat),j:=SPx.b x1-(1:Nat),d:= Sort.swp (SPx.d x1) (SPx.a x1) (SPx.p x1):PTs }),
⟨(by(try dsimp only at *);exact pe_start h2),
⟨(by(try dsimp only at *);omega),
(by(try dsimp only at *);(have:=h2.n;have:=h2.b;have:=h2.a;have:=h2.p;omega)),rfl,rfl,rfl,rfl,
⟨rfl,rfl⟩,
⟨rfl,rfl⟩,
⟨rfl,rfl,rfl,trivial⟩,
⟨rfl,rfl⟩,rfl,
⟨rfl,rfl⟩,
⟨rfl,rfl,rfl,trivial⟩,
⟨rfl,rfl⟩,rfl,
⟨rfl,rfl⟩,rfl,
⟨rfl,rfl⟩,rfl,
⟨rfl,rfl⟩,rfl,
⟨rfl,rfl⟩,rfl,rfl,rfl,trivial,trivial⟩,
⟨rl,
(by(try dsimp only at *);(simp only[nat0];have:=h2.b;have:=h2.a;have:=h2.p;exact swp_rowsT rfl (by omega) (by omega)))⟩,trivial⟩,
fun x4=>fun h5=>⟨(PTs.i x4),
⟨(by(try dsimp only at *);exact su_start h5.ij),
⟨rfl,rfl,rfl,rfl,rfl,rfl,
⟨rfl,rfl⟩,
⟨rfl,rfl⟩,
⟨rfl,rfl,rfl,trivial⟩,
⟨rfl,rfl⟩,rfl,
⟨rfl,rfl⟩,
⟨rfl,rfl,rfl,trivial⟩,
⟨rfl,rfl⟩,rfl,
⟨rfl,rfl⟩,rfl,
⟨rfl,rfl⟩,rfl,
⟨rfl,rfl⟩,rfl,
⟨rfl,rfl⟩,rfl,rfl,rfl,trivial,trivial⟩,
⟨rl,rr⟩,trivial⟩,
fun x7=>fun h8=>⟨⟨fun g9=>have h9:=dT g9;⟨⟨(by(try dsimp only at *);omega),
(by(try dsimp only at *);(have:=h2.n;have:=h2.b;have:=h2.a;have:=h2.p;omega))⟩,
(by(try dsimp only at *);(have:=h2.n;have:=h2.b;have:=h2.a;have:=h2.p;omega)),
⟨(by(try dsimp only at *);omega),
(by(try dsimp only at *);(have:=h8.hi;have:=h5.j;have:=h2.n;have:=h2.b;omega))⟩,
(by(try dsimp only at *);(have:=h8.hi;have:=h5.j;have:=h2.n;have:=h2.b;omega)),
({ a:=List.getD (Array.toList (PTs.d x4)) ((0:Nat)+Int.toNat (↑(SPx.a x1):Int)) default,b:=List.getD (Array.toList (PTs.d x4)) ((0:Nat)+Int.toNat (↑x7:Int)) default:P2x }),trivial,
⟨⟨rfl,rfl,rfl,trivial⟩,
⟨rfl,rfl,rfl,trivial⟩,trivial⟩,trivial,
(default),trivial,
(by(try dsimp only at *);(simp only[nat0];exact suB_in h9 (peP_at _ _ _))),trivial⟩,
fun g12=>have h12:=dF g12;⟨(default),trivial,
(by(try dsimp only at *);exact suB_out h12),trivial⟩⟩,
fun x14=>fun h15=>⟨fun h16=>⟨⟨(by(try dsimp only at *);omega),
(by(try dsimp only at *);(have:=h8.hi;have:=h5.j;have:=h2.n;have:=h2.b;omega))⟩,
(x7+(1:Nat)),
(by(try dsimp only at *);(have:=suB_le h16;have:=h5.j;have:=h2.n;have:=h2.b;omega)),
(by(try dsimp only at *);exact su_next h8 h16),
⟨(by(try dsimp only at *);omega),rfl,rfl,rfl,rfl,rfl,
⟨rfl,rfl⟩,
⟨rfl,rfl⟩,
⟨rfl,rfl,rfl,trivial⟩,
⟨rfl,rfl⟩,rfl,
⟨rfl,rfl⟩,
⟨rfl,rfl,rfl,trivial⟩,
⟨rfl,rfl⟩,rfl,
⟨rfl,rfl⟩,rfl,
⟨rfl,rfl⟩,rfl,
⟨rfl,rfl⟩,rfl,
⟨rfl,rfl⟩,rfl,rfl,rfl,trivial,trivial⟩,
⟨rl,rr⟩,trivial⟩,
fun h18=>⟨(PTs.j x4),
⟨(by(try dsimp only at *);(have e:x7=peU x1 x4:=su_fin h8 h18;rw[<- e];exact sw_start h8)),
⟨(by(try dsimp only at *);(have e:x7=peU x1 x4:=su_fin h8 h18;omega)),rfl,rfl,rfl,rfl,rfl,
⟨rfl,rfl⟩,
⟨rfl,rfl⟩,
⟨rfl,rfl,rfl,trivial⟩,
⟨rfl,rfl⟩,rfl,
⟨rfl,rfl⟩,
⟨rfl,rfl,rfl,trivial⟩,
⟨rfl,rfl⟩,rfl,
⟨rfl,rfl⟩,rfl,
⟨rfl,rfl⟩,rfl,
⟨rfl,rfl⟩,rfl,
⟨rfl,rfl⟩,rfl,rfl,rfl,trivial,trivial⟩,
⟨rl,rr⟩,trivial⟩,
fun x20=>fun h21=>⟨⟨fun g22=>have h22:=dT g22;⟨⟨(by(try dsimp only at *);omega),
(by(try dsimp only at *);(have:=h2.n;have:=h2.b;have:=h2.a;have:=h2.p;omega))⟩,
(by(try dsimp only at *);(have:=h2.n;have:=h2.b;have:=h2.a;have:=h2.p;omega)),
⟨(by(try dsimp only at *);omega),
(by(try dsimp only at *);(have:=h21.hi;have:=h21.uh;have:=h5.j;have:=h2.n;have:=h2.b;omega))⟩,
(by(try dsimp only at *);(have:=h21.hi;have:=h21.uh;have:=h5.j;have:=h2.n;have:=h2.b;omega)),
({ a:=List.getD (Array.toList (PTs.d x4)) ((0:Nat)+Int.toNat (↑(SPx.a x1):Int)) default,b:=List.getD (Array.toList (PTs.d x4)) ((0:Nat)+Int.toNat (↑x20:Int)) default:P2x }),trivial,
⟨⟨rfl,rfl,rfl,trivial⟩,
⟨rfl,rfl,rfl,trivial⟩,trivial⟩,trivial,
(default),trivial,
(by(try dsimp only at *);(simp only[nat0];exact swB_in h22 (peQ_at _ _ _))),trivial⟩,
fun g25=>have h25:=dF g25;⟨(default),trivial,
(by(try dsimp only at *);exact swB_out h25),trivial⟩⟩,
fun x27=>fun h28=>⟨fun h29=>⟨⟨(by(try dsimp only at *);omega),
(by(try dsimp only at *);(have:=h21.hi;have:=h21.uh;have:=h5.j;have:=h2.n;have:=h2.b;omega))⟩,
(x20-(1:Nat)),
(by(try dsimp only at *);(have:=swB_le h29;have:=h21.ul;have:=h5.i;have:=h21.hi;have:=h5.j;have:=h2.n;have:=h2.b;omega)),
(by(try dsimp only at *);exact sw_next (by have:=h5.i;omega) h21 h29),
⟨rfl,
(by(try dsimp only at *);(have:=swB_le h29;have:=h21.ul;have:=h5.i;have:=h21.hi;have:=h5.j;have:=h2.n;have:=h2.b;omega)),rfl,rfl,rfl,rfl,
⟨rfl,rfl⟩,
⟨rfl,rfl⟩,
⟨rfl,rfl,rfl,trivial⟩,
⟨rfl,rfl⟩,rfl,
⟨rfl,rfl⟩,
⟨rfl,rfl,rfl,trivial⟩,
⟨rfl,rfl⟩,rfl,
⟨rfl,rfl⟩,rfl,
⟨rfl,rfl⟩,rfl,
⟨rfl,rfl⟩,rfl,
⟨rfl,rfl⟩,rfl,rfl,rfl,trivial,trivial⟩,
⟨rl,rr⟩,trivial⟩,
fun h31=>⟨fun g32=>have h32:=dT g32;⟨(by(try dsimp only at *);(rw[pe_end h5 h21 h31 h32];done)),
⟨rl,
(by(try dsimp only at *);(rw[pe_end h5 h21 h31 h32];exact rr))⟩,trivial⟩,
fun g33=>have h33:=dF g33;⟨⟨(by(try dsimp only at *);omega),
(by(try dsimp only at *);(have:=h21.hi;have:=h21.uh;have:=h5.j;have:=h2.n;have:=h2.b;omega))⟩,
(by(try dsimp only at *);(have:=h21.hi;have:=h21.uh;have:=h5.j;have:=h2.n;have:=h2.b;omega)),
⟨(by(try dsimp only at *);omega),
(by(try dsimp only at *);(have:=h21.hi;have:=h21.uh;have:=h5.j;have:=h2.n;have:=h2.b;omega))⟩,
(by(try dsimp only at *);(have:=h21.hi;have:=h21.uh;have:=h5.j;have:=h2.n;have:=h2.b;omega)),
⟨(by(try dsimp only at *);omega),
(by(try dsimp only at *);(have:=h21.hi;have:=h21.uh;have:=h5.j;have:=h2.n;have:=h2.b;omega))⟩,
⟨(by(try dsimp only at *);(have:=h21.hi;have:=h21.uh;have:=h5.j;have:=h2.n;have:=h2.b;omega)),trivial,trivial,trivial,trivial⟩,
⟨(by(try dsimp only at *);omega),
(by(try dsimp only at *);(have:=h21.hi;have:=h21.uh;have:=h5.j;have:=h2.n;have:=h2.b;omega))⟩,
⟨(by(try dsimp only at *);(have:=h21.hi;have:=h21.uh;have:=h5.j;have:=h2.n;have:=h2.b;omega)),trivial,trivial,trivial,trivial⟩,
⟨(by(try dsimp only at *);omega),
(by(try dsimp only at *);(have:=h21.hi;have:=h21.uh;have:=h5.j;have:=h2.n;have:=h2.b;omega))⟩,
⟨(by(try dsimp only at *);omega),
(by(try dsimp only at *);(have:=h21.hi;have:=h21.uh;have:=h5.j;have:=h2.n;have:=h2.b;omega))⟩,
({ i:=peU x1 x4+(1:Nat),j:=x20-(1:Nat),d:= Sort.swp (PTs.d x4) (peU x1 x4) x20:PTs }),
(by(try dsimp only at *);(show x20-1+1-(peU x1 x4+1)<x4.j+1-x4.i;have:=h21.hi;have:=h21.ul;have:=h5.i;omega)),
(by(try dsimp only at *);exact pe_next h5 h8 h18 h21 h31 h33),
⟨(by(try dsimp only at *);omega),
(by(try dsimp only at *);(show(x20:Int)-1=((x20-1:Nat):Int);have:=h21.ul;have:=h5.i;omega)),rfl,rfl,rfl,rfl,
⟨rfl,rfl⟩,
⟨rfl,rfl⟩,
⟨rfl,rfl,rfl,trivial⟩,
⟨rfl,rfl⟩,rfl,
⟨rfl,rfl⟩,
⟨rfl,rfl,rfl,trivial⟩,
⟨rfl,rfl⟩,rfl,
⟨rfl,rfl⟩,rfl,
⟨rfl,rfl⟩,rfl,
⟨rfl,rfl⟩,rfl,
⟨rfl,rfl⟩,rfl,rfl,rfl,trivial,trivial⟩,
⟨rl,
(by(try dsimp only at *);(simp only[nat0];have:=h21.hi;have:=h21.uh;have:=h5.j;have:=h2.b;exact swp_rowsT h5.n (by omega) (by omega)))⟩,trivial⟩⟩⟩⟩⟩⟩⟩⟩⟩)
theorem pe_good:Good Try.prog 53 peC/\FnOk Try.prog 53:=good_of tok conO2 (fn:=Try.f53) rfl (by decide+kernel) (fun _=>rfl) pe_keeps
end Go.Sym