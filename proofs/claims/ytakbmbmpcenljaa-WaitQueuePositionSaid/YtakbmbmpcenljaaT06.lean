import Derived.Test.YtakbmbmpcenljaaT05
import Derived.Test.YtakbmbmpcenljaaXD
namespace Go.Sym
set_option linter.unusedVariables false
set_option linter.unusedSimpArgs false
open Go.Proofs
set_option maxRecDepth 100000
set_option maxHeartbeats 4000000
def ptF (x:SPx):Nat × Bool × Array Pl:=Sort.partition ltP x.d x.a x.b x.p
def ptC:CT where
 X:=SPx
 pre:=SPok
 args:=fun x=>[.sl 100000 0 x.d.size,.i .i64 x.a,.i .i64 x.b,.i .i64 x.p,cmA]
 g0:=fun x=>[(100000,.rows .own kP x.d.size (aR x.d))]
 res:=fun x=>.tup [.i .i64 (ptF x).1,.b (ptF x).2.1]
 g1:=fun x=>[(100000,.rows .own kP x.d.size (aR (ptF x).2.2))]
def ptP (x:SPx) (s:PTs):Pl->Bool:=fun z=>ltP z s.d[x.a]!
def ptQ (x:SPx) (s:PTs):Pl->Bool:=fun z=> !ltP z s.d[x.a]!
def ptU (x:SPx) (s:PTs):Nat:=Sort.scanUp (ptP x s) s.d s.j s.i
def ptD (x:SPx) (s:PTs):Nat:=Sort.scanDown (ptQ x s) s.d (ptU x s) s.j
def pt0 (x:SPx):PTs:=⟨x.a+1,x.b-1,Sort.swp x.d x.a x.p⟩
def ptN (x:SPx) (s:PTs) (j:Nat):PTs:=⟨ptU x s+1,j-1,Sort.swp s.d (ptU x s) j⟩
def ptR (x:SPx):Nat × Array Pl:=Sort.partLoop ltP x.a (ptN x (pt0 x) (ptD x (pt0 x))).i (ptN x (pt0 x) (ptD x (pt0 x))).j (ptN x (pt0 x) (ptD x (pt0 x))).d
structure PTb (x:SPx) (s:PTs):Prop where
 i:x.a<s.i
 j:s.j<x.b
 ij:s.i<=s.j+1
 n:s.d.size=x.d.size
structure PTok (x:SPx) (s:PTs):Prop where
 b:PTb x s
 eq:Sort.partLoop ltP x.a s.i s.j s.d=ptR x
 up:ptU x (pt0 x)<=ptD x (pt0 x)
def ptI (x:SPx) (id:Nat):Option Inv:=match id with
 | 0 => some { X := Nat, ok := fun i => SUok (pt0 x) (ptP x (pt0 x)) i, fr := fun i => [(12, .i .i64 i), (13, .i .i64 ((pt0 x).j))], hp := fun _ => [(100000, .rows .own kP x.d.size (aR (pt0 x).d))], me := fun i => (pt0 x).j + 1 - i,
               inn:=fun i id=>match id with
                |100047=>some (cutB 47 (suB (pt0 x) (ptP x (pt0 x)) i))
                |_=>none }
 | 2 => some { X := Nat, ok := fun j => SWok (pt0 x) (ptQ x (pt0 x)) (ptU x (pt0 x)) j, fr := fun j => [(12, .i .i64 (ptU x (pt0 x))), (13, .i .i64 j)], hp := fun _ => [], me := fun j => j,
               inn:=fun j id=>match id with
                |100066=>some (cutB 66 (swB (pt0 x) (ptQ x (pt0 x)) (ptU x (pt0 x)) j))
                |_=>none }
 | 4 => some { X := PTs, ok := fun s => PTok x s, fr := fun s => [(12, .i .i64 s.i), (13, .i .i64 s.j)], hp := fun s => [(100000, .rows .own kP x.d.size (aR s.d))], me := fun s => s.j + 1 - s.i,
               inn:=fun s id=>match id with
                | 6 => some { X := Nat, ok := fun i => SUok s (ptP x s) i, fr := fun i => [(12, .i .i64 i)], hp := fun _ => [], me := fun i => s.j + 1 - i,
                              inn:=fun i id=>match id with
                               |100120=>some (cutB 120 (suB s (ptP x s) i))
                               |_=>none }
                | 8 => some { X := Nat, ok := fun j => SWok s (ptQ x s) (ptU x s) j, fr := fun j => [(12, .i .i64 (ptU x s)), (13, .i .i64 j)], hp := fun _ => [], me := fun j => j,
                              inn:=fun j id=>match id with
                               |100139=>some (cutB 139 (swB s (ptQ x s) (ptU x s) j))
                               |_=>none }
                |_=>none }
 |_=>none
theorem ptP_at (x:SPx) (s:PTs) (i:Nat):decide (cmpP (s.d.toList.getD i default) (s.d.toList.getD x.a default)<0)=ptP x s s.d[i]! :=by
 show _=ltP _ _;rw[gA,gA];rfl
theorem ptQ_at (x:SPx) (s:PTs) (i:Nat):(!decide (cmpP (s.d.toList.getD i default) (s.d.toList.getD x.a default)<0))=ptQ x s s.d[i]! :=by
 show _= !ltP _ _;rw[gA,gA];rfl
theorem pt_ne {x:SPx} {s:PTs} {i:Nat} (k8:SUok s (ptP x s) i) (hs:suB s (ptP x s) i=false) {j:Nat} (k:SWok s (ptQ x s) (ptU x s) j) (hb:swB s (ptQ x s) (ptU x s) j=false):ptU x s≠j:=by
 intro q
 have e:i=ptU x s:=su_fin k8 hs
 have:=k.hi
 have a:ptP x s s.d[i]! =false:=by
  unfold suB at hs
  rwa [decide_eq_true (show i<=s.j by omega),Bool.true_and]at hs
 have b:ptQ x s s.d[j]! =false:=by
  unfold swB at hb
  rwa [decide_eq_true (show ptU x s<=j by omega),Bool.true_and]at hb
 rw[e,q]at a
 unfold ptP at a
 unfold ptQ at b
 rw[a]at b;cases b
theorem pt0_b {x:SPx} (h:SPok x):PTb x (pt0 x):=by
 have:=h.p;have:=h.a
 exact⟨Nat.lt_succ_self _,by show x.b-1<x.b;omega,by show x.a+1<=x.b-1+1;omega,swp_size _ _ _⟩
theorem ptN_b {x:SPx} {s:PTs} (h:PTb x s) {i:Nat} (k8:SUok s (ptP x s) i) (hs:suB s (ptP x s) i=false) {j:Nat} (k:SWok s (ptQ x s) (ptU x s) j) (hb:swB s (ptQ x s) (ptU x s) j=false) (hl:¬ (j:Int)<ptU x s):PTb x (ptN x s j):=by
 have:=h.i;have:=h.j;have:=k.ul;have:=k.uh;have:=k.hi;have:=k.lo;have:=pt_ne k8 hs k hb
 exact⟨by show x.a<ptU x s+1;omega,by show j-1<x.b;omega,by show ptU x s+1<=j-1+1;omega,(swp_size _ _ _).trans h.n⟩
theorem pt_unf (x:SPx) (s:PTs):Sort.partLoop ltP x.a s.i s.j s.d=(if ptU x s>ptD x s then(ptD x s,s.d)else Sort.partLoop ltP x.a (ptN x s (ptD x s)).i (ptN x s (ptD x s)).j (ptN x s (ptD x s)).d):=by
 conv=>lhs;unfold Sort.partLoop
 show(if ptU x s>ptD x s then _ else _)=_
 by_cases h:ptU x s>ptD x s
 ·rw[if_pos h,if_pos h];rfl
 ·rw[if_neg h,if_neg h]
  exact dif_pos (Sort.partLoop_guard (lt:=ltP) x.a s.i s.j s.d h)
theorem pt_first {x:SPx} (hx:SPok x) {i:Nat} (k8:SUok (pt0 x) (ptP x (pt0 x)) i) (hs:suB (pt0 x) (ptP x (pt0 x)) i=false) {j:Nat} (k:SWok (pt0 x) (ptQ x (pt0 x)) (ptU x (pt0 x)) j) (hb:swB (pt0 x) (ptQ x (pt0 x)) (ptU x (pt0 x)) j=false) (hl:¬ (j:Int)<ptU x (pt0 x)):PTok x (ptN x (pt0 x) j):=by
 have e:j=ptD x (pt0 x):=sw_fin k hb
 exact⟨ptN_b (pt0_b hx) k8 hs k hb hl,by rw[e];rfl,by omega⟩
theorem pt_next {x:SPx} {s:PTs} (h:PTok x s) {i:Nat} (k8:SUok s (ptP x s) i) (hs:suB s (ptP x s) i=false) {j:Nat} (k:SWok s (ptQ x s) (ptU x s) j) (hb:swB s (ptQ x s) (ptU x s) j=false) (hl:¬ (j:Int)<ptU x s):PTok x (ptN x s j):=by
 have e:j=ptD x s:=sw_fin k hb
 refine⟨ptN_b h.b k8 hs k hb hl,?_,h.up⟩
 rw[<- h.eq,pt_unf x s,if_neg (by omega),e]
theorem pt_true {x:SPx} {j:Nat} (k:SWok (pt0 x) (ptQ x (pt0 x)) (ptU x (pt0 x)) j) (hb:swB (pt0 x) (ptQ x (pt0 x)) (ptU x (pt0 x)) j=false) (hl:(j:Int)<ptU x (pt0 x)):ptF x=(j,true,Sort.swp (pt0 x).d j x.a):=by
 have e:j=ptD x (pt0 x):=sw_fin k hb
 unfold ptF Sort.partition
 show(if ptU x (pt0 x)>ptD x (pt0 x)then _ else _)=_
 rw[if_pos (by omega),e];rfl
theorem pt_false {x:SPx} {s:PTs} (h:PTok x s) {j:Nat} (k:SWok s (ptQ x s) (ptU x s) j) (hb:swB s (ptQ x s) (ptU x s) j=false) (hl:(j:Int)<ptU x s):ptF x=(j,false,Sort.swp s.d j x.a):=by
 have e:j=ptD x s:=sw_fin k hb
 have r:=h.eq
 rw[pt_unf x s,if_pos (by omega)]at r
 have hu:=h.up
 unfold ptF Sort.partition
 show(if ptU x (pt0 x)>ptD x (pt0 x)then _ else _)=_
 rw[if_neg (by omega)]
 show((ptR x).1,false,Sort.swp (ptR x).2 (ptR x).1 x.a)=_
 rw[<- r,e]
set_option maxRecDepth 100000 in
theorem pt_keeps:Keeps cfgO2 Try.f54 ptC ptI:=Eq.mp (show((∀ x1:SPx,((SPok x1)->((((0:Int)<=(x1.p:Int))/\((x1.p:Int)<(↑(Array.size x1.d):Int)))/\((0+Int.toNat (x1.p:Int)<Array.size x1.d)/\((((0:Int)<=(x1.a:Int))/\((x1.a:Int)<(↑(Array.size x1.d):Int)))/\((0+Int.toNat (x1.a:Int)<Array.size x1.d)/\((((0:Int)<=(x1.a:Int))/\((x1.a:Int)<(↑(Array.size x1.d):Int)))/\(((0+Int.toNat (x1.a:Int)<Array.size x1.d)/\(True/\(True/\(True/\True))))/\((((0:Int)<=(x1.p:Int))/\((x1.p:Int)<(↑(Array.size x1.d):Int)))/\(((0+Int.toNat (x1.p:Int)<Array.size x1.d)/\(True/\(True/\(True/\True))))/\((((-9223372036854775808:Int)<=(x1.a:Int)+1)/\((x1.a:Int)+1<=(9223372036854775807:Int)))/\((((-9223372036854775808:Int)<=(x1.b:Int)-1)/\((x1.b:Int)-1<=(9223372036854775807:Int)))/\(∃ x3:Nat,(((SUok (pt0 x1) (ptP x1 (pt0 x1)) x3)/\((((x1.a:Int)+1=(x3:Int))/\(((x1.b:Int)-1=(↑(pt0 x1).j:Int))/\(((x1.b:Int)-1=(x1.b:Int)-1)/\(((x1.b:Int)=(x1.b:Int))/\(((x1.a:Int)+1=(x1.a:Int)+1)/\(((x1.a:Int)=(x1.a:Int))/\(((0+Int.toNat (x1.p:Int)=0+Int.toNat (x1.p:Int))/\0=0)/\(((0+Int.toNat (x1.a:Int)=0+Int.toNat (x1.a:Int))/\0=0)/\(((((Array.toList x1.d).getD (0+Int.toNat (x1.a:Int)) default).rk=((Array.toList x1.d).getD (0+Int.toNat (x1.a:Int)) default).rk)/\((((Array.toList x1.d).getD (0+Int.toNat (x1.a:Int)) default).si=((Array.toList x1.d).getD (0+Int.toNat (x1.a:Int)) default).si)/\((((Array.toList x1.d).getD (0+Int.toNat (x1.a:Int)) default).ca=((Array.toList x1.d).getD (0+Int.toNat (x1.a:Int)) default).ca)/\True)))/\(((0+Int.toNat (x1.a:Int)=0+Int.toNat (x1.a:Int))/\0=0)/\(((x1.a:Int)=(x1.a:Int))/\((0=0/\(Array.size x1.d=Array.size x1.d))/\(((((Array.toList x1.d).getD (0+Int.toNat (x1.p:Int)) default).rk=((Array.toList x1.d).getD (0+Int.toNat (x1.p:Int)) default).rk)/\((((Array.toList x1.d).getD (0+Int.toNat (x1.p:Int)) default).si=((Array.toList x1.d).getD (0+Int.toNat (x1.p:Int)) default).si)/\((((Array.toList x1.d).getD (0+Int.toNat (x1.p:Int)) default).ca=((Array.toList x1.d).getD (0+Int.toNat (x1.p:Int)) default).ca)/\True)))/\(((0+Int.toNat (x1.p:Int)=0+Int.toNat (x1.p:Int))/\0=0)/\(((x1.p:Int)=(x1.p:Int))/\((0=0/\(Array.size x1.d=Array.size x1.d))/\(((x1.p:Int)=(x1.p:Int))/\((0=0/\(Array.size x1.d=Array.size x1.d))/\(((x1.a:Int)=(x1.a:Int))/\((0=0/\(Array.size x1.d=Array.size x1.d))/\(false=false/\(((0:Int)=0)/\((0=0/\(Array.size x1.d=Array.size x1.d))/\(((x1.a:Int)=(x1.a:Int))/\(((x1.b:Int)=(x1.b:Int))/\(((x1.p:Int)=(x1.p:Int))/\(True/\True)))))))))))))))))))))))))))/\(((RLe (Array.size x1.d) (Array.size x1.d))/\(RowsEq [.int .i64,.int .i64,.int .i64] (Array.size x1.d) (setRow (setRow (aR x1.d) (0+Int.toNat (x1.a:Int)) 0 (D.i ((Array.toList x1.d).getD (0+Int.toNat (x1.p:Int)) default).rk::D.i ((Array.toList x1.d).getD (0+Int.toNat (x1.p:Int)) default).si::D.i ((Array.toList x1.d).getD (0+Int.toNat (x1.p:Int)) default).ca::@List.nil D)) (0+Int.toNat (x1.p:Int)) 0 (D.i ((Array.toList x1.d).getD (0+Int.toNat (x1.a:Int)) default).rk::D.i ((Array.toList x1.d).getD (0+Int.toNat (x1.a:Int)) default).si::D.i ((Array.toList x1.d).getD (0+Int.toNat (x1.a:Int)) default).ca::@List.nil D)) (aR (pt0 x1).d)))/\True)))/\(∀ x4:Nat,((SUok (pt0 x1) (ptP x1 (pt0 x1)) x4)->((((decide ((x4:Int)<=(↑(pt0 x1).j:Int))=true)->((((0:Int)<=(x4:Int))/\((x4:Int)<(↑(Array.size x1.d):Int)))/\((0+Int.toNat (x4:Int)<Array.size x1.d)/\((((0:Int)<=(x1.a:Int))/\((x1.a:Int)<(↑(Array.size x1.d):Int)))/\((0+Int.toNat (x1.a:Int)<Array.size x1.d)/\(∃ x7:P2x,(True/\((((((Array.toList (pt0 x1).d).getD (0+Int.toNat (x4:Int)) default).rk=x7.a.rk)/\((((Array.toList (pt0 x1).d).getD (0+Int.toNat (x4:Int)) default).si=x7.a.si)/\((((Array.toList (pt0 x1).d).getD (0+Int.toNat (x4:Int)) default).ca=x7.a.ca)/\True)))/\(((((Array.toList (pt0 x1).d).getD (0+Int.toNat (x1.a:Int)) default).rk=x7.b.rk)/\((((Array.toList (pt0 x1).d).getD (0+Int.toNat (x1.a:Int)) default).si=x7.b.si)/\((((Array.toList (pt0 x1).d).getD (0+Int.toNat (x1.a:Int)) default).ca=x7.b.ca)/\True)))/\True))/\(True/\(∃ x8:Unit,(True/\((decide (cmpP x7.a x7.b<(0:Int))=suB (pt0 x1) (ptP x1 (pt0 x1)) x4)/\True))))))))))))/\((decide ((x4:Int)<=(↑(pt0 x1).j:Int))=false)->(∃ x10:Unit,(True/\((false=suB (pt0 x1) (ptP x1 (pt0 x1)) x4)/\True)))))/\(∀ x11:Unit,(True->(((suB (pt0 x1) (ptP x1 (pt0 x1)) x4=true)->((((-9223372036854775808:Int)<=(x4:Int)+1)/\((x4:Int)+1<=(9223372036854775807:Int)))/\(∃ x14:Nat,(((pt0 x1).j+(1:Nat)-x14<(pt0 x1).j+(1:Nat)-x4)/\((SUok (pt0 x1) (ptP x1 (pt0 x1)) x14)/\((((x4:Int)+1=(x14:Int))/\(((↑(pt0 x1).j:Int)=(↑(pt0 x1).j:Int))/\(((x1.b:Int)-1=(x1.b:Int)-1)/\(((x1.b:Int)=(x1.b:Int))/\(((x1.a:Int)+1=(x1.a:Int)+1)/\(((x1.a:Int)=(x1.a:Int))/\(((0+Int.toNat (x1.p:Int)=0+Int.toNat (x1.p:Int))/\0=0)/\(((0+Int.toNat (x1.a:Int)=0+Int.toNat (x1.a:Int))/\0=0)/\(((((Array.toList x1.d).getD (0+Int.toNat (x1.a:Int)) default).rk=((Array.toList x1.d).getD (0+Int.toNat (x1.a:Int)) default).rk)/\((((Array.toList x1.d).getD (0+Int.toNat (x1.a:Int)) default).si=((Array.toList x1.d).getD (0+Int.toNat (x1.a:Int)) default).si)/\((((Array.toList x1.d).getD (0+Int.toNat (x1.a:Int)) default).ca=((Array.toList x1.d).getD (0+Int.toNat (x1.a:Int)) default).ca)/\True)))/\(((0+Int.toNat (x1.a:Int)=0+Int.toNat (x1.a:Int))/\0=0)/\(((x1.a:Int)=(x1.a:Int))/\((0=0/\(Array.size x1.d=Array.size x1.d))/\(((((Array.toList x1.d).getD (0+Int.toNat (x1.p:Int)) default).rk=((Array.toList x1.d).getD (0+Int.toNat (x1.p:Int)) default).rk)/\((((Array.toList x1.d).getD (0+Int.toNat (x1.p:Int)) default).si=((Array.toList x1.d).getD (0+Int.toNat (x1.p:Int)) default).si)/\((((Array.toList x1.d).getD (0+Int.toNat (x1.p:Int)) default).ca=((Array.toList x1.d).getD (0+Int.toNat (x1.p:Int)) default).ca)/\True)))/\(((0+Int.toNat (x1.p:Int)=0+Int.toNat (x1.p:Int))/\0=0)/\(((x1.p:Int)=(x1.p:Int))/\((0=0/\(Array.size x1.d=Array.size x1.d))/\(((x1.p:Int)=(x1.p:Int))/\((0=0/\(Array.size x1.d=Array.size x1.d))/\(((x1.a:Int)=(x1.a:Int))/\((0=0/\(Array.size x1.d=Array.size x1.d))/\(false=false/\(((0:Int)=0)/\((0=0/\(Array.size x1.d=Array.size x1.d))/\(((x1.a:Int)=(x1.a:Int))/\(((x1.b:Int)=(x1.b:Int))/\(((x1.p:Int)=(x1.p:Int))/\(True/\True)))))))))))))))))))))))))))/\(((RLe (Array.size x1.d) (Array.size x1.d))/\(RowsEq [.int .i64,.int .i64,.int .i64] (Array.size x1.d) (aR (pt0 x1).d) (aR (pt0 x1).d)))/\True)))))))/\((suB (pt0 x1) (ptP x1 (pt0 x1)) x4=false)->(∃ x16:Nat,(((SWok (pt0 x1) (ptQ x1 (pt0 x1)) (ptU x1 (pt0 x1)) x16)/\((((x4:Int)=(↑(ptU x1 (pt0 x1)):Int))/\(((↑(pt0 x1).j:Int)=(x16:Int))/\(((x1.b:Int)-1=(x1.b:Int)-1)/\(((x1.b:Int)=(x1.b:Int))/\(((x1.a:Int)+1=(x1.a:Int)+1)/\(((x1.a:Int)=(x1.a:Int))/\(((0+Int.toNat (x1.p:Int)=0+Int.toNat (x1.p:Int))/\0=0)/\(((0+Int.toNat (x1.a:Int)=0+Int.toNat (x1.a:Int))/\0=0)/\(((((Array.toList x1.d).getD (0+Int.toNat (x1.a:Int)) default).rk=((Array.toList x1.d).getD (0+Int.toNat (x1.a:Int)) default).rk)/\((((Array.toList x1.d).getD (0+Int.toNat (x1.a:Int)) default).si=((Array.toList x1.d).getD (0+Int.toNat (x1.a:Int)) default).si)/\((((Array.toList x1.d).getD (0+Int.toNat (x1.a:Int)) default).ca=((Array.toList x1.d).getD (0+Int.toNat (x1.a:Int)) default).ca)/\True)))/\(((0+Int.toNat (x1.a:Int)=0+Int.toNat (x1.a:Int))/\0=0)/\(((x1.a:Int)=(x1.a:Int))/\((0=0/\(Array.size x1.d=Array.size x1.d))/\(((((Array.toList x1.d).getD (0+Int.toNat (x1.p:Int)) default).rk=((Array.toList x1.d).getD (0+Int.toNat (x1.p:Int)) default).rk)/\((((Array.toList x1.d).getD (0+Int.toNat (x1.p:Int)) default).si=((Array.toList x1.d).getD (0+Int.toNat (x1.p:Int)) default).si)/\((((Array.toList x1.d).getD (0+Int.toNat (x1.p:Int)) default).ca=((Array.toList x1.d).getD (0+Int.toNat (x1.p:Int)) default).ca)/\True)))/\(((0+Int.toNat (x1.p:Int)=0+Int.toNat (x1.p:Int))/\0=0)/\(((x1.p:Int)=(x1.p:Int))/\((0=0/\(Array.size x1.d=Array.size x1.d))/\(((x1.p:Int)=(x1.p:Int))/\((0=0/\(Array.size x1.d=Array.size x1.d))/\(((x1.a:Int)=(x1.a:Int))/\((0=0/\(Array.size x1.d=Array.size x1.d))/\(false=false/\(((0:Int)=0)/\((0=0/\(Array.size x1.d=Array.size x1.d))/\(((x1.a:Int)=(x1.a:Int))/\(((x1.b:Int)=(x1.b:Int))/\(((x1.p:Int)=(x1.p:Int))/\(True/\True)))))))))))))))))))))))))))/\(((RLe (Array.size x1.d) (Array.size x1.d))/\(RowsEq [.int .i64,.int .i64,.int .i64] (Array.size x1.d) (aR (pt0 x1).d) (aR (pt0 x1).d)))/\True)))/\(∀ x17:Nat,((SWok (pt0 x1) (ptQ x1 (pt0 x1)) (ptU x1 (pt0 x1)) x17)->((((decide ((↑(ptU x1 (pt0 x1)):Int)<=(x17:Int))=true)->((((0:Int)<=(x17:Int))/\((x17:Int)<(↑(Array.size x1.d):Int)))/\((0+Int.toNat (x17:Int)<Array.size x1.d)/\((((0:Int)<=(x1.a:Int))/\((x1.a:Int)<(↑(Array.size x1.d):Int)))/\((0+Int.toNat (x1.a:Int)<Array.size x1.d)/\(∃ x20:P2x,(True/\((((((Array.toList (pt0 x1).d).getD (0+Int.toNat (x17:Int)) default).rk=x20.a.rk)/\((((Array.toList (pt0 x1).d).getD (0+Int.toNat (x17:Int)) default).si=x20.a.si)/\((((Array.toList (pt0 x1).d).getD (0+Int.toNat (x17:Int)) default).ca=x20.a.ca)/\True)))/\(((((Array.toList (pt0 x1).d).getD (0+Int.toNat (x1.a:Int)) default).rk=x20.b.rk)/\((((Array.toList (pt0 x1).d).getD (0+Int.toNat (x1.a:Int)) default).si=x20.b.si)/\((((Array.toList (pt0 x1).d).getD (0+Int.toNat (x1.a:Int)) default).ca=x20.b.ca)/\True)))/\True))/\(True/\(∃ x21:Unit,(True/\(((!decide (cmpP x20.a x20.b<(0:Int)))=swB (pt0 x1) (ptQ x1 (pt0 x1)) (ptU x1 (pt0 x1)) x17)/\True))))))))))))/\((decide ((↑(ptU x1 (pt0 x1)):Int)<=(x17:Int))=false)->(∃ x23:Unit,(True/\((false=swB (pt0 x1) (ptQ x1 (pt0 x1)) (ptU x1 (pt0 x1)) x17)/\True)))))/\(∀ x24:Unit,(True->(((swB (pt0 x1) (ptQ x1 (pt0 x1)) (ptU x1 (pt0 x1)) x17=true)->((((-9223372036854775808:Int)<=(x17:Int)-1)/\((x17:Int)-1<=(9223372036854775807:Int)))/\(∃ x27:Nat,((x27<x17)/\((SWok (pt0 x1) (ptQ x1 (pt0 x1)) (ptU x1 (pt0 x1)) x27)/\((((↑(ptU x1 (pt0 x1)):Int)=(↑(ptU x1 (pt0 x1)):Int))/\(((x17:Int)-1=(x27:Int))/\(((x1.b:Int)-1=(x1.b:Int)-1)/\(((x1.b:Int)=(x1.b:Int))/\(((x1.a:Int)+1=(x1.a:Int)+1)/\(((x1.a:Int)=(x1.a:Int))/\(((0+Int.toNat (x1.p:Int)=0+Int.toNat (x1.p:Int))/\0=0)/\(((0+Int.toNat (x1.a:Int)=0+Int.toNat (x1.a:Int))/\0=0)/\(((((Array.toList x1.d).getD (0+Int.toNat (x1.a:Int)) default).rk=((Array.toList x1.d).getD (0+Int.toNat (x1.a:Int)) default).rk)/\((((Array.toList x1.d).getD (0+Int.toNat (x1.a:Int)) default).si=((Array.toList x1.d).getD (0+Int.toNat (x1.a:Int)) default).si)/\((((Array.toList x1.d).getD (0+Int.toNat (x1.a:Int)) default).ca=((Array.toList x1.d).getD (0+Int.toNat (x1.a:Int)) default).ca)/\True)))/\(((0+Int.toNat (x1.a:Int)=0+Int.toNat (x1.a:Int))/\0=0)/\(((x1.a:Int)=(x1.a:Int))/\((0=0/\(Array.size x1.d=Array.size x1.d))/\(((((Array.toList x1.d).getD (0+Int.toNat (x1.p:Int)) default).rk=((Array.toList x1.d).getD (0+Int.toNat (x1.p:Int)) default).rk)/\((((Array.toList x1.d).getD (0+Int.toNat (x1.p:Int)) default).si=((Array.toList x1.d).getD (0+Int.toNat (x1.p:Int)) default).si)/\((((Array.toList x1.d).getD (0+Int.toNat (x1.p:Int)) default).ca=((Array.toList x1.d).getD (0+Int.toNat (x1.p:Int)) default).ca)/\True)))/\(((0+Int.toNat (x1.p:Int)=0+Int.toNat (x1.p:Int))/\0=0)/\(((x1.p:Int)=(x1.p:Int))/\((0=0/\(Array.size x1.d=Array.size x1.d))/\(((x1.p:Int)=(x1.p:Int))/\((0=0/\(Array.size x1.d=Array.size x1.d))/\(((x1.a:Int)=(x1.a:Int))/\((0=0/\(Array.size x1.d=Array.size x1.d))/\(false=false/\(((0:Int)=0)/\((0=0/\(Array.size x1.d=Array.size x1.d))/\(((x1.a:Int)=(x1.a:Int))/\(((x1.b:Int)=(x1.b:Int))/\(((x1.p:Int)=(x1.p:Int))/\(True/\True)))))))))))))))))))))))))))/\(((RLe (Array.size x1.d) (Array.size x1.d))/\(RowsEq [.int .i64,.int .i64,.int .i64] (Array.size x1.d) (aR (pt0 x1).d) (aR (pt0 x1).d)))/\True)))))))/\((swB (pt0 x1) (ptQ x1 (pt0 x1)) (ptU x1 (pt0 x1)) x17=false)->(((decide ((x17:Int)<(↑(ptU x1 (pt0 x1)):Int))=true)->((((0:Int)<=(x1.a:Int))/\((x1.a:Int)<(↑(Array.size x1.d):Int)))/\((0+Int.toNat (x1.a:Int)<Array.size x1.d)/\((((0:Int)<=(x17:Int))/\((x17:Int)<(↑(Array.size x1.d):Int)))/\((0+Int.toNat (x17:Int)<Array.size x1.d)/\((((0:Int)<=(x17:Int))/\((x17:Int)<(↑(Array.size x1.d):Int)))/\(((0+Int.toNat (x17:Int)<Array.size x1.d)/\(True/\(True/\(True/\True))))/\((((0:Int)<=(x1.a:Int))/\((x1.a:Int)<(↑(Array.size x1.d):Int)))/\(((0+Int.toNat (x1.a:Int)<Array.size x1.d)/\(True/\(True/\(True/\True))))/\((((x17:Int)=(↑(Prod.fst (ptF x1)):Int))/\((true=Prod.fst (Prod.snd (ptF x1)))/\True))/\(((RLe (Array.size x1.d) (Array.size x1.d))/\(RowsEq [.int .i64,.int .i64,.int .i64] (Array.size x1.d) (setRow (setRow (aR (pt0 x1).d) (0+Int.toNat (x17:Int)) 0 (D.i ((Array.toList (pt0 x1).d).getD (0+Int.toNat (x1.a:Int)) default).rk::D.i ((Array.toList (pt0 x1).d).getD (0+Int.toNat (x1.a:Int)) default).si::D.i ((Array.toList (pt0 x1).d).getD (0+Int.toNat (x1.a:Int)) default).ca::@List.nil D)) (0+Int.toNat (x1.a:Int)) 0 (D.i ((Array.toList (pt0 x1).d).getD (0+Int.toNat (x17:Int)) default).rk::D.i ((Array.toList (pt0 x1).d).getD (0+Int.toNat (x17:Int)) default).si::D.i ((Array.toList (pt0 x1).d).getD (0+Int.toNat (x17:Int)) default).ca::@List.nil D)) (aR (Prod.snd (Prod.snd (ptF x1))))))/\True)))))))))))/\((decide ((x17:Int)<(↑(ptU x1 (pt0 x1)):Int))=false)->((((0:Int)<=(x17:Int))/\((x17:Int)<(↑(Array.size x1.d):Int)))/\((0+Int.toNat (x17:Int)<Array.size x1.d)/\((((0:Int)<=(↑(ptU x1 (pt0 x1)):Int))/\((↑(ptU x1 (pt0 x1)):Int)<(↑(Array.size x1.d):Int)))/\((0+Int.toNat (↑(ptU x1 (pt0 x1)):Int)<Array.size x1.d)/\((((0:Int)<=(↑(ptU x1 (pt0 x1)):Int))/\((↑(ptU x1 (pt0 x1)):Int)<(↑(Array.size x1.d):Int)))/\(((0+Int.toNat (↑(ptU x1 (pt0 x1)):Int)<Array.size x1.d)/\(True/\(True/\(True/\True))))/\((((0:Int)<=(x17:Int))/\((x17:Int)<(↑(Array.size x1.d):Int)))/\(((0+Int.toNat (x17:Int)<Array.size x1.d)/\(True/\(True/\(True/\True))))/\((((-9223372036854775808:Int)<=(↑(ptU x1 (pt0 x1)):Int)+1)/\((↑(ptU x1 (pt0 x1)):Int)+1<=(9223372036854775807:Int)))/\((((-9223372036854775808:Int)<=(x17:Int)-1)/\((x17:Int)-1<=(9223372036854775807:Int)))/\(∃ x31:PTs,(((PTok x1 x31)/\((((↑(ptU x1 (pt0 x1)):Int)+1=(x31.i:Int))/\(((x17:Int)-1=(x31.j:Int))/\(((x1.b:Int)-1=(x1.b:Int)-1)/\(((x1.b:Int)=(x1.b:Int))/\(((x1.a:Int)+1=(x1.a:Int)+1)/\(((x1.a:Int)=(x1.a:Int))/\(((0+Int.toNat (x1.p:Int)=0+Int.toNat (x1.p:Int))/\0=0)/\(((0+Int.toNat (x1.a:Int)=0+Int.toNat (x1.a:Int))/\0=0)/\(((((Array.toList x1.d).getD (0+Int.toNat (x1.a:Int)) default).rk=((Array.toList x1.d).getD (0+Int.toNat (x1.a:Int)) default).rk)/\((((Array.toList x1.d).getD (0+Int.toNat (x1.a:Int)) default).si=((Array.toList x1.d).getD (0+Int.toNat (x1.a:Int)) default).si)/\((((Array.toList x1.d).getD (0+Int.toNat (x1.a:Int)) default).ca=((Array.toList x1.d).getD (0+Int.toNat (x1.a:Int)) default).ca)/\True)))/\(((0+Int.toNat (x1.a:Int)=0+Int.toNat (x1.a:Int))/\0=0)/\(((x1.a:Int)=(x1.a:Int))/\((0=0/\(Array.size x1.d=Array.size x1.d))/\(((((Array.toList x1.d).getD (0+Int.toNat (x1.p:Int)) default).rk=((Array.toList x1.d).getD (0+Int.toNat (x1.p:Int)) default).rk)/\((((Array.toList x1.d).getD (0+Int.toNat (x1.p:Int)) default).si=((Array.toList x1.d).getD (0+Int.toNat (x1.p:Int)) default).si)/\((((Array.toList x1.d).getD (0+Int.toNat (x1.p:Int)) default).ca=((Array.toList x1.d).getD (0+Int.toNat (x1.p:Int)) default).ca)/\True)))/\(((0+Int.toNat (x1.p:Int)=0+Int.toNat (x1.p:Int))/\0=0)/\(((x1.p:Int)=(x1.p:Int))/\((0=0/\(Array.size x1.d=Array.size x1.d))/\(((x1.p:Int)=(x1.p:Int))/\((0=0/\(Array.size x1.d=Array.size x1.d))/\(((x1.a:Int)=(x1.a:Int))/\((0=0/\(Array.size x1.d=Array.size x1.d))/\(false=false/\(((0:Int)=0)/\((0=0/\(Array.size x1.d=Array.size x1.d))/\(((x1.a:Int)=(x1.a:Int))/\(((x1.b:Int)=(x1.b:Int))/\(((x1.p:Int)=(x1.p:Int))/\(True/\True)))))))))))))))))))))))))))/\(((RLe (Array.size x1.d) (Array.size x1.d))/\(RowsEq [.int .i64,.int .i64,.int .i64] (Array.size x1.d) (setRow (setRow (aR (pt0 x1).d) (0+Int.toNat (↑(ptU x1 (pt0 x1)):Int)) 0 (D.i ((Array.toList (pt0 x1).d).getD (0+Int.toNat (x17:Int)) default).rk::D.i ((Array.toList (pt0 x1).d).getD (0+Int.toNat (x17:Int)) default).si::D.i ((Array.toList (pt0 x1).d).getD (0+Int.toNat (x17:Int)) default).ca::@List.nil D)) (0+Int.toNat (x17:Int)) 0 (D.i ((Array.toList (pt0 x1).d).getD (0+Int.toNat (↑(ptU x1 (pt0 x1)):Int)) default).rk::D.i ((Array.toList (pt0 x1).d).getD (0+Int.toNat (↑(ptU x1 (pt0 x1)):Int)) default).si::D.i ((Array.toList (pt0 x1).d).getD (0+Int.toNat (↑(ptU x1 (pt0 x1)):Int)) default).ca::@List.nil D)) (aR x31.d)))/\True)))/\(∀ x32:PTs,((PTok x1 x32)->(∃ x34:Nat,(((SUok x32 (ptP x1 x32) x34)/\((((x32.i:Int)=(x34:Int))/\(((x32.j:Int)=(x32.j:Int))/\(((x1.b:Int)-1=(x1.b:Int)-1)/\(((x1.b:Int)=(x1.b:Int))/\(((x1.a:Int)+1=(x1.a:Int)+1)/\(((x1.a:Int)=(x1.a:Int))/\(((0+Int.toNat (x1.p:Int)=0+Int.toNat (x1.p:Int))/\0=0)/\(((0+Int.toNat (x1.a:Int)=0+Int.toNat (x1.a:Int))/\0=0)/\(((((Array.toList x1.d).getD (0+Int.toNat (x1.a:Int)) default).rk=((Array.toList x1.d).getD (0+Int.toNat (x1.a:Int)) default).rk)/\((((Array.toList x1.d).getD (0+Int.toNat (x1.a:Int)) default).si=((Array.toList x1.d).getD (0+Int.toNat (x1.a:Int)) default).si)/\((((Array.toList x1.d).getD (0+Int.toNat (x1.a:Int)) default).ca=((Array.toList x1.d).getD (0+Int.toNat (x1.a:Int)) default).ca)/\True)))/\(((0+Int.toNat (x1.a:Int)=0+Int.toNat (x1.a:Int))/\0=0)/\(((x1.a:Int)=(x1.a:Int))/\((0=0/\(Array.size x1.d=Array.size x1.d))/\(((((Array.toList x1.d).getD (0+Int.toNat (x1.p:Int)) default).rk=((Array.toList x1.d).getD (0+Int.toNat (x1.p:Int)) default).rk)/\((((Array.toList x1.d).getD (0+Int.toNat (x1.p:Int)) default).si=((Array.toList x1.d).getD (0+Int.toNat (x1.p:Int)) default).si)/\((((Array.toList x1.d).getD (0+Int.toNat (x1.p:Int)) default).ca=((Array.toList x1.d).getD (0+Int.toNat (x1.p:Int)) default).ca)/\True)))/\(((0+Int.toNat (x1.p:Int)=0+Int.toNat (x1.p:Int))/\0=0)/\(((x1.p:Int)=(x1.p:Int))/\((0=0/\(Array.size x1.d=Array.size x1.d))/\(((x1.p:Int)=(x1.p:Int))/\((0=0/\(Array.size x1.d=Array.size x1.d))/\(((x1.a:Int)=(x1.a:Int))/\((0=0/\(Array.size x1.d=Array.size x1.d))/\(false=false/\(((0:Int)=0)/\((0=0/\(Array.size x1.d=Array.size x1.d))/\(((x1.a:Int)=(x1.a:Int))/\(((x1.b:Int)=(x1.b:Int))/\(((x1.p:Int)=(x1.p:Int))/\(True/\True)))))))))))))))))))))))))))/\(((RLe (Array.size x1.d) (Array.size x1.d))/\(RowsEq [.int .i64,.int .i64,.int .i64] (Array.size x1.d) (aR x32.d) (aR x32.d)))/\True)))/\(∀ x35:Nat,((SUok x32 (ptP x1 x32) x35)->((((decide ((x35:Int)<=(x32.j:Int))=true)->((((0:Int)<=(x35:Int))/\((x35:Int)<(↑(Array.size x1.d):Int)))/\((0+Int.toNat (x35:Int)<Array.size x1.d)/\((((0:Int)<=(x1.a:Int))/\((x1.a:Int)<(↑(Array.size x1.d):Int)))/\((0+Int.toNat (x1.a:Int)<Array.size x1.d)/\(∃ x38:P2x,(True/\((((((Array.toList x32.d).getD (0+Int.toNat (x35:Int)) default).rk=x38.a.rk)/\((((Array.toList x32.d).getD (0+Int.toNat (x35:Int)) default).si=x38.a.si)/\((((Array.toList x32.d).getD (0+Int.toNat (x35:Int)) default).ca=x38.a.ca)/\True)))/\(((((Array.toList x32.d).getD (0+Int.toNat (x1.a:Int)) default).rk=x38.b.rk)/\((((Array.toList x32.d).getD (0+Int.toNat (x1.a:Int)) default).si=x38.b.si)/\((((Array.toList x32.d).getD (0+Int.toNat (x1.a:Int)) default).ca=x38.b.ca)/\True)))/\True))/\(True/\(∃ x39:Unit,(True/\((decide (cmpP x38.a x38.b<(0:Int))=suB x32 (ptP x1 x32) x35)/\True))))))))))))/\((decide ((x35:Int)<=(x32.j:Int))=false)->(∃ x41:Unit,(True/\((false=suB x32 (ptP x1 x32) x35)/\True)))))/\(∀ x42:Unit,(True->(((suB x32 (ptP x1 x32) x35=true)->((((-9223372036854775808:Int)<=(x35:Int)+1)/\((x35:Int)+1<=(9223372036854775807:Int)))/\(∃ x45:Nat,((x32.j+(1:Nat)-x45<x32.j+(1:Nat)-x35)/\((SUok x32 (ptP x1 x32) x45)/\((((x35:Int)+1=(x45:Int))/\(((x32.j:Int)=(x32.j:Int))/\(((x1.b:Int)-1=(x1.b:Int)-1)/\(((x1.b:Int)=(x1.b:Int))/\(((x1.a:Int)+1=(x1.a:Int)+1)/\(((x1.a:Int)=(x1.a:Int))/\(((0+Int.toNat (x1.p:Int)=0+Int.toNat (x1.p:Int))/\0=0)/\(((0+Int.toNat (x1.a:Int)=0+Int.toNat (x1.a:Int))/\0=0)/\(((((Array.toList x1.d).getD (0+Int.toNat (x1.a:Int)) default).rk=((Array.toList x1.d).getD (0+Int.toNat (x1.a:Int)) default).rk)/\((((Array.toList x1.d).getD (0+Int.toNat (x1.a:Int)) default).si=((Array.toList x1.d).getD (0+Int.toNat (x1.a:Int)) default).si)/\((((Array.toList x1.d).getD (0+Int.toNat (x1.a:Int)) default).ca=((Array.toList x1.d).getD (0+Int.toNat (x1.a:Int)) default).ca)/\True)))/\(((0+Int.toNat (x1.a:Int)=0+Int.toNat (x1.a:Int))/\0=0)/\(((x1.a:Int)=(x1.a:Int))/\((0=0/\(Array.size x1.d=Array.size x1.d))/\(((((Array.toList x1.d).getD (0+Int.toNat (x1.p:Int)) default).rk=((Array.toList x1.d).getD (0+Int.toNat (x1.p:Int)) default).rk)/\((((Array.toList x1.d).getD (0+Int.toNat (x1.p:Int)) default).si=((Array.toList x1.d).getD (0+Int.toNat (x1.p:Int)) default).si)/\((((Array.toList x1.d).getD (0+Int.toNat (x1.p:Int)) default).ca=((Array.toList x1.d).getD (0+Int.toNat (x1.p:Int)) default).ca)/\True)))/\(((0+Int.toNat (x1.p:Int)=0+Int.toNat (x1.p:Int))/\0=0)/\(((x1.p:Int)=(x1.p:Int))/\((0=0/\(Array.size x1.d=Array.size x1.d))/\(((x1.p:Int)=(x1.p:Int))/\((0=0/\(Array.size x1.d=Array.size x1.d))/\(((x1.a:Int)=(x1.a:Int))/\((0=0/\(Array.size x1.d=Array.size x1.d))/\(false=false/\(((0:Int)=0)/\((0=0/\(Array.size x1.d=Array.size x1.d))/\(((x1.a:Int)=(x1.a:Int))/\(((x1.b:Int)=(x1.b:Int))/\(((x1.p:Int)=(x1.p:Int))/\(True/\True)))))))))))))))))))))))))))/\(((RLe (Array.size x1.d) (Array.size x1.d))/\(RowsEq [.int .i64,.int .i64,.int .i64] (Array.size x1.d) (aR x32.d) (aR x32.d)))/\True)))))))/\((suB x32 (ptP x1 x32) x35=false)->(∃ x47:Nat,(((SWok x32 (ptQ x1 x32) (ptU x1 x32) x47)/\((((x35:Int)=(↑(ptU x1 x32):Int))/\(((x32.j:Int)=(x47:Int))/\(((x1.b:Int)-1=(x1.b:Int)-1)/\(((x1.b:Int)=(x1.b:Int))/\(((x1.a:Int)+1=(x1.a:Int)+1)/\(((x1.a:Int)=(x1.a:Int))/\(((0+Int.toNat (x1.p:Int)=0+Int.toNat (x1.p:Int))/\0=0)/\(((0+Int.toNat (x1.a:Int)=0+Int.toNat (x1.a:Int))/\0=0)/\(((((Array.toList x1.d).getD (0+Int.toNat (x1.a:Int)) default).rk=((Array.toList x1.d).getD (0+Int.toNat (x1.a:Int)) default).rk)/\((((Array.toList x1.d).getD (0+Int.toNat (x1.a:Int)) default).si=((Array.toList x1.d).getD (0+Int.toNat (x1.a:Int)) default).si)/\((((Array.toList x1.d).getD (0+Int.toNat (x1.a:Int)) default).ca=((Array.toList x1.d).getD (0+Int.toNat (x1.a:Int)) default).ca)/\True)))/\(((0+Int.toNat (x1.a:Int)=0+Int.toNat (x1.a:Int))/\0=0)/\(((x1.a:Int)=(x1.a:Int))/\((0=0/\(Array.size x1.d=Array.size x1.d))/\(((((Array.toList x1.d).getD (0+Int.toNat (x1.p:Int)) default).rk=((Array.toList x1.d).getD (0+Int.toNat (x1.p:Int)) default).rk)/\((((Array.toList x1.d).getD (0+Int.toNat (x1.p:Int)) default).si=((Array.toList x1.d).getD (0+Int.toNat (x1.p:Int)) default).si)/\((((Array.toList x1.d).getD (0+Int.toNat (x1.p:Int)) default).ca=((Array.toList x1.d).getD (0+Int.toNat (x1.p:Int)) default).ca)/\True)))/\(((0+Int.toNat (x1.p:Int)=0+Int.toNat (x1.p:Int))/\0=0)/\(((x1.p:Int)=(x1.p:Int))/\((0=0/\(Array.size x1.d=Array.size x1.d))/\(((x1.p:Int)=(x1.p:Int))/\((0=0/\(Array.size x1.d=Array.size x1.d))/\(((x1.a:Int)=(x1.a:Int))/\((0=0/\(Array.size x1.d=Array.size x1.d))/\(false=false/\(((0:Int)=0)/\((0=0/\(Array.size x1.d=Array.size x1.d))/\(((x1.a:Int)=(x1.a:Int))/\(((x1.b:Int)=(x1.b:Int))/\(((x1.p:Int)=(x1.p:Int))/\(True/\True)))))))))))))))))))))))))))/\(((RLe (Array.size x1.d) (Array.size x1.d))/\(RowsEq [.int .i64,.int .i64,.int .i64] (Array.size x1.d) (aR x32.d) (aR x32.d)))/\True)))/\(∀ x48:Nat,((SWok x32 (ptQ x1 x32) (ptU x1 x32) x48)->((((decide ((↑(ptU x1 x32):Int)<=(x48:Int))=true)->((((0:Int)<=(x48:Int))/\((x48:Int)<(↑(Array.size x1.d):Int)))/\((0+Int.toNat (x48:Int)<Array.size x1.d)/\((((0:Int)<=(x1.a:Int))/\((x1.a:Int)<(↑(Array.size x1.d):Int)))/\((0+Int.toNat (x1.a:Int)<Array.size x1.d)/\(∃ x51:P2x,(True/\((((((Array.toList x32.d).getD (0+Int.toNat (x48:Int)) default).rk=x51.a.rk)/\((((Array.toList x32.d).getD (0+Int.toNat (x48:Int)) default).si=x51.a.si)/\((((Array.toList x32.d).getD (0+Int.toNat (x48:Int)) default).ca=x51.a.ca)/\True)))/\(((((Array.toList x32.d).getD (0+Int.toNat (x1.a:Int)) default).rk=x51.b.rk)/\((((Array.toList x32.d).getD (0+Int.toNat (x1.a:Int)) default).si=x51.b.si)/\((((Array.toList x32.d).getD (0+Int.toNat (x1.a:Int)) default).ca=x51.b.ca)/\True)))/\True))/\(True/\(∃ x52:Unit,(True/\(((!decide (cmpP x51.a x51.b<(0:Int)))=swB x32 (ptQ x1 x32) (ptU x1 x32) x48)/\True))))))))))))/\((decide ((↑(ptU x1 x32):Int)<=(x48:Int))=false)->(∃ x54:Unit,(True/\((false=swB x32 (ptQ x1 x32) (ptU x1 x32) x48)/\True)))))/\(∀ x55:Unit,(True->(((swB x32 (ptQ x1 x32) (ptU x1 x32) x48=true)->((((-9223372036854775808:Int)<=(x48:Int)-1)/\((x48:Int)-1<=(9223372036854775807:Int)))/\(∃ x58:Nat,((x58<x48)/\((SWok x32 (ptQ x1 x32) (ptU x1 x32) x58)/\((((↑(ptU x1 x32):Int)=(↑(ptU x1 x32):Int))/\(((x48:Int)-1=(x58:Int))/\(((x1.b:Int)-1=(x1.b:Int)-1)/\(((x1.b:Int)=(x1.b:Int))/\(((x1.a:Int)+1=(x1.a:Int)+1)/\(((x1.a:Int)=(x1.a:Int))/\(((0+Int.toNat (x1.p:Int)=0+Int.toNat (x1.p:Int))/\0=0)/\(((0+Int.toNat (x1.a:Int)=0+Int.toNat (x1.a:Int))/\0=0)/\(((((Array.toList x1.d).getD (0+Int.toNat (x1.a:Int)) default).rk=((Array.toList x1.d).getD (0+Int.toNat (x1.a:Int)) default).rk)/\((((Array.toList x1.d).getD (0+Int.toNat (x1.a:Int)) default).si=((Array.toList x1.d).getD (0+Int.toNat (x1.a:Int)) default).si)/\((((Array.toList x1.d).getD (0+Int.toNat (x1.a:Int)) default).ca=((Array.toList x1.d).getD (0+Int.toNat (x1.a:Int)) default).ca)/\True)))/\(((0+Int.toNat (x1.a:Int)=0+Int.toNat (x1.a:Int))/\0=0)/\(((x1.a:Int)=(x1.a:Int))/\((0=0/\(Array.size x1.d=Array.size x1.d))/\(((((Array.toList x1.d).getD (0+Int.toNat (x1.p:Int)) default).rk=((Array.toList x1.d).getD (0+Int.toNat (x1.p:Int)) default).rk)/\((((Array.toList x1.d).getD (0+Int.toNat (x1.p:Int)) default).si=((Array.toList x1.d).getD (0+Int.toNat (x1.p:Int)) default).si)/\((((Array.toList x1.d).getD (0+Int.toNat (x1.p:Int)) default).ca=((Array.toList x1.d).getD (0+Int.toNat (x1.p:Int)) default).ca)/\True)))/\(((0+Int.toNat (x1.p:Int)=0+Int.toNat (x1.p:Int))/\0=0)/\(((x1.p:Int)=(x1.p:Int))/\((0=0/\(Array.size x1.d=Array.size x1.d))/\(((x1.p:Int)=(x1.p:Int))/\((0=0/\(Array.size x1.d=Array.size x1.d))/\(((x1.a:Int)=(x1.a:Int))/\((0=0/\(Array.size x1.d=Array.size x1.d))/\(false=false/\(((0:Int)=0)/\((0=0/\(Array.size x1.d=Array.size x1.d))/\(((x1.a:Int)=(x1.a:Int))/\(((x1.b:Int)=(x1.b:Int))/\(((x1.p:Int)=(x1.p:Int))/\(True/\True)))))))))))))))))))))))))))/\(((RLe (Array.size x1.d) (Array.size x1.d))/\(RowsEq [.int .i64,.int .i64,.int .i64] (Array.size x1.d) (aR x32.d) (aR x32.d)))/\True)))))))/\((swB x32 (ptQ x1 x32) (ptU x1 x32) x48=false)->(((decide ((x48:Int)<(↑(ptU x1 x32):Int))=true)->((((0:Int)<=(x1.a:Int))/\((x1.a:Int)<(↑(Array.size x1.d):Int)))/\((0+Int.toNat (x1.a:Int)<Array.size x1.d)/\((((0:Int)<=(x48:Int))/\((x48:Int)<(↑(Array.size x1.d):Int)))/\((0+Int.toNat (x48:Int)<Array.size x1.d)/\((((0:Int)<=(x48:Int))/\((x48:Int)<(↑(Array.size x1.d):Int)))/\(((0+Int.toNat (x48:Int)<Array.size x1.d)/\(True/\(True/\(True/\True))))/\((((0:Int)<=(x1.a:Int))/\((x1.a:Int)<(↑(Array.size x1.d):Int)))/\(((0+Int.toNat (x1.a:Int)<Array.size x1.d)/\(True/\(True/\(True/\True))))/\((((x48:Int)=(↑(Prod.fst (ptF x1)):Int))/\((false=Prod.fst (Prod.snd (ptF x1)))/\True))/\(((RLe (Array.size x1.d) (Array.size x1.d))/\(RowsEq [.int .i64,.int .i64,.int .i64] (Array.size x1.d) (setRow (setRow (aR x32.d) (0+Int.toNat (x48:Int)) 0 (D.i ((Array.toList x32.d).getD (0+Int.toNat (x1.a:Int)) default).rk::D.i ((Array.toList x32.d).getD (0+Int.toNat (x1.a:Int)) default).si::D.i ((Array.toList x32.d).getD (0+Int.toNat (x1.a:Int)) default).ca::@List.nil D)) (0+Int.toNat (x1.a:Int)) 0 (D.i ((Array.toList x32.d).getD (0+Int.toNat (x48:Int)) default).rk::D.i ((Array.toList x32.d).getD (0+Int.toNat (x48:Int)) default).si::D.i ((Array.toList x32.d).getD (0+Int.toNat (x48:Int)) default).ca::@List.nil D)) (aR (Prod.snd (Prod.snd (ptF x1))))))/\True)))))))))))/\((decide ((x48:Int)<(↑(ptU x1 x32):Int))=false)->((((0:Int)<=(x48:Int))/\((x48:Int)<(↑(Array.size x1.d):Int)))/\((0+Int.toNat (x48:Int)<Array.size x1.d)/\((((0:Int)<=(↑(ptU x1 x32):Int))/\((↑(ptU x1 x32):Int)<(↑(Array.size x1.d):Int)))/\((0+Int.toNat (↑(ptU x1 x32):Int)<Array.size x1.d)/\((((0:Int)<=(↑(ptU x1 x32):Int))/\((↑(ptU x1 x32):Int)<(↑(Array.size x1.d):Int)))/\(((0+Int.toNat (↑(ptU x1 x32):Int)<Array.size x1.d)/\(True/\(True/\(True/\True))))/\((((0:Int)<=(x48:Int))/\((x48:Int)<(↑(Array.size x1.d):Int)))/\(((0+Int.toNat (x48:Int)<Array.size x1.d)/\(True/\(True/\(True/\True))))/\((((-9223372036854775808:Int)<=(↑(ptU x1 x32):Int)+1)/\((↑(ptU x1 x32):Int)+1<=(9223372036854775807:Int)))/\((((-9223372036854775808:Int)<=(x48:Int)-1)/\((x48:Int)-1<=(9223372036854775807:Int)))/\(∃ x62:PTs,((x62.j+(1:Nat)-x62.i<x32.j+(1:Nat)-x32.i)/\((PTok x1 x62)/\((((↑(ptU x1 x32):Int)+1=(x62.i:Int))/\(((x48:Int)-1=(x62.j:Int))/\(((x1.b:Int)-1=(x1.b:Int)-1)/\(((x1.b:Int)=(x1.b:Int))/\(((x1.a:Int)+1=(x1.a:Int)+1)/\(((x1.a:Int)=(x1.a:Int))/\(((0+Int.toNat (x1.p:Int)=0+Int.toNat (x1.p:Int))/\0=0)/\(((0+Int.toNat (x1.a:Int)=0+Int.toNat (x1.a:Int))/\0=0)/\(((((Array.toList x1.d).getD (0+Int.toNat (x1.a:Int)) default).rk=((Array.toList x1.d).getD (0+Int.toNat (x1.a:Int)) default).rk)/\((((Array.toList x1.d).getD (0+Int.toNat (x1.a:Int)) default).si=((Array.toList x1.d).getD (0+Int.toNat (x1.a:Int)) default).si)/\((((Array.toList x1.d).getD (0+Int.toNat (x1.a:Int)) default).ca=((Array.toList x1.d).getD (0+Int.toNat (x1.a:Int)) default).ca)/\True)))/\(((0+Int.toNat (x1.a:Int)=0+Int.toNat (x1.a:Int))/\0=0)/\(((x1.a:Int)=(x1.a:Int))/\((0=0/\(Array.size x1.d=Array.size x1.d))/\(((((Array.toList x1.d).getD (0+Int.toNat (x1.p:Int)) default).rk=((Array.toList x1.d).getD (0+Int.toNat (x1.p:Int)) default).rk)/\((((Array.toList x1.d).getD (0+Int.toNat (x1.p:Int)) default).si=((Array.toList x1.d).getD (0+Int.toNat (x1.p:Int)) default).si)/\((((Array.toList x1.d).getD (0+Int.toNat (x1.p:Int)) default).ca=((Array.toList x1.d).getD (0+Int.toNat (x1.p:Int)) default).ca)/\True)))/\(((0+Int.toNat (x1.p:Int)=0+Int.toNat (x1.p:Int))/\0=0)/\(((x1.p:Int)=(x1.p:Int))/\((0=0/\(Array.size x1.d=Array.size x1.d))/\(((x1.p:Int)=(x1.p:Int))/\((0=0/\(Array.size x1.d=Array.size x1.d))/\(((x1.a:Int)=(x1.a:Int))/\((0=0/\(Array.size x1.d=Array.size x1.d))/\(false=false/\(((0:Int)=0)/\((0=0/\(Array.size x1.d=Array.size x1.d))/\(((x1.a:Int)=(x1.a:Int))/\(((x1.b:Int)=(x1.b:Int))/\(((x1.p:Int)=(x1.p:Int))/\(True/\True)))))))))))))))))))))))))))/\(((RLe (Array.size x1.d) (Array.size x1.d))/\(RowsEq [.int .i64,.int .i64,.int .i64] (Array.size x1.d) (setRow (setRow (aR x32.d) (0+Int.toNat (↑(ptU x1 x32):Int)) 0 (D.i ((Array.toList x32.d).getD (0+Int.toNat (x48:Int)) default).rk::D.i ((Array.toList x32.d).getD (0+Int.toNat (x48:Int)) default).si::D.i ((Array.toList x32.d).getD (0+Int.toNat (x48:Int)) default).ca::@List.nil D)) (0+Int.toNat (x48:Int)) 0 (D.i ((Array.toList x32.d).getD (0+Int.toNat (↑(ptU x1 x32):Int)) default).rk::D.i ((Array.toList x32.d).getD (0+Int.toNat (↑(ptU x1 x32):Int)) default).si::D.i ((Array.toList x32.d).getD (0+Int.toNat (↑(ptU x1 x32):Int)) default).ca::@List.nil D)) (aR x62.d)))/\True))))))))))))))))))))))))))))))))))))))))))))))))))))))))))))))))))))))))))))))))))=(Keeps cfgO2 Try.f54 ptC ptI) by kernel_rfl) (fun x1=>fun h2=>⟨⟨(by omega),
(by(have:=h2.n;have:=h2.b;have:=h2.a;have:=h2.p;omega))⟩,
(by(have:=h2.n;have:=h2.b;have:=h2.a;have:=h2.p;omega)),
⟨(by omega),
(by(have:=h2.n;have:=h2.b;have:=h2.a;have:=h2.p;omega))⟩,
(by(have:=h2.n;have:=h2.b;have:=h2.a;have:=h2.p;omega)),
⟨(by omega),
(by(have:=h2.n;have:=h2.b;have:=h2.a;have:=h2.p;omega))⟩,
⟨(by(have:=h2.n;have:=h2.b;have:=h2.a;have:=h2.p;omega)),trivial,trivial,trivial,trivial⟩,
⟨(by omega),
(by(have:=h2.n;have:=h2.b;have:=h2.a;have:=h2.p;omega))⟩,
⟨(by(have:=h2.n;have:=h2.b;have:=h2.a;have:=h2.p;omega)),trivial,trivial,trivial,trivial⟩,
⟨(by omega),
(by(have:=h2.n;have:=h2.b;have:=h2.a;have:=h2.p;omega))⟩,
⟨(by omega),
(by(have:=h2.n;have:=h2.b;have:=h2.a;have:=h2.p;omega))⟩,
(SPx.a x1+(1:Nat)),
⟨(by(try dsimp only at *);exact su_start (pt0_b h2).ij),
⟨(by(try dsimp only at *);omega),
(by(try dsimp only at *);(show(x1.b:Int)-1=((x1.b-1:Nat):Int);have:=h2.p;omega)),rfl,rfl,rfl,rfl,
⟨rfl,rfl⟩,
⟨rfl,rfl⟩,
⟨rfl,rfl,rfl,trivial⟩,
⟨rfl,rfl⟩,rfl,
⟨rfl,rfl⟩,
⟨rfl,rfl,rfl,trivial⟩,
⟨rfl,rfl⟩,rfl,
⟨rfl,rfl⟩,rfl,
⟨rfl,rfl⟩,rfl,
⟨rfl,rfl⟩,rfl,rfl,
⟨rfl,rfl⟩,rfl,rfl,rfl,trivial,trivial⟩,
⟨rl,
(by(try dsimp only at *);(simp only[nat0];have:=h2.b;have:=h2.a;have:=h2.p;exact swp_rowsT rfl (by omega) (by omega)))⟩,trivial⟩,
fun x4=>fun h5=>⟨⟨fun g6=>have h6:=dT g6;⟨⟨(by(try dsimp only at *);omega),
(by(try dsimp only at *);(have:=(pt0_b h2).i;have:=(pt0_b h2).j;have:=(pt0_b h2).n;have:=h2.n;have:=h2.b;have:=h5.hi;omega))⟩,
(by(try dsimp only at *);(have:=(pt0_b h2).i;have:=(pt0_b h2).j;have:=(pt0_b h2).n;have:=h2.n;have:=h2.b;have:=h5.hi;omega)),
⟨(by(try dsimp only at *);omega),
(by(try dsimp only at *);(have:=h2.n;have:=h2.b;have:=h2.a;have:=h2.p;omega))⟩,
(by(try dsimp only at *);(have:=h2.n;have:=h2.b;have:=h2.a;have:=h2.p;omega)),
({ a:=List.getD (Array.toList (PTs.d (pt0 x1))) ((0:Nat)+Int.toNat (↑x4:Int)) default,b:=List.getD (Array.toList (PTs.d (pt0 x1))) ((0:Nat)+Int.toNat (↑(SPx.a x1):Int)) default:P2x }),trivial,
⟨⟨rfl,rfl,rfl,trivial⟩,
⟨rfl,rfl,rfl,trivial⟩,trivial⟩,trivial,
(default),trivial,
(by(try dsimp only at *);(simp only[nat0];exact suB_in h6 (ptP_at _ _ _))),trivial⟩,
fun g9=>have h9:=dF g9;⟨(default),trivial,
(by(try dsimp only at *);exact suB_out h9),trivial⟩⟩,
fun x11=>fun h12=>⟨fun h13=>⟨⟨(by(try dsimp only at *);omega),
(by(try dsimp only at *);(have:=(pt0_b h2).i;have:=(pt0_b h2).j;have:=(pt0_b h2).n;have:=h2.n;have:=h2.b;have:=h5.hi;omega))⟩,
(x4+(1:Nat)),
(by(try dsimp only at *);(have:=(pt0_b h2).i;have:=(pt0_b h2).j;have:=(pt0_b h2).n;have:=h2.n;have:=h2.b;have:=suB_le h13;omega)),
(by(try dsimp only at *);exact su_next h5 h13),
⟨(by(try dsimp only at *);omega),rfl,rfl,rfl,rfl,rfl,
⟨rfl,rfl⟩,
⟨rfl,rfl⟩,
⟨rfl,rfl,rfl,trivial⟩,
⟨rfl,rfl⟩,rfl,
⟨rfl,rfl⟩,
⟨rfl,rfl,rfl,trivial⟩,
⟨rfl,rfl⟩,rfl,
⟨rfl,rfl⟩,rfl,
⟨rfl,rfl⟩,rfl,
⟨rfl,rfl⟩,rfl,rfl,
⟨rfl,rfl⟩,rfl,rfl,rfl,trivial,trivial⟩,
⟨rl,rr⟩,trivial⟩,
fun h15=>⟨(PTs.j (pt0 x1)),
⟨(by(try dsimp only at *);(have e:x4=ptU x1 (pt0 x1):=su_fin h5 h15;rw[<- e];exact sw_start h5)),
⟨(by(try dsimp only at *);(have e:x4=ptU x1 (pt0 x1):=su_fin h5 h15;omega)),rfl,rfl,rfl,rfl,rfl,
⟨rfl,rfl⟩,
⟨rfl,rfl⟩,
⟨rfl,rfl,rfl,trivial⟩,
⟨rfl,rfl⟩,rfl,
⟨rfl,rfl⟩,
⟨rfl,rfl,rfl,trivial⟩,
⟨rfl,rfl⟩,rfl,
⟨rfl,rfl⟩,rfl,
⟨rfl,rfl⟩,rfl,
⟨rfl,rfl⟩,rfl,rfl,
⟨rfl,rfl⟩,rfl,rfl,rfl,trivial,trivial⟩,
⟨rl,rr⟩,trivial⟩,
fun x17=>fun h18=>⟨⟨fun g19=>have h19:=dT g19;⟨⟨(by(try dsimp only at *);omega),
(by(try dsimp only at *);(have:=(pt0_b h2).i;have:=(pt0_b h2).j;have:=(pt0_b h2).n;have:=h2.n;have:=h2.b;have:=h18.hi;have:=h18.uh;have:=h18.ul;have:=h18.lo;omega))⟩,
(by(try dsimp only at *);(have:=(pt0_b h2).i;have:=(pt0_b h2).j;have:=(pt0_b h2).n;have:=h2.n;have:=h2.b;have:=h18.hi;have:=h18.uh;have:=h18.ul;have:=h18.lo;omega)),
⟨(by(try dsimp only at *);omega),
(by(try dsimp only at *);(have:=h2.n;have:=h2.b;have:=h2.a;have:=h2.p;omega))⟩,
(by(try dsimp only at *);(have:=h2.n;have:=h2.b;have:=h2.a;have:=h2.p;omega)),
({ a:=List.getD (Array.toList (PTs.d (pt0 x1))) ((0:Nat)+Int.toNat (↑x17:Int)) default,b:=List.getD (Array.toList (PTs.d (pt0 x1))) ((0:Nat)+Int.toNat (↑(SPx.a x1):Int)) default:P2x }),trivial,
⟨⟨rfl,rfl,rfl,trivial⟩,
⟨rfl,rfl,rfl,trivial⟩,trivial⟩,trivial,
(default),trivial,
(by(try dsimp only at *);(simp only[nat0];exact swB_in h19 (ptQ_at _ _ _))),trivial⟩,
fun g22=>have h22:=dF g22;⟨(default),trivial,
(by(try dsimp only at *);exact swB_out h22),trivial⟩⟩,
fun x24=>fun h25=>⟨fun h26=>⟨⟨(by(try dsimp only at *);omega),
(by(try dsimp only at *);(have:=(pt0_b h2).i;have:=(pt0_b h2).j;have:=(pt0_b h2).n;have:=h2.n;have:=h2.b;have:=h18.hi;have:=h18.uh;have:=h18.ul;have:=h18.lo;omega))⟩,
(x17-(1:Nat)),
(by(try dsimp only at *);(have:=(pt0_b h2).i;have:=(pt0_b h2).j;have:=(pt0_b h2).n;have:=h2.n;have:=h2.b;have:=swB_le h26;have:=h18.ul;have:=h18.hi;omega)),
(by(try dsimp only at *);exact sw_next (by have:=(pt0_b h2).i;omega) h18 h26),
⟨rfl,
(by(try dsimp only at *);(have:=(pt0_b h2).i;have:=(pt0_b h2).j;have:=(pt0_b h2).n;have:=h2.n;have:=h2.b;have:=swB_le h26;have:=h18.ul;have:=h18.hi;omega)),rfl,rfl,rfl,rfl,
⟨rfl,rfl⟩,
⟨rfl,rfl⟩,
⟨rfl,rfl,rfl,trivial⟩,
⟨rfl,rfl⟩,rfl,
⟨rfl,rfl⟩,
⟨rfl,rfl,rfl,trivial⟩,
⟨rfl,rfl⟩,rfl,
⟨rfl,rfl⟩,rfl,
⟨rfl,rfl⟩,rfl,
⟨rfl,rfl⟩,rfl,rfl,
⟨rfl,rfl⟩,rfl,rfl,rfl,trivial,trivial⟩,
⟨rl,rr⟩,trivial⟩,
fun h28=>⟨fun g29=>have h29:=dT g29;⟨⟨(by(try dsimp only at *);omega),
(by(try dsimp only at *);(have:=h2.n;have:=h2.b;have:=h2.a;have:=h2.p;omega))⟩,
(by(try dsimp only at *);(have:=h2.n;have:=h2.b;have:=h2.a;have:=h2.p;omega)),
⟨(by(try dsimp only at *);omega),
(by(try dsimp only at *);(have:=(pt0_b h2).i;have:=(pt0_b h2).j;have:=(pt0_b h2).n;have:=h2.n;have:=h2.b;have:=h18.hi;have:=h18.uh;have:=h18.ul;have:=h18.lo;omega))⟩,
(by(try dsimp only at *);(have:=(pt0_b h2).i;have:=(pt0_b h2).j;have:=(pt0_b h2).n;have:=h2.n;have:=h2.b;have:=h18.hi;have:=h18.uh;have:=h18.ul;have:=h18.lo;omega)),
⟨(by(try dsimp only at *);omega),
(by(try dsimp only at *);(have:=(pt0_b h2).i;have:=(pt0_b h2).j;have:=(pt0_b h2).n;have:=h2.n;have:=h2.b;have:=h18.hi;have:=h18.uh;have:=h18.ul;have:=h18.lo;omega))⟩,
⟨(by(try dsimp only at *);(have:=(pt0_b h2).i;have:=(pt0_b h2).j;have:=(pt0_b h2).n;have:=h2.n;have:=h2.b;have:=h18.hi;have:=h18.uh;have:=h18.ul;have:=h18.lo;omega)),trivial,trivial,trivial,trivial⟩,
⟨(by(try dsimp only at *);omega),
(by(try dsimp only at *);(have:=h2.n;have:=h2.b;have:=h2.a;have:=h2.p;omega))⟩,
⟨(by(try dsimp only at *);(have:=h2.n;have:=h2.b;have:=h2.a;have:=h2.p;omega)),trivial,trivial,trivial,trivial⟩,
⟨(by(try dsimp only at *);(rw[pt_true h18 h28 h29];done)),
(by(try dsimp only at *);(rw[pt_true h18 h28 h29];done)),trivial⟩,
⟨rl,
(by(try dsimp only at *);(simp only[nat0];rw[pt_true h18 h28 h29];have:=(pt0_b h2).i;have:=(pt0_b h2).j;have:=(pt0_b h2).n;have:=h2.n;have:=h2.b;have:=h18.hi;have:=h2.a;have:=h2.p;exact swp_rowsT (pt0_b h2).n (by omega) (by omega)))⟩,trivial⟩,
fun g30=>have h30:=dF g30;⟨⟨(by(try dsimp only at *);omega),
(by(try dsimp only at *);(have:=(pt0_b h2).i;have:=(pt0_b h2).j;have:=(pt0_b h2).n;have:=h2.n;have:=h2.b;have:=h18.hi;have:=h18.uh;have:=h18.ul;have:=h18.lo;omega))⟩,
(by(try dsimp only at *);(have:=(pt0_b h2).i;have:=(pt0_b h2).j;have:=(pt0_b h2).n;have:=h2.n;have:=h2.b;have:=h18.hi;have:=h18.uh;have:=h18.ul;have:=h18.lo;omega)),
⟨(by(try dsimp only at *);omega),
(by(try dsimp only at *);(have:=(pt0_b h2).i;have:=(pt0_b h2).j;have:=(pt0_b h2).n;have:=h2.n;have:=h2.b;have:=h18.hi;have:=h18.uh;have:=h18.ul;have:=h18.lo;omega))⟩,
(by(try dsimp only at *);(have:=(pt0_b h2).i;have:=(pt0_b h2).j;have:=(pt0_b h2).n;have:=h2.n;have:=h2.b;have:=h18.hi;have:=h18.uh;have:=h18.ul;have:=h18.lo;omega)),
⟨(by(try dsimp only at *);omega),
(by(try dsimp only at *);(have:=(pt0_b h2).i;have:=(pt0_b h2).j;have:=(pt0_b h2).n;have:=h2.n;have:=h2.b;have:=h18.hi;have:=h18.uh;have:=h18.ul;have:=h18.lo;omega))⟩,
⟨(by(try dsimp only at *);(have:=(pt0_b h2).i;have:=(pt0_b h2).j;have:=(pt0_b h2).n;have:=h2.n;have:=h2.b;have:=h18.hi;have:=h18.uh;have:=h18.ul;have:=h18.lo;omega)),trivial,trivial,trivial,trivial⟩,
⟨(by(try dsimp only at *);omega),
(by(try dsimp only at *);(have:=(pt0_b h2).i;have:=(pt0_b h2).j;have:=(pt0_b h2).n;have:=h2.n;have:=h2.b;have:=h18.hi;have:=h18.uh;have:=h18.ul;have:=h18.lo;omega))⟩,
⟨(by(try dsimp only at *);(have:=(pt0_b h2).i;have:=(pt0_b h2).j;have:=(pt0_b h2).n;have:=h2.n;have:=h2.b;have:=h18.hi;have:=h18.uh;have:=h18.ul;have:=h18.lo;omega)),trivial,trivial,trivial,trivial⟩,
⟨(by(try dsimp only at *);omega),
(by(try dsimp only at *);(have:=(pt0_b h2).i;have:=(pt0_b h2).j;have:=(pt0_b h2).n;have:=h2.n;have:=h2.b;have:=h18.hi;have:=h18.uh;have:=h18.ul;have:=h18.lo;omega))⟩,
⟨(by(try dsimp only at *);omega),
(by(try dsimp only at *);(have:=(pt0_b h2).i;have:=(pt0_b h2).j;have:=(pt0_b h2).n;have:=h2.n;have:=h2.b;have:=h18.hi;have:=h18.uh;have:=h18.ul;have:=h18.lo;omega))⟩,
(ptN x1 (pt0 x1) x17),
⟨(by(try dsimp only at *);exact pt_first h2 h5 h15 h18 h28 h30),
⟨(by(try dsimp only at *);rfl),
(by(try dsimp only at *);(show(x17:Int)-1=((x17-1:Nat):Int);have:=(pt0_b h2).i;have:=(pt0_b h2).j;have:=(pt0_b h2).n;have:=h2.n;have:=h2.b;have:=h18.ul;omega)),rfl,rfl,rfl,rfl,
⟨rfl,rfl⟩,
⟨rfl,rfl⟩,
⟨rfl,rfl,rfl,trivial⟩,
⟨rfl,rfl⟩,rfl,
⟨rfl,rfl⟩,
⟨rfl,rfl,rfl,trivial⟩,
⟨rfl,rfl⟩,rfl,
⟨rfl,rfl⟩,rfl,
⟨rfl,rfl⟩,rfl,
⟨rfl,rfl⟩,rfl,rfl,
⟨rfl,rfl⟩,rfl,rfl,rfl,trivial,trivial⟩,
⟨rl,
(by(try dsimp only at *);(simp only[nat0];have:=(pt0_b h2).i;have:=(pt0_b h2).j;have:=(pt0_b h2).n;have:=h2.n;have:=h2.b;have:=h18.hi;have:=h18.uh;exact swp_rowsT (pt0_b h2).n (by omega) (by omega)))⟩,trivial⟩,
fun x32=>fun h33=>⟨(PTs.i x32),
⟨(by(try dsimp only at *);exact su_start h33.b.ij),
⟨rfl,rfl,rfl,rfl,rfl,rfl,
⟨rfl,rfl⟩,
⟨rfl,rfl⟩,
⟨rfl,rfl,rfl,trivial⟩,
⟨rfl,rfl⟩,rfl,
⟨rfl,rfl⟩,
⟨rfl,rfl,rfl,trivial⟩,
⟨rfl,rfl⟩,rfl,
⟨rfl,rfl⟩,rfl,
⟨rfl,rfl⟩,rfl,
⟨rfl,rfl⟩,rfl,rfl,
⟨rfl,rfl⟩,rfl,rfl,rfl,trivial,trivial⟩,
⟨rl,rr⟩,trivial⟩,
fun x35=>fun h36=>⟨⟨fun g37=>have h37:=dT g37;⟨⟨(by(try dsimp only at *);omega),
(by(try dsimp only at *);(have:=h33.b.i;have:=h33.b.j;have:=h33.b.n;have:=h2.n;have:=h2.b;have:=h36.hi;omega))⟩,
(by(try dsimp only at *);(have:=h33.b.i;have:=h33.b.j;have:=h33.b.n;have:=h2.n;have:=h2.b;have:=h36.hi;omega)),
⟨(by(try dsimp only at *);omega),
(by(try dsimp only at *);(have:=h2.n;have:=h2.b;have:=h2.a;have:=h2.p;omega))⟩,
(by(try dsimp only at *);(have:=h2.n;have:=h2.b;have:=h2.a;have:=h2.p;omega)),
({ a:=List.getD (Array.toList (PTs.d x32)) ((0:Nat)+Int.toNat (↑x35:Int)) default,b:=List.getD (Array.toList (PTs.d x32)) ((0:Nat)+Int.toNat (↑(SPx.a x1):Int)) default:P2x }),trivial,
⟨⟨rfl,rfl,rfl,trivial⟩,
⟨rfl,rfl,rfl,trivial⟩,trivial⟩,trivial,
(default),trivial,
(by(try dsimp only at *);(simp only[nat0];exact suB_in h37 (ptP_at _ _ _))),trivial⟩,
fun g40=>have h40:=dF g40;⟨(default),trivial,
(by(try dsimp only at *);exact suB_out h40),trivial⟩⟩,
fun x42=>fun h43=>⟨fun h44=>⟨⟨(by(try dsimp only at *);omega),
(by(try dsimp only at *);(have:=h33.b.i;have:=h33.b.j;have:=h33.b.n;have:=h2.n;have:=h2.b;have:=h36.hi;omega))⟩,
(x35+(1:Nat)),
(by(try dsimp only at *);(have:=h33.b.i;have:=h33.b.j;have:=h33.b.n;have:=h2.n;have:=h2.b;have:=suB_le h44;omega)),
(by(try dsimp only at *);exact su_next h36 h44),
⟨(by(try dsimp only at *);omega),rfl,rfl,rfl,rfl,rfl,
⟨rfl,rfl⟩,
⟨rfl,rfl⟩,
⟨rfl,rfl,rfl,trivial⟩,
⟨rfl,rfl⟩,rfl,
⟨rfl,rfl⟩,
⟨rfl,rfl,rfl,trivial⟩,
⟨rfl,rfl⟩,rfl,
⟨rfl,rfl⟩,rfl,
⟨rfl,rfl⟩,rfl,
⟨rfl,rfl⟩,rfl,rfl,
⟨rfl,rfl⟩,rfl,rfl,rfl,trivial,trivial⟩,
⟨rl,rr⟩,trivial⟩,
fun h46=>⟨(PTs.j x32),
⟨(by(try dsimp only at *);(have e:x35=ptU x1 x32:=su_fin h36 h46;rw[<- e];exact sw_start h36)),
⟨(by(try dsimp only at *);(have e:x35=ptU x1 x32:=su_fin h36 h46;omega)),rfl,rfl,rfl,rfl,rfl,
⟨rfl,rfl⟩,
⟨rfl,rfl⟩,
⟨rfl,rfl,rfl,trivial⟩,
⟨rfl,rfl⟩,rfl,
⟨rfl,rfl⟩,
⟨rfl,rfl,rfl,trivial⟩,
⟨rfl,rfl⟩,rfl,
⟨rfl,rfl⟩,rfl,
⟨rfl,rfl⟩,rfl,
⟨rfl,rfl⟩,rfl,rfl,
⟨rfl,rfl⟩,rfl,rfl,rfl,trivial,trivial⟩,
⟨rl,rr⟩,trivial⟩,
fun x48=>fun h49=>⟨⟨fun g50=>have h50:=dT g50;⟨⟨(by(try dsimp only at *);omega),
(by(try dsimp only at *);(have:=h33.b.i;have:=h33.b.j;have:=h33.b.n;have:=h2.n;have:=h2.b;have:=h49.hi;have:=h49.uh;have:=h49.ul;have:=h49.lo;omega))⟩,
(by(try dsimp only at *);(have:=h33.b.i;have:=h33.b.j;have:=h33.b.n;have:=h2.n;have:=h2.b;have:=h49.hi;have:=h49.uh;have:=h49.ul;have:=h49.lo;omega)),
⟨(by(try dsimp only at *);omega),
(by(try dsimp only at *);(have:=h2.n;have:=h2.b;have:=h2.a;have:=h2.p;omega))⟩,
(by(try dsimp only at *);(have:=h2.n;have:=h2.b;have:=h2.a;have:=h2.p;omega)),
({ a:=List.getD (Array.toList (PTs.d x32)) ((0:Nat)+Int.toNat (↑x48:Int)) default,b:=List.getD (Array.toList (PTs.d x32)) ((0:Nat)+Int.toNat (↑(SPx.a x1):Int)) default:P2x }),trivial,
⟨⟨rfl,rfl,rfl,trivial⟩,
⟨rfl,rfl,rfl,trivial⟩,trivial⟩,trivial,
(default),trivial,
(by(try dsimp only at *);(simp only[nat0];exact swB_in h50 (ptQ_at _ _ _))),trivial⟩,
fun g53=>have h53:=dF g53;⟨(default),trivial,
(by(try dsimp only at *);exact swB_out h53),trivial⟩⟩,
fun x55=>fun h56=>⟨fun h57=>⟨⟨(by(try dsimp only at *);omega),
(by(try dsimp only at *);(have:=h33.b.i;have:=h33.b.j;have:=h33.b.n;have:=h2.n;have:=h2.b;have:=h49.hi;have:=h49.uh;have:=h49.ul;have:=h49.lo;omega))⟩,
(x48-(1:Nat)),
(by(try dsimp only at *);(have:=h33.b.i;have:=h33.b.j;have:=h33.b.n;have:=h2.n;have:=h2.b;have:=swB_le h57;have:=h49.ul;have:=h49.hi;omega)),
(by(try dsimp only at *);exact sw_next (by have:=h33.b.i;omega) h49 h57),
⟨rfl,
(by(try dsimp only at *);(have:=h33.b.i;have:=h33.b.j;have:=h33.b.n;have:=h2.n;have:=h2.b;have:=swB_le h57;have:=h49.ul;have:=h49.hi;omega)),rfl,rfl,rfl,rfl,
⟨rfl,rfl⟩,
⟨rfl,rfl⟩,
⟨rfl,rfl,rfl,trivial⟩,
⟨rfl,rfl⟩,rfl,
⟨rfl,rfl⟩,
⟨rfl,rfl,rfl,trivial⟩,
⟨rfl,rfl⟩,rfl,
⟨rfl,rfl⟩,rfl,
⟨rfl,rfl⟩,rfl,
⟨rfl,rfl⟩,rfl,rfl,
⟨rfl,rfl⟩,rfl,rfl,rfl,trivial,trivial⟩,
⟨rl,rr⟩,trivial⟩,
fun h59=>⟨fun g60=>have h60:=dT g60;⟨⟨(by(try dsimp only at *);omega),
(by(try dsimp only at *);(have:=h2.n;have:=h2.b;have:=h2.a;have:=h2.p;omega))⟩,
(by(try dsimp only at *);(have:=h2.n;have:=h2.b;have:=h2.a;have:=h2.p;omega)),
⟨(by(try dsimp only at *);omega),
(by(try dsimp only at *);(have:=h33.b.i;have:=h33.b.j;have:=h33.b.n;have:=h2.n;have:=h2.b;have:=h49.hi;have:=h49.uh;have:=h49.ul;have:=h49.lo;omega))⟩,
(by(try dsimp only at *);(have:=h33.b.i;have:=h33.b.j;have:=h33.b.n;have:=h2.n;have:=h2.b;have:=h49.hi;have:=h49.uh;have:=h49.ul;have:=h49.lo;omega)),
⟨(by(try dsimp only at *);omega),
(by(try dsimp only at *);(have:=h33.b.i;have:=h33.b.j;have:=h33.b.n;have:=h2.n;have:=h2.b;have:=h49.hi;have:=h49.uh;have:=h49.ul;have:=h49.lo;omega))⟩,
⟨(by(try dsimp only at *);(have:=h33.b.i;have:=h33.b.j;have:=h33.b.n;have:=h2.n;have:=h2.b;have:=h49.hi;have:=h49.uh;have:=h49.ul;have:=h49.lo;omega)),trivial,trivial,trivial,trivial⟩,
⟨(by(try dsimp only at *);omega),
(by(try dsimp only at *);(have:=h2.n;have:=h2.b;have:=h2.a;have:=h2.p;omega))⟩,
⟨(by(try dsimp only at *);(have:=h2.n;have:=h2.b;have:=h2.a;have:=h2.p;omega)),trivial,trivial,trivial,trivial⟩,
⟨(by(try dsimp only at *);(rw[pt_false h33 h49 h59 h60];done)),
(by(try dsimp only at *);(rw[pt_false h33 h49 h59 h60];done)),trivial⟩,
⟨rl,
(by(try dsimp only at *);(simp only[nat0];rw[pt_false h33 h49 h59 h60];have:=h33.b.i;have:=h33.b.j;have:=h33.b.n;have:=h2.n;have:=h2.b;have:=h49.hi;have:=h2.a;have:=h2.p;exact swp_rowsT h33.b.n (by omega) (by omega)))⟩,trivial⟩,
fun g61=>have h61:=dF g61;⟨⟨(by(try dsimp only at *);omega),
(by(try dsimp only at *);(have:=h33.b.i;have:=h33.b.j;have:=h33.b.n;have:=h2.n;have:=h2.b;have:=h49.hi;have:=h49.uh;have:=h49.ul;have:=h49.lo;omega))⟩,
(by(try dsimp only at *);(have:=h33.b.i;have:=h33.b.j;have:=h33.b.n;have:=h2.n;have:=h2.b;have:=h49.hi;have:=h49.uh;have:=h49.ul;have:=h49.lo;omega)),
⟨(by(try dsimp only at *);omega),
(by(try dsimp only at *);(have:=h33.b.i;have:=h33.b.j;have:=h33.b.n;have:=h2.n;have:=h2.b;have:=h49.hi;have:=h49.uh;have:=h49.ul;have:=h49.lo;omega))⟩,
(by(try dsimp only at *);(have:=h33.b.i;have:=h33.b.j;have:=h33.b.n;have:=h2.n;have:=h2.b;have:=h49.hi;have:=h49.uh;have:=h49.ul;have:=h49.lo;omega)),
⟨(by(try dsimp only at *);omega),
(by(try dsimp only at *);(have:=h33.b.i;have:=h33.b.j;have:=h33.b.n;have:=h2.n;have:=h2.b;have:=h49.hi;have:=h49.uh;have:=h49.ul;have:=h49.lo;omega))⟩,
⟨(by(try dsimp only at *);(have:=h33.b.i;have:=h33.b.j;have:=h33.b.n;have:=h2.n;have:=h2.b;have:=h49.hi;have:=h49.uh;have:=h49.ul;have:=h49.lo;omega)),trivial,trivial,trivial,trivial⟩,
⟨(by(try dsimp only at *);omega),
(by(try dsimp only at *);(have:=h33.b.i;have:=h33.b.j;have:=h33.b.n;have:=h2.n;have:=h2.b;have:=h49.hi;have:=h49.uh;have:=h49.ul;have:=h49.lo;omega))⟩,
⟨(by(try dsimp only at *);(have:=h33.b.i;have:=h33.b.j;have:=h33.b.n;have:=h2.n;have:=h2.b;have:=h49.hi;have:=h49.uh;have:=h49.ul;have:=h49.lo;omega)),trivial,trivial,trivial,trivial⟩,
⟨(by(try dsimp only at *);omega),
(by(try dsimp only at *);(have:=h33.b.i;have:=h33.b.j;have:=h33.b.n;have:=h2.n;have:=h2.b;have:=h49.hi;have:=h49.uh;have:=h49.ul;have:=h49.lo;omega))⟩,
⟨(by(try dsimp only at *);omega),
(by(try dsimp only at *);(have:=h33.b.i;have:=h33.b.j;have:=h33.b.n;have:=h2.n;have:=h2.b;have:=h49.hi;have:=h49.uh;have:=h49.ul;have:=h49.lo;omega))⟩,
(ptN x1 x32 x48),
(by(try dsimp only at *);(show x48-1+1-(ptU x1 x32+1)<x32.j+1-x32.i;have:=h49.hi;have:=h49.ul;have:=h33.b.i;have:=h33.b.j;have:=h33.b.n;have:=h2.n;have:=h2.b;omega)),
(by(try dsimp only at *);exact pt_next h33 h36 h46 h49 h59 h61),
⟨(by(try dsimp only at *);rfl),
(by(try dsimp only at *);(show(x48:Int)-1=((x48-1:Nat):Int);have:=h33.b.i;have:=h33.b.j;have:=h33.b.n;have:=h2.n;have:=h2.b;have:=h49.ul;omega)),rfl,rfl,rfl,rfl,
⟨rfl,rfl⟩,
⟨rfl,rfl⟩,
⟨rfl,rfl,rfl,trivial⟩,
⟨rfl,rfl⟩,rfl,
⟨rfl,rfl⟩,
⟨rfl,rfl,rfl,trivial⟩,
⟨rfl,rfl⟩,rfl,
⟨rfl,rfl⟩,rfl,
⟨rfl,rfl⟩,rfl,
⟨rfl,rfl⟩,rfl,rfl,
⟨rfl,rfl⟩,rfl,rfl,rfl,trivial,trivial⟩,
⟨rl,
(by(try dsimp only at *);(simp only[nat0];have:=h33.b.i;have:=h33.b.j;have:=h33.b.n;have:=h2.n;have:=h2.b;have:=h49.hi;have:=h49.uh;exact swp_rowsT h33.b.n (by omega) (by omega)))⟩,trivial⟩⟩⟩⟩⟩⟩⟩⟩⟩⟩⟩⟩⟩⟩⟩⟩)
theorem pt_good:Good Try.prog 54 ptC/\FnOk Try.prog 54:=good_of tok conO2 (fn:=Try.f54) rfl (by decide+kernel) (fun _=>rfl) pt_keeps
end Go.Sym