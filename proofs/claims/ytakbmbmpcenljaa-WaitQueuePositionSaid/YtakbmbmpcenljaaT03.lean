import Derived.Test.YtakbmbmpcenljaaT02
import Derived.Test.YtakbmbmpcenljaaXD
namespace Go.Sym
set_option linter.unusedVariables false
set_option linter.unusedSimpArgs false
open Go.Proofs
set_option maxRecDepth 100000
set_option maxHeartbeats 4000000
def reF (d:Array Pl) (a b:Nat):Array Pl:=Sort.reverseRange d a b
def inF (d:Array Pl) (a b:Nat):Array Pl:=Sort.insertionSort ltP d a b
theorem swp_rowsT {d:Array Pl} {n i j:Nat} (hn:d.size=n) (hi:i<n) (hj:j<n):
  RowsEq kP n (setRow (setRow (encL encP d.toList) i 0 [.i (d.toList.getD j default).rk,.i (d.toList.getD j default).si,.i (d.toList.getD j default).ca]) j 0 [.i (d.toList.getD i default).rk,.i (d.toList.getD i default).si,.i (d.toList.getD i default).ca]) (encL encP (Sort.swp d i j).toList):=swp_rowsP hn.symm hi hj
structure RVs where
 i:Nat
 j:Nat
 d:Array Pl
structure RVok (x:SAx) (s:RVs):Prop where
 j:s.j<x.d.size
 i:s.i<=s.j+1
 n:s.d.size=x.d.size
 eq:Sort.reverseLoop s.i s.j s.d=reF x.d x.a x.b
structure SAle (x:SAx):Prop where
 n:x.d.size<=30
 b:x.b<=x.d.size
 a:x.a<=x.b
theorem SAok.le {x:SAx} (h:SAok x):SAle x:=⟨h.n,h.b,Nat.le_of_lt h.a⟩
def srtC (pre:SAx->Prop) (F:SAx->Array Pl):CT where
 X:=SAx
 pre:=pre
 args:=fun x=>[.sl 100000 0 x.d.size,.i .i64 x.a,.i .i64 x.b,cmA]
 g0:=fun x=>[(100000,.rows .own kP x.d.size (aR x.d))]
 res:=fun _=>.tup []
 g1:=fun x=>[(100000,.rows .own kP x.d.size (aR (F x)))]
def rvI (x:SAx) (id:Nat):Option Inv:=match id with
 |0=>some { X:=RVs,ok:=fun s=>RVok x s,fr:=fun s=>[(8,.i .i64 s.i),(9,.i .i64 s.j)],hp:=fun s=>[(100000,.rows .own kP x.d.size (aR s.d))],me:=fun s=>s.j+1-s.i }
 |_=>none
theorem rv_step {x:SAx} {s:RVs} (h:RVok x s) (hl:(s.i:Int)<s.j):RVok x ⟨s.i+1,s.j-1,Sort.swp s.d s.i s.j⟩:=by
 have:=h.j
 refine⟨by show s.j-1<_;omega,by show s.i+1<=s.j-1+1;omega,by show(Sort.swp _ _ _).size=_;rw[swp_size];exact h.n,?_⟩
 rw[<- h.eq]
 conv=>rhs;unfold Sort.reverseLoop
 rw[if_pos (by omega)]
theorem rv_end {x:SAx} {s:RVs} (h:RVok x s) (hl:¬ (s.i:Int)<s.j):s.d=reF x.d x.a x.b:=by
 rw[<- h.eq]
 unfold Sort.reverseLoop
 rw[if_neg (by omega)]
set_option maxRecDepth 100000 in
theorem rv_keeps:Keeps cfgO2 Try.f51 (srtC SAok fun x=>reF x.d x.a x.b) rvI:=Eq.mp (show((∀ x1:SAx,((SAok x1)->((((-9223372036854775808:Int)<=(x1.b:Int)-1)/\((x1.b:Int)-1<=(9223372036854775807:Int)))/\(∃ x3:RVs,(((RVok x1 x3)/\((((x1.a:Int)=(x3.i:Int))/\(((x1.b:Int)-1=(x3.j:Int))/\(((x1.b:Int)-1=(x1.b:Int)-1)/\(((x1.b:Int)=(x1.b:Int))/\(((x1.a:Int)=(x1.a:Int))/\((0=0/\(Array.size x1.d=Array.size x1.d))/\(((x1.a:Int)=(x1.a:Int))/\(((x1.b:Int)=(x1.b:Int))/\(True/\True)))))))))/\(((RLe (Array.size x1.d) (Array.size x1.d))/\(RowsEq [.int .i64,.int .i64,.int .i64] (Array.size x1.d) (aR x1.d) (aR x3.d)))/\True)))/\(∀ x4:RVs,((RVok x1 x4)->(((decide ((x4.i:Int)<(x4.j:Int))=true)->((((0:Int)<=(x4.j:Int))/\((x4.j:Int)<(↑(Array.size x1.d):Int)))/\((0+Int.toNat (x4.j:Int)<Array.size x1.d)/\((((0:Int)<=(x4.i:Int))/\((x4.i:Int)<(↑(Array.size x1.d):Int)))/\((0+Int.toNat (x4.i:Int)<Array.size x1.d)/\((((0:Int)<=(x4.i:Int))/\((x4.i:Int)<(↑(Array.size x1.d):Int)))/\(((0+Int.toNat (x4.i:Int)<Array.size x1.d)/\(True/\(True/\(True/\True))))/\((((0:Int)<=(x4.j:Int))/\((x4.j:Int)<(↑(Array.size x1.d):Int)))/\(((0+Int.toNat (x4.j:Int)<Array.size x1.d)/\(True/\(True/\(True/\True))))/\((((-9223372036854775808:Int)<=(x4.i:Int)+1)/\((x4.i:Int)+1<=(9223372036854775807:Int)))/\((((-9223372036854775808:Int)<=(x4.j:Int)-1)/\((x4.j:Int)-1<=(9223372036854775807:Int)))/\(∃ x7:RVs,((x7.j+(1:Nat)-x7.i<x4.j+(1:Nat)-x4.i)/\((RVok x1 x7)/\((((x4.i:Int)+1=(x7.i:Int))/\(((x4.j:Int)-1=(x7.j:Int))/\(((x1.b:Int)-1=(x1.b:Int)-1)/\(((x1.b:Int)=(x1.b:Int))/\(((x1.a:Int)=(x1.a:Int))/\((0=0/\(Array.size x1.d=Array.size x1.d))/\(((x1.a:Int)=(x1.a:Int))/\(((x1.b:Int)=(x1.b:Int))/\(True/\True)))))))))/\(((RLe (Array.size x1.d) (Array.size x1.d))/\(RowsEq [.int .i64,.int .i64,.int .i64] (Array.size x1.d) (setRow (setRow (aR x4.d) (0+Int.toNat (x4.i:Int)) 0 (D.i ((Array.toList x4.d).getD (0+Int.toNat (x4.j:Int)) default).rk::D.i ((Array.toList x4.d).getD (0+Int.toNat (x4.j:Int)) default).si::D.i ((Array.toList x4.d).getD (0+Int.toNat (x4.j:Int)) default).ca::@List.nil D)) (0+Int.toNat (x4.j:Int)) 0 (D.i ((Array.toList x4.d).getD (0+Int.toNat (x4.i:Int)) default).rk::D.i ((Array.toList x4.d).getD (0+Int.toNat (x4.i:Int)) default).si::D.i ((Array.toList x4.d).getD (0+Int.toNat (x4.i:Int)) default).ca::@List.nil D)) (aR x7.d)))/\True))))))))))))))))/\((decide ((x4.i:Int)<(x4.j:Int))=false)->(True/\(((RLe (Array.size x1.d) (Array.size x1.d))/\(RowsEq [.int .i64,.int .i64,.int .i64] (Array.size x1.d) (aR x4.d) (aR (reF x1.d x1.a x1.b))))/\True))))))))))))=(Keeps cfgO2 Try.f51 (srtC SAok fun x=>reF x.d x.a x.b) rvI) by kernel_rfl) (fun x1=>fun h2=>⟨⟨(by omega),
(by(have:=h2.n;have:=h2.b;have:=h2.a;omega))⟩,
({ i:=SAx.a x1,j:=SAx.b x1-(1:Nat),d:=SAx.d x1:RVs }),
⟨(by(try dsimp only at *);exact⟨by have:=h2.b;have:=h2.a;show x1.b-1<x1.d.size;omega,by have:=h2.a;show x1.a<=x1.b-1+1;omega,rfl,rfl⟩),
⟨rfl,
(by(try dsimp only at *);(have:=h2.n;have:=h2.b;have:=h2.a;omega)),rfl,rfl,rfl,
⟨rfl,rfl⟩,rfl,rfl,trivial,trivial⟩,
⟨rl,rr⟩,trivial⟩,
fun x4=>fun h5=>⟨fun g6=>have h6:=dT g6;⟨⟨(by(try dsimp only at *);omega),
(by(try dsimp only at *);(have:=h5.j;have:=h5.i;have:=h2.n;omega))⟩,
(by(try dsimp only at *);(have:=h5.j;have:=h5.i;have:=h2.n;omega)),
⟨(by(try dsimp only at *);omega),
(by(try dsimp only at *);(have:=h5.j;have:=h5.i;have:=h2.n;omega))⟩,
(by(try dsimp only at *);(have:=h5.j;have:=h5.i;have:=h2.n;omega)),
⟨(by(try dsimp only at *);omega),
(by(try dsimp only at *);(have:=h5.j;have:=h5.i;have:=h2.n;omega))⟩,
⟨(by(try dsimp only at *);(have:=h5.j;have:=h5.i;have:=h2.n;omega)),trivial,trivial,trivial,trivial⟩,
⟨(by(try dsimp only at *);omega),
(by(try dsimp only at *);(have:=h5.j;have:=h5.i;have:=h2.n;omega))⟩,
⟨(by(try dsimp only at *);(have:=h5.j;have:=h5.i;have:=h2.n;omega)),trivial,trivial,trivial,trivial⟩,
⟨(by(try dsimp only at *);omega),
(by(try dsimp only at *);(have:=h5.j;have:=h5.i;have:=h2.n;omega))⟩,
⟨(by(try dsimp only at *);omega),
(by(try dsimp only at *);(have:=h5.j;have:=h5.i;have:=h2.n;omega))⟩,
({ i:=RVs.i x4+(1:Nat),j:=RVs.j x4-(1:Nat),d:= Sort.swp (RVs.d x4) (RVs.i x4) (RVs.j x4):RVs }),
(by(try dsimp only at *);omega),
(by(try dsimp only at *);exact rv_step h5 h6),
⟨(by(try dsimp only at *);omega),
(by(try dsimp only at *);omega),rfl,rfl,rfl,
⟨rfl,rfl⟩,rfl,rfl,trivial,trivial⟩,
⟨rl,
(by(try dsimp only at *);(simp only[nat0]at *;exact swp_rowsT h5.n (by have:=h5.j;omega) h5.j))⟩,trivial⟩,
fun g8=>have h8:=dF g8;⟨trivial,
⟨rl,
(by(try dsimp only at *);(rw[<- rv_end h5 h8];exact rr))⟩,trivial⟩⟩⟩)
theorem rv_good:Good Try.prog 51 (srtC SAok fun x=>reF x.d x.a x.b)/\FnOk Try.prog 51:=good_of tok conO2 (fn:=Try.f51) rfl (by decide+kernel) (fun _=>rfl) rv_keeps
structure INs where
 i:Nat
 d:Array Pl
structure INok (x:SAx) (s:INs):Prop where
 a:x.a<s.i
 i:s.i<=x.b∨s.i=x.a+1
 n:s.d.size=x.d.size
 eq:Sort.insOuter ltP x.a x.b s.i s.d=inF x.d x.a x.b
structure INin (x:SAx) (s t:INs):Prop where
 i:t.i<=s.i
 a:x.a<=t.i
 n:t.d.size=x.d.size
 eq:Sort.insInner ltP x.a t.i t.d=Sort.insInner ltP x.a s.i s.d
def insI (x:SAx) (id:Nat):Option Inv:=match id with
 | 0 => some { X := INs, ok := fun s => INok x s, fr := fun s => [(8, .i .i64 s.i)], hp := fun s => [(100000, .rows .own kP x.d.size (aR s.d))], me := fun s => x.b - s.i,
               inn:=fun s id=>match id with
                |2=>some { X:=INs,ok:=fun t=>INin x s t,fr:=fun t=>[(9,.i .i64 t.i)],hp:=fun t=>[(100000,.rows .own kP x.d.size (aR t.d))],me:=fun t=>t.i }
                |_=>none }
 |_=>none
theorem subN0 (j:Nat):0+((j:Int)-1).toNat=j-1:=by omega
theorem in_step {x:SAx} {s t:INs} (h:INin x s t) (h0:(x.a:Int)<t.i) (hc:cmpP (t.d.toList.getD t.i default) (t.d.toList.getD (t.i-1) default)<0):INin x s ⟨t.i-1,Sort.swp t.d t.i (t.i-1)⟩:=by
 have hi:=h.i
 refine⟨by show t.i-1<=s.i;omega,by show x.a<=t.i-1;omega,by show(Sort.swp _ _ _).size=_;rw[swp_size];exact h.n,?_⟩
 rw[<- h.eq]
 obtain⟨j,hj⟩:∃ j,t.i=j+1:=⟨t.i-1,by omega⟩
 show Sort.insInner ltP x.a (t.i-1) (Sort.swp t.d t.i (t.i-1))=_
 rw[hj]at hc ⊢
 rw[Nat.add_sub_cancel]at hc ⊢
 conv=>rhs;unfold Sort.insInner
 rw[lt_yes hc,Bool.and_true,if_pos (by rw[decide_eq_true_iff];omega)]
theorem in_stop {x:SAx} {s t:INs} (h:INin x s t) (hn:¬ ((x.a:Int)<t.i/\cmpP (t.d.toList.getD t.i default) (t.d.toList.getD (t.i-1) default)<0)):t.d=Sort.insInner ltP x.a s.i s.d:=by
 rw[<- h.eq]
 cases hj:t.i with
 |zero=>rfl
 |succ j=>
  unfold Sort.insInner
  rw[hj,Nat.add_sub_cancel]at hn
  rw[if_neg]
  rw[Bool.and_eq_true,decide_eq_true_iff]
  rintro⟨a,b⟩
  refine hn ⟨by omega,?_⟩
  rw[gA,gA]at b
  exact of_decide_eq_true b
theorem in_next {x:SAx} {s t:INs} (h:INok x s) (k:INin x s t) (hb:(s.i:Int)<x.b) (hn:¬ ((x.a:Int)<t.i/\cmpP (t.d.toList.getD t.i default) (t.d.toList.getD (t.i-1) default)<0)):INok x ⟨s.i+1,t.d⟩:=by
 refine⟨by have:=h.a;show x.a<s.i+1;omega,.inl (by show s.i+1<=x.b;omega),k.n,?_⟩
 rw[<- h.eq]
 conv=>rhs;unfold Sort.insOuter
 rw[if_pos (by omega)]
 show Sort.insOuter ltP x.a x.b (s.i+1) t.d=_
 rw[in_stop k hn]
theorem in_end {x:SAx} {s:INs} (h:INok x s) (hb:¬ (s.i:Int)<x.b):s.d=inF x.d x.a x.b:=by
 rw[<- h.eq]
 unfold Sort.insOuter
 rw[if_neg (by omega)]
set_option maxRecDepth 100000 in
theorem ins_keeps:Keeps cfgO2 Try.f47 (srtC SAle fun x=>inF x.d x.a x.b) insI:=Eq.mp (show((∀ x1:SAx,((SAle x1)->((((-9223372036854775808:Int)<=(x1.a:Int)+1)/\((x1.a:Int)+1<=(9223372036854775807:Int)))/\(∃ x3:INs,(((INok x1 x3)/\((((x1.a:Int)+1=(x3.i:Int))/\(((x1.a:Int)+1=(x1.a:Int)+1)/\(((x1.a:Int)=(x1.a:Int))/\((0=0/\(Array.size x1.d=Array.size x1.d))/\(((x1.a:Int)=(x1.a:Int))/\(((x1.b:Int)=(x1.b:Int))/\(True/\True)))))))/\(((RLe (Array.size x1.d) (Array.size x1.d))/\(RowsEq [.int .i64,.int .i64,.int .i64] (Array.size x1.d) (aR x1.d) (aR x3.d)))/\True)))/\(∀ x4:INs,((INok x1 x4)->(((decide ((x4.i:Int)<(x1.b:Int))=true)->(∃ x7:INs,(((INin x1 x4 x7)/\((((x4.i:Int)=(x7.i:Int))/\(((x4.i:Int)=(x4.i:Int))/\((decide ((x4.i:Int)<(x1.b:Int))=decide ((x4.i:Int)<(x1.b:Int)))/\(((x1.b:Int)=(x1.b:Int))/\(((x4.i:Int)=(x4.i:Int))/\(((x4.i:Int)=(x4.i:Int))/\(((x1.a:Int)+1=(x1.a:Int)+1)/\(((x1.a:Int)=(x1.a:Int))/\((0=0/\(Array.size x1.d=Array.size x1.d))/\(((x1.a:Int)=(x1.a:Int))/\(((x1.b:Int)=(x1.b:Int))/\(True/\True))))))))))))/\(((RLe (Array.size x1.d) (Array.size x1.d))/\(RowsEq [.int .i64,.int .i64,.int .i64] (Array.size x1.d) (aR x4.d) (aR x7.d)))/\True)))/\(∀ x8:INs,((INin x1 x4 x8)->(((decide ((x1.a:Int)<(x8.i:Int))=true)->((((0:Int)<=(x8.i:Int))/\((x8.i:Int)<(↑(Array.size x1.d):Int)))/\((0+Int.toNat (x8.i:Int)<Array.size x1.d)/\((((-9223372036854775808:Int)<=(x8.i:Int)-1)/\((x8.i:Int)-1<=(9223372036854775807:Int)))/\((((0:Int)<=(x8.i:Int)-1)/\((x8.i:Int)-1<(↑(Array.size x1.d):Int)))/\((0+Int.toNat ((x8.i:Int)-1)<Array.size x1.d)/\(∃ x11:P2x,(True/\((((((Array.toList x8.d).getD (0+Int.toNat (x8.i:Int)) default).rk=x11.a.rk)/\((((Array.toList x8.d).getD (0+Int.toNat (x8.i:Int)) default).si=x11.a.si)/\((((Array.toList x8.d).getD (0+Int.toNat (x8.i:Int)) default).ca=x11.a.ca)/\True)))/\(((((Array.toList x8.d).getD (0+Int.toNat ((x8.i:Int)-1)) default).rk=x11.b.rk)/\((((Array.toList x8.d).getD (0+Int.toNat ((x8.i:Int)-1)) default).si=x11.b.si)/\((((Array.toList x8.d).getD (0+Int.toNat ((x8.i:Int)-1)) default).ca=x11.b.ca)/\True)))/\True))/\(True/\(((decide (cmpP x11.a x11.b<(0:Int))=true)->((((-9223372036854775808:Int)<=(x8.i:Int)-1)/\((x8.i:Int)-1<=(9223372036854775807:Int)))/\((((-9223372036854775808:Int)<=(x8.i:Int)-1)/\((x8.i:Int)-1<=(9223372036854775807:Int)))/\((((0:Int)<=(x8.i:Int)-1)/\((x8.i:Int)-1<(↑(Array.size x1.d):Int)))/\((0+Int.toNat ((x8.i:Int)-1)<Array.size x1.d)/\((((0:Int)<=(x8.i:Int))/\((x8.i:Int)<(↑(Array.size x1.d):Int)))/\((0+Int.toNat (x8.i:Int)<Array.size x1.d)/\((((0:Int)<=(x8.i:Int))/\((x8.i:Int)<(↑(Array.size x1.d):Int)))/\(((0+Int.toNat (x8.i:Int)<Array.size x1.d)/\(True/\(True/\(True/\True))))/\((((0:Int)<=(x8.i:Int)-1)/\((x8.i:Int)-1<(↑(Array.size x1.d):Int)))/\(((0+Int.toNat ((x8.i:Int)-1)<Array.size x1.d)/\(True/\(True/\(True/\True))))/\((((-9223372036854775808:Int)<=(x8.i:Int)-1)/\((x8.i:Int)-1<=(9223372036854775807:Int)))/\(∃ x13:INs,((x13.i<x8.i)/\((INin x1 x4 x13)/\((((x8.i:Int)-1=(x13.i:Int))/\(((x4.i:Int)=(x4.i:Int))/\((decide ((x4.i:Int)<(x1.b:Int))=decide ((x4.i:Int)<(x1.b:Int)))/\(((x1.b:Int)=(x1.b:Int))/\(((x4.i:Int)=(x4.i:Int))/\(((x4.i:Int)=(x4.i:Int))/\(((x1.a:Int)+1=(x1.a:Int)+1)/\(((x1.a:Int)=(x1.a:Int))/\((0=0/\(Array.size x1.d=Array.size x1.d))/\(((x1.a:Int)=(x1.a:Int))/\(((x1.b:Int)=(x1.b:Int))/\(True/\True))))))))))))/\(((RLe (Array.size x1.d) (Array.size x1.d))/\(RowsEq [.int .i64,.int .i64,.int .i64] (Array.size x1.d) (setRow (setRow (aR x8.d) (0+Int.toNat (x8.i:Int)) 0 (D.i ((Array.toList x8.d).getD (0+Int.toNat ((x8.i:Int)-1)) default).rk::D.i ((Array.toList x8.d).getD (0+Int.toNat ((x8.i:Int)-1)) default).si::D.i ((Array.toList x8.d).getD (0+Int.toNat ((x8.i:Int)-1)) default).ca::@List.nil D)) (0+Int.toNat ((x8.i:Int)-1)) 0 (D.i ((Array.toList x8.d).getD (0+Int.toNat (x8.i:Int)) default).rk::D.i ((Array.toList x8.d).getD (0+Int.toNat (x8.i:Int)) default).si::D.i ((Array.toList x8.d).getD (0+Int.toNat (x8.i:Int)) default).ca::@List.nil D)) (aR x13.d)))/\True)))))))))))))))))/\((decide (cmpP x11.a x11.b<(0:Int))=false)->((((-9223372036854775808:Int)<=(x4.i:Int)+1)/\((x4.i:Int)+1<=(9223372036854775807:Int)))/\(∃ x15:INs,((x1.b-x15.i<x1.b-x4.i)/\((INok x1 x15)/\((((x4.i:Int)+1=(x15.i:Int))/\(((x1.a:Int)+1=(x1.a:Int)+1)/\(((x1.a:Int)=(x1.a:Int))/\((0=0/\(Array.size x1.d=Array.size x1.d))/\(((x1.a:Int)=(x1.a:Int))/\(((x1.b:Int)=(x1.b:Int))/\(True/\True)))))))/\(((RLe (Array.size x1.d) (Array.size x1.d))/\(RowsEq [.int .i64,.int .i64,.int .i64] (Array.size x1.d) (aR x8.d) (aR x15.d)))/\True))))))))))))))))))/\((decide ((x1.a:Int)<(x8.i:Int))=false)->((((-9223372036854775808:Int)<=(x4.i:Int)+1)/\((x4.i:Int)+1<=(9223372036854775807:Int)))/\(∃ x17:INs,((x1.b-x17.i<x1.b-x4.i)/\((INok x1 x17)/\((((x4.i:Int)+1=(x17.i:Int))/\(((x1.a:Int)+1=(x1.a:Int)+1)/\(((x1.a:Int)=(x1.a:Int))/\((0=0/\(Array.size x1.d=Array.size x1.d))/\(((x1.a:Int)=(x1.a:Int))/\(((x1.b:Int)=(x1.b:Int))/\(True/\True)))))))/\(((RLe (Array.size x1.d) (Array.size x1.d))/\(RowsEq [.int .i64,.int .i64,.int .i64] (Array.size x1.d) (aR x8.d) (aR x17.d)))/\True)))))))))))))/\((decide ((x4.i:Int)<(x1.b:Int))=false)->(True/\(((RLe (Array.size x1.d) (Array.size x1.d))/\(RowsEq [.int .i64,.int .i64,.int .i64] (Array.size x1.d) (aR x4.d) (aR (inF x1.d x1.a x1.b))))/\True))))))))))))=(Keeps cfgO2 Try.f47 (srtC SAle fun x=>inF x.d x.a x.b) insI) by kernel_rfl) (fun x1=>fun h2=>⟨⟨(by omega),
(by(have:=h2.n;have:=h2.b;have:=h2.a;omega))⟩,
({ i:=SAx.a x1+(1:Nat),d:=SAx.d x1:INs }),
⟨(by(try dsimp only at *);exact⟨Nat.lt_succ_self _,.inr rfl,rfl,rfl⟩),
⟨(by(try dsimp only at *);omega),rfl,rfl,
⟨rfl,rfl⟩,rfl,rfl,trivial,trivial⟩,
⟨rl,rr⟩,trivial⟩,
fun x4=>fun h5=>⟨fun g6=>have h6:=dT g6;⟨(x4),
⟨(by(try dsimp only at *);exact⟨Nat.le_refl _,Nat.le_of_lt h5.a,h5.n,rfl⟩),
⟨rfl,rfl,rfl,rfl,rfl,rfl,rfl,rfl,
⟨rfl,rfl⟩,rfl,rfl,trivial,trivial⟩,
⟨rl,rr⟩,trivial⟩,
fun x8=>fun h9=>⟨fun g10=>have h10:=dT g10;⟨⟨(by(try dsimp only at *);omega),
(by(try dsimp only at *);(have:=h9.i;have:=h9.a;have:=h2.n;have:=h2.b;omega))⟩,
(by(try dsimp only at *);(have:=h9.i;have:=h9.a;have:=h2.n;have:=h2.b;omega)),
⟨(by(try dsimp only at *);omega),
(by(try dsimp only at *);(have:=h9.i;have:=h9.a;have:=h2.n;have:=h2.b;omega))⟩,
⟨(by(try dsimp only at *);omega),
(by(try dsimp only at *);(have:=h9.i;have:=h9.a;have:=h2.n;have:=h2.b;omega))⟩,
(by(try dsimp only at *);(have:=h9.i;have:=h9.a;have:=h2.n;have:=h2.b;omega)),
({ a:=List.getD (Array.toList (INs.d x8)) ((0:Nat)+Int.toNat (↑(INs.i x8):Int)) default,b:=List.getD (Array.toList (INs.d x8)) ((0:Nat)+Int.toNat ((↑(INs.i x8):Int)-(1:Int))) default:P2x }),trivial,
⟨⟨rfl,rfl,rfl,trivial⟩,
⟨rfl,rfl,rfl,trivial⟩,trivial⟩,trivial,
fun g12=>have h12:=dT g12;⟨⟨(by(try dsimp only at *);omega),
(by(try dsimp only at *);(have:=h9.i;have:=h9.a;have:=h2.n;have:=h2.b;omega))⟩,
⟨(by(try dsimp only at *);omega),
(by(try dsimp only at *);(have:=h9.i;have:=h9.a;have:=h2.n;have:=h2.b;omega))⟩,
⟨(by(try dsimp only at *);omega),
(by(try dsimp only at *);(have:=h9.i;have:=h9.a;have:=h2.n;have:=h2.b;omega))⟩,
(by(try dsimp only at *);(have:=h9.i;have:=h9.a;have:=h2.n;have:=h2.b;omega)),
⟨(by(try dsimp only at *);omega),
(by(try dsimp only at *);(have:=h9.i;have:=h9.a;have:=h2.n;have:=h2.b;omega))⟩,
(by(try dsimp only at *);(have:=h9.i;have:=h9.a;have:=h2.n;have:=h2.b;omega)),
⟨(by(try dsimp only at *);omega),
(by(try dsimp only at *);(have:=h9.i;have:=h9.a;have:=h2.n;have:=h2.b;omega))⟩,
⟨(by(try dsimp only at *);(have:=h9.i;have:=h9.a;have:=h2.n;have:=h2.b;omega)),trivial,trivial,trivial,trivial⟩,
⟨(by(try dsimp only at *);omega),
(by(try dsimp only at *);(have:=h9.i;have:=h9.a;have:=h2.n;have:=h2.b;omega))⟩,
⟨(by(try dsimp only at *);(have:=h9.i;have:=h9.a;have:=h2.n;have:=h2.b;omega)),trivial,trivial,trivial,trivial⟩,
⟨(by(try dsimp only at *);omega),
(by(try dsimp only at *);(have:=h9.i;have:=h9.a;have:=h2.n;have:=h2.b;omega))⟩,
({ i:=INs.i x8-(1:Nat),d:= Sort.swp (INs.d x8) (INs.i x8) (INs.i x8-(1:Nat)):INs }),
(by(try dsimp only at *);omega),
(by(try dsimp only at *);(simp only[nat0,subN0]at *;exact in_step h9 h10 h12)),
⟨(by(try dsimp only at *);omega),rfl,rfl,rfl,rfl,rfl,rfl,rfl,
⟨rfl,rfl⟩,rfl,rfl,trivial,trivial⟩,
⟨rl,
(by(try dsimp only at *);(simp only[nat0,subN0]at *;have:=h9.i;have:=h9.a;have:=h2.b;exact swp_rowsT h9.n (by omega) (by omega)))⟩,trivial⟩,
fun g14=>have h14:=dF g14;⟨⟨(by(try dsimp only at *);omega),
(by(try dsimp only at *);(have:=h2.n;have:=h2.b;have:=h2.a;omega))⟩,
({ i:=INs.i x4+(1:Nat),d:=INs.d x8:INs }),
(by(try dsimp only at *);omega),
(by(try dsimp only at *);(simp only[nat0,subN0]at *;exact in_next h5 h9 h6 fun q=>h14 q.2)),
⟨(by(try dsimp only at *);omega),rfl,rfl,
⟨rfl,rfl⟩,rfl,rfl,trivial,trivial⟩,
⟨rl,rr⟩,trivial⟩⟩,
fun g16=>have h16:=dF g16;⟨⟨(by(try dsimp only at *);omega),
(by(try dsimp only at *);(have:=h2.n;have:=h2.b;have:=h2.a;omega))⟩,
({ i:=INs.i x4+(1:Nat),d:=INs.d x8:INs }),
(by(try dsimp only at *);omega),
(by(try dsimp only at *);exact in_next h5 h9 h6 fun q=>h16 q.1),
⟨(by(try dsimp only at *);omega),rfl,rfl,
⟨rfl,rfl⟩,rfl,rfl,trivial,trivial⟩,
⟨rl,rr⟩,trivial⟩⟩⟩,
fun g18=>have h18:=dF g18;⟨trivial,
⟨rl,
(by(try dsimp only at *);(rw[<- in_end h5 h18];exact rr))⟩,trivial⟩⟩⟩)
theorem ins_good:Good Try.prog 47 (srtC SAle fun x=>inF x.d x.a x.b)/\FnOk Try.prog 47:=good_of tok conO2 (fn:=Try.f47) rfl (by decide+kernel) (fun _=>rfl) ins_keeps
structure SDx where
 d:Array Pl
 lo:Nat
 hi:Nat
 f:Nat
structure SDok (x:SDx):Prop where
 n:x.d.size<=30
 h:x.f+x.hi<=x.d.size
 lo:x.lo<=100
def sdF (d:Array Pl) (hi f r:Nat):Array Pl:=Sort.siftDown ltP hi f r d
def sdC:CT where
 X:=SDx
 pre:=SDok
 args:=fun x=>[.sl 100000 0 x.d.size,.i .i64 x.lo,.i .i64 x.hi,.i .i64 x.f,cmA]
 g0:=fun x=>[(100000,.rows .own kP x.d.size (aR x.d))]
 res:=fun _=>.tup []
 g1:=fun x=>[(100000,.rows .own kP x.d.size (aR (sdF x.d x.hi x.f x.lo)))]
structure SDs where
 r:Nat
 d:Array Pl
structure SDin (x:SDx) (s:SDs):Prop where
 r:s.r<=100
 n:s.d.size=x.d.size
 eq:sdF s.d x.hi x.f s.r=sdF x.d x.hi x.f x.lo
def sdB (x:SDx) (s:SDs):Bool:=decide (2*s.r+2<x.hi)&&ltP s.d[x.f+(2*s.r+1)]! s.d[x.f+(2*s.r+1)+1]!
def sdI (x:SDx) (id:Nat):Option Inv:=match id with
 | 0 => some { X := SDs, ok := fun s => SDin x s, fr := fun s => [(10, .i .i64 s.r)], hp := fun s => [(100000, .rows .own kP x.d.size (aR s.d))], me := fun s => 1000 - s.r,
               inn:=fun s id=>match id with
                |100040=>some (cutB 40 (sdB x s))
                |_=>none }
 |_=>none
theorem ix1 (f r:Nat):0+((f:Int)+r).toNat=f+r:=by omega
theorem ix2 (f r:Nat):0+((f:Int)+(2*r+1)).toNat=f+(2*r+1):=by omega
theorem ix3 (f r:Nat):0+((f:Int)+(2*r+1)+1).toNat=f+(2*r+1)+1:=by omega
theorem ix4 (f r:Nat):0+((f:Int)+(2*r+1+1)).toNat=f+(2*r+2):=by omega
theorem sdB_no1 {x:SDx} {s:SDs} (h:¬ 2*(s.r:Int)+1+1<x.hi):sdB x s=false:=by
 unfold sdB;rw[decide_eq_false (by omega),Bool.false_and]
theorem sdB_dec {x:SDx} {s:SDs} (h:2*(s.r:Int)+1+1<x.hi):decide (cmpP (s.d.toList.getD (x.f+(2*s.r+1)) default) (s.d.toList.getD (x.f+(2*s.r+1)+1) default)<0)=sdB x s:=by
 unfold sdB
 rw[show decide (2*s.r+2<x.hi)=true from decide_eq_true (by omega),Bool.true_and,gA,gA];rfl
theorem sd_end {x:SDx} {s:SDs} (h:(x.hi:Int)<=2*s.r+1):sdF s.d x.hi x.f s.r=s.d:=by
 unfold sdF Sort.siftDown
 rw[dif_pos (by omega)]
theorem sd_2 {x:SDx} {s:SDs} (h:¬ (x.hi:Int)<=2*s.r+1) (hb:sdB x s=true):2*s.r+2<x.hi/\sdF s.d x.hi x.f s.r=if ltP s.d[x.f+s.r]! s.d[x.f+(2*s.r+2)]! =true then sdF (Sort.swp s.d (x.f+s.r) (x.f+(2*s.r+2))) x.hi x.f (2*s.r+2)else s.d:=by
 have hb':=hb
 unfold sdB at hb'
 rw[Bool.and_eq_true,decide_eq_true_iff]at hb'
 refine⟨hb'.1,?_⟩
 unfold sdF
 conv=>lhs;unfold Sort.siftDown
 rw[dif_neg (by omega),if_pos (by rw[Bool.and_eq_true,decide_eq_true_iff];exact hb')]
 cases ltP s.d[x.f+s.r]! s.d[x.f+(2*s.r+2)]! with
 |true=>rw[if_neg (by simp),dif_pos hb'.1,if_pos rfl]
 |false=>rw[if_pos (by simp),if_neg (by simp)]
theorem sd_1 {x:SDx} {s:SDs} (h:¬ (x.hi:Int)<=2*s.r+1) (hb:sdB x s=false):sdF s.d x.hi x.f s.r=if ltP s.d[x.f+s.r]! s.d[x.f+(2*s.r+1)]! =true then sdF (Sort.swp s.d (x.f+s.r) (x.f+(2*s.r+1))) x.hi x.f (2*s.r+1)else s.d:=by
 unfold sdB at hb
 unfold sdF
 conv=>lhs;unfold Sort.siftDown
 have hb2:(decide (2*s.r+1+1<x.hi)&&ltP s.d[x.f+(2*s.r+1)]! s.d[x.f+(2*s.r+1)+1]!)=false:=hb
 rw[dif_neg (by omega),if_neg (by rw[hb2];simp)]
 cases ltP s.d[x.f+s.r]! s.d[x.f+(2*s.r+1)]! with
 |true=>rw[if_neg (by simp),if_pos rfl]
 |false=>rw[if_pos (by simp),if_neg (by simp)]
theorem sd_2s {x:SDx} {s:SDs} (k:SDin x s) (h:¬ (x.hi:Int)<=2*s.r+1) (hb:sdB x s=true) (hc:¬ cmpP (s.d.toList.getD (x.f+s.r) default) (s.d.toList.getD (x.f+(2*s.r+2)) default)<0):s.d=sdF x.d x.hi x.f x.lo:=by
 rw[<- k.eq,(sd_2 h hb).2,lt_no hc,if_neg (by simp)]
theorem sd_1s {x:SDx} {s:SDs} (k:SDin x s) (h:¬ (x.hi:Int)<=2*s.r+1) (hb:sdB x s=false) (hc:¬ cmpP (s.d.toList.getD (x.f+s.r) default) (s.d.toList.getD (x.f+(2*s.r+1)) default)<0):s.d=sdF x.d x.hi x.f x.lo:=by
 rw[<- k.eq,sd_1 h hb,lt_no hc,if_neg (by simp)]
theorem sd_2g {x:SDx} {s:SDs} (q:SDok x) (k:SDin x s) (h:¬ (x.hi:Int)<=2*s.r+1) (hb:sdB x s=true) (hc:cmpP (s.d.toList.getD (x.f+s.r) default) (s.d.toList.getD (x.f+(2*s.r+2)) default)<0):SDin x ⟨2*s.r+1+1,Sort.swp s.d (x.f+s.r) (x.f+(2*s.r+2))⟩:=by
 have a:=(sd_2 h hb).1
 have:=q.n;have:=q.h
 refine⟨by show 2*s.r+1+1<=100;omega,by show(Sort.swp _ _ _).size=_;rw[swp_size];exact k.n,?_⟩
 rw[<- k.eq,(sd_2 h hb).2,lt_yes hc,if_pos rfl]
theorem sd_1g {x:SDx} {s:SDs} (q:SDok x) (k:SDin x s) (h:¬ (x.hi:Int)<=2*s.r+1) (hb:sdB x s=false) (hc:cmpP (s.d.toList.getD (x.f+s.r) default) (s.d.toList.getD (x.f+(2*s.r+1)) default)<0):SDin x ⟨2*s.r+1,Sort.swp s.d (x.f+s.r) (x.f+(2*s.r+1))⟩:=by
 have:=q.n;have:=q.h
 refine⟨by show 2*s.r+1<=100;omega,by show(Sort.swp _ _ _).size=_;rw[swp_size];exact k.n,?_⟩
 rw[<- k.eq,sd_1 h hb,lt_yes hc,if_pos rfl]
theorem sd_lt {x:SDx} {s:SDs} (hb:sdB x s=true):2*s.r+2<x.hi:=by
 unfold sdB at hb
 rw[Bool.and_eq_true,decide_eq_true_iff]at hb
 exact hb.1
set_option maxRecDepth 100000 in
theorem sd_keeps:Keeps cfgO2 Try.f58 sdC sdI:=Eq.mp (show((∀ x1:SDx,((SDok x1)->(∃ x3:SDs,(((SDin x1 x3)/\((((x1.lo:Int)=(x3.r:Int))/\(((x1.lo:Int)=(x1.lo:Int))/\((0=0/\(Array.size x1.d=Array.size x1.d))/\(((x1.lo:Int)=(x1.lo:Int))/\(((x1.hi:Int)=(x1.hi:Int))/\(((x1.f:Int)=(x1.f:Int))/\(True/\True)))))))/\(((RLe (Array.size x1.d) (Array.size x1.d))/\(RowsEq [.int .i64,.int .i64,.int .i64] (Array.size x1.d) (aR x1.d) (aR x3.d)))/\True)))/\(∀ x4:SDs,((SDin x1 x4)->((((-9223372036854775808:Int)<=(2:Int)*(x4.r:Int))/\((2:Int)*(x4.r:Int)<=(9223372036854775807:Int)))/\((((-9223372036854775808:Int)<=(2:Int)*(x4.r:Int)+1)/\((2:Int)*(x4.r:Int)+1<=(9223372036854775807:Int)))/\(((decide ((x1.hi:Int)<=(2:Int)*(x4.r:Int)+1)=true)->(True/\(((RLe (Array.size x1.d) (Array.size x1.d))/\(RowsEq [.int .i64,.int .i64,.int .i64] (Array.size x1.d) (aR x4.d) (aR (sdF x1.d x1.hi x1.f x1.lo))))/\True)))/\((decide ((x1.hi:Int)<=(2:Int)*(x4.r:Int)+1)=false)->(((((-9223372036854775808:Int)<=(2:Int)*(x4.r:Int)+1+1)/\((2:Int)*(x4.r:Int)+1+1<=(9223372036854775807:Int)))/\(((decide ((2:Int)*(x4.r:Int)+1+1<(x1.hi:Int))=true)->((((-9223372036854775808:Int)<=(x1.f:Int)+((2:Int)*(x4.r:Int)+1))/\((x1.f:Int)+((2:Int)*(x4.r:Int)+1)<=(9223372036854775807:Int)))/\((((0:Int)<=(x1.f:Int)+((2:Int)*(x4.r:Int)+1))/\((x1.f:Int)+((2:Int)*(x4.r:Int)+1)<(↑(Array.size x1.d):Int)))/\((0+Int.toNat ((x1.f:Int)+((2:Int)*(x4.r:Int)+1))<Array.size x1.d)/\((((-9223372036854775808:Int)<=(x1.f:Int)+((2:Int)*(x4.r:Int)+1))/\((x1.f:Int)+((2:Int)*(x4.r:Int)+1)<=(9223372036854775807:Int)))/\((((-9223372036854775808:Int)<=(x1.f:Int)+((2:Int)*(x4.r:Int)+1)+1)/\((x1.f:Int)+((2:Int)*(x4.r:Int)+1)+1<=(9223372036854775807:Int)))/\((((0:Int)<=(x1.f:Int)+((2:Int)*(x4.r:Int)+1)+1)/\((x1.f:Int)+((2:Int)*(x4.r:Int)+1)+1<(↑(Array.size x1.d):Int)))/\((0+Int.toNat ((x1.f:Int)+((2:Int)*(x4.r:Int)+1)+1)<Array.size x1.d)/\(∃ x9:P2x,(True/\((((((Array.toList x4.d).getD (0+Int.toNat ((x1.f:Int)+((2:Int)*(x4.r:Int)+1))) default).rk=x9.a.rk)/\((((Array.toList x4.d).getD (0+Int.toNat ((x1.f:Int)+((2:Int)*(x4.r:Int)+1))) default).si=x9.a.si)/\((((Array.toList x4.d).getD (0+Int.toNat ((x1.f:Int)+((2:Int)*(x4.r:Int)+1))) default).ca=x9.a.ca)/\True)))/\(((((Array.toList x4.d).getD (0+Int.toNat ((x1.f:Int)+((2:Int)*(x4.r:Int)+1)+1)) default).rk=x9.b.rk)/\((((Array.toList x4.d).getD (0+Int.toNat ((x1.f:Int)+((2:Int)*(x4.r:Int)+1)+1)) default).si=x9.b.si)/\((((Array.toList x4.d).getD (0+Int.toNat ((x1.f:Int)+((2:Int)*(x4.r:Int)+1)+1)) default).ca=x9.b.ca)/\True)))/\True))/\(True/\(∃ x10:Unit,(True/\((decide (cmpP x9.a x9.b<(0:Int))=sdB x1 x4)/\True)))))))))))))))/\((decide ((2:Int)*(x4.r:Int)+1+1<(x1.hi:Int))=false)->(∃ x12:Unit,(True/\((false=sdB x1 x4)/\True))))))/\(∀ x13:Unit,(True->(((sdB x1 x4=true)->((((-9223372036854775808:Int)<=(2:Int)*(x4.r:Int)+1+1)/\((2:Int)*(x4.r:Int)+1+1<=(9223372036854775807:Int)))/\((((-9223372036854775808:Int)<=(x1.f:Int)+(x4.r:Int))/\((x1.f:Int)+(x4.r:Int)<=(9223372036854775807:Int)))/\((((0:Int)<=(x1.f:Int)+(x4.r:Int))/\((x1.f:Int)+(x4.r:Int)<(↑(Array.size x1.d):Int)))/\((0+Int.toNat ((x1.f:Int)+(x4.r:Int))<Array.size x1.d)/\((((-9223372036854775808:Int)<=(x1.f:Int)+((2:Int)*(x4.r:Int)+1+1))/\((x1.f:Int)+((2:Int)*(x4.r:Int)+1+1)<=(9223372036854775807:Int)))/\((((0:Int)<=(x1.f:Int)+((2:Int)*(x4.r:Int)+1+1))/\((x1.f:Int)+((2:Int)*(x4.r:Int)+1+1)<(↑(Array.size x1.d):Int)))/\((0+Int.toNat ((x1.f:Int)+((2:Int)*(x4.r:Int)+1+1))<Array.size x1.d)/\(∃ x16:P2x,(True/\((((((Array.toList x4.d).getD (0+Int.toNat ((x1.f:Int)+(x4.r:Int))) default).rk=x16.a.rk)/\((((Array.toList x4.d).getD (0+Int.toNat ((x1.f:Int)+(x4.r:Int))) default).si=x16.a.si)/\((((Array.toList x4.d).getD (0+Int.toNat ((x1.f:Int)+(x4.r:Int))) default).ca=x16.a.ca)/\True)))/\(((((Array.toList x4.d).getD (0+Int.toNat ((x1.f:Int)+((2:Int)*(x4.r:Int)+1+1))) default).rk=x16.b.rk)/\((((Array.toList x4.d).getD (0+Int.toNat ((x1.f:Int)+((2:Int)*(x4.r:Int)+1+1))) default).si=x16.b.si)/\((((Array.toList x4.d).getD (0+Int.toNat ((x1.f:Int)+((2:Int)*(x4.r:Int)+1+1))) default).ca=x16.b.ca)/\True)))/\True))/\(True/\((((!decide (cmpP x16.a x16.b<(0:Int)))=true)->(True/\(((RLe (Array.size x1.d) (Array.size x1.d))/\(RowsEq [.int .i64,.int .i64,.int .i64] (Array.size x1.d) (aR x4.d) (aR (sdF x1.d x1.hi x1.f x1.lo))))/\True)))/\(((!decide (cmpP x16.a x16.b<(0:Int)))=false)->((((-9223372036854775808:Int)<=(x1.f:Int)+(x4.r:Int))/\((x1.f:Int)+(x4.r:Int)<=(9223372036854775807:Int)))/\((((-9223372036854775808:Int)<=(x1.f:Int)+((2:Int)*(x4.r:Int)+1+1))/\((x1.f:Int)+((2:Int)*(x4.r:Int)+1+1)<=(9223372036854775807:Int)))/\((((-9223372036854775808:Int)<=(x1.f:Int)+((2:Int)*(x4.r:Int)+1+1))/\((x1.f:Int)+((2:Int)*(x4.r:Int)+1+1)<=(9223372036854775807:Int)))/\((((0:Int)<=(x1.f:Int)+((2:Int)*(x4.r:Int)+1+1))/\((x1.f:Int)+((2:Int)*(x4.r:Int)+1+1)<(↑(Array.size x1.d):Int)))/\((0+Int.toNat ((x1.f:Int)+((2:Int)*(x4.r:Int)+1+1))<Array.size x1.d)/\((((-9223372036854775808:Int)<=(x1.f:Int)+(x4.r:Int))/\((x1.f:Int)+(x4.r:Int)<=(9223372036854775807:Int)))/\((((0:Int)<=(x1.f:Int)+(x4.r:Int))/\((x1.f:Int)+(x4.r:Int)<(↑(Array.size x1.d):Int)))/\((0+Int.toNat ((x1.f:Int)+(x4.r:Int))<Array.size x1.d)/\((((0:Int)<=(x1.f:Int)+(x4.r:Int))/\((x1.f:Int)+(x4.r:Int)<(↑(Array.size x1.d):Int)))/\(((0+Int.toNat ((x1.f:Int)+(x4.r:Int))<Array.size x1.d)/\(True/\(True/\(True/\True))))/\((((0:Int)<=(x1.f:Int)+((2:Int)*(x4.r:Int)+1+1))/\((x1.f:Int)+((2:Int)*(x4.r:Int)+1+1)<(↑(Array.size x1.d):Int)))/\(((0+Int.toNat ((x1.f:Int)+((2:Int)*(x4.r:Int)+1+1))<Array.size x1.d)/\(True/\(True/\(True/\True))))/\(∃ x19:SDs,(((1000:Nat)-x19.r<(1000:Nat)-x4.r)/\((SDin x1 x19)/\((((2:Int)*(x4.r:Int)+1+1=(x19.r:Int))/\(((x1.lo:Int)=(x1.lo:Int))/\((0=0/\(Array.size x1.d=Array.size x1.d))/\(((x1.lo:Int)=(x1.lo:Int))/\(((x1.hi:Int)=(x1.hi:Int))/\(((x1.f:Int)=(x1.f:Int))/\(True/\True)))))))/\(((RLe (Array.size x1.d) (Array.size x1.d))/\(RowsEq [.int .i64,.int .i64,.int .i64] (Array.size x1.d) (setRow (setRow (aR x4.d) (0+Int.toNat ((x1.f:Int)+(x4.r:Int))) 0 (D.i ((Array.toList x4.d).getD (0+Int.toNat ((x1.f:Int)+((2:Int)*(x4.r:Int)+1+1))) default).rk::D.i ((Array.toList x4.d).getD (0+Int.toNat ((x1.f:Int)+((2:Int)*(x4.r:Int)+1+1))) default).si::D.i ((Array.toList x4.d).getD (0+Int.toNat ((x1.f:Int)+((2:Int)*(x4.r:Int)+1+1))) default).ca::@List.nil D)) (0+Int.toNat ((x1.f:Int)+((2:Int)*(x4.r:Int)+1+1))) 0 (D.i ((Array.toList x4.d).getD (0+Int.toNat ((x1.f:Int)+(x4.r:Int))) default).rk::D.i ((Array.toList x4.d).getD (0+Int.toNat ((x1.f:Int)+(x4.r:Int))) default).si::D.i ((Array.toList x4.d).getD (0+Int.toNat ((x1.f:Int)+(x4.r:Int))) default).ca::@List.nil D)) (aR x19.d)))/\True)))))))))))))))))))))))))))))))/\((sdB x1 x4=false)->((((-9223372036854775808:Int)<=(x1.f:Int)+(x4.r:Int))/\((x1.f:Int)+(x4.r:Int)<=(9223372036854775807:Int)))/\((((0:Int)<=(x1.f:Int)+(x4.r:Int))/\((x1.f:Int)+(x4.r:Int)<(↑(Array.size x1.d):Int)))/\((0+Int.toNat ((x1.f:Int)+(x4.r:Int))<Array.size x1.d)/\((((-9223372036854775808:Int)<=(x1.f:Int)+((2:Int)*(x4.r:Int)+1))/\((x1.f:Int)+((2:Int)*(x4.r:Int)+1)<=(9223372036854775807:Int)))/\((((0:Int)<=(x1.f:Int)+((2:Int)*(x4.r:Int)+1))/\((x1.f:Int)+((2:Int)*(x4.r:Int)+1)<(↑(Array.size x1.d):Int)))/\((0+Int.toNat ((x1.f:Int)+((2:Int)*(x4.r:Int)+1))<Array.size x1.d)/\(∃ x21:P2x,(True/\((((((Array.toList x4.d).getD (0+Int.toNat ((x1.f:Int)+(x4.r:Int))) default).rk=x21.a.rk)/\((((Array.toList x4.d).getD (0+Int.toNat ((x1.f:Int)+(x4.r:Int))) default).si=x21.a.si)/\((((Array.toList x4.d).getD (0+Int.toNat ((x1.f:Int)+(x4.r:Int))) default).ca=x21.a.ca)/\True)))/\(((((Array.toList x4.d).getD (0+Int.toNat ((x1.f:Int)+((2:Int)*(x4.r:Int)+1))) default).rk=x21.b.rk)/\((((Array.toList x4.d).getD (0+Int.toNat ((x1.f:Int)+((2:Int)*(x4.r:Int)+1))) default).si=x21.b.si)/\((((Array.toList x4.d).getD (0+Int.toNat ((x1.f:Int)+((2:Int)*(x4.r:Int)+1))) default).ca=x21.b.ca)/\True)))/\True))/\(True/\((((!decide (cmpP x21.a x21.b<(0:Int)))=true)->(True/\(((RLe (Array.size x1.d) (Array.size x1.d))/\(RowsEq [.int .i64,.int .i64,.int .i64] (Array.size x1.d) (aR x4.d) (aR (sdF x1.d x1.hi x1.f x1.lo))))/\True)))/\(((!decide (cmpP x21.a x21.b<(0:Int)))=false)->((((-9223372036854775808:Int)<=(x1.f:Int)+(x4.r:Int))/\((x1.f:Int)+(x4.r:Int)<=(9223372036854775807:Int)))/\((((-9223372036854775808:Int)<=(x1.f:Int)+((2:Int)*(x4.r:Int)+1))/\((x1.f:Int)+((2:Int)*(x4.r:Int)+1)<=(9223372036854775807:Int)))/\((((-9223372036854775808:Int)<=(x1.f:Int)+((2:Int)*(x4.r:Int)+1))/\((x1.f:Int)+((2:Int)*(x4.r:Int)+1)<=(9223372036854775807:Int)))/\((((0:Int)<=(x1.f:Int)+((2:Int)*(x4.r:Int)+1))/\((x1.f:Int)+((2:Int)*(x4.r:Int)+1)<(↑(Array.size x1.d):Int)))/\((0+Int.toNat ((x1.f:Int)+((2:Int)*(x4.r:Int)+1))<Array.size x1.d)/\((((-9223372036854775808:Int)<=(x1.f:Int)+(x4.r:Int))/\((x1.f:Int)+(x4.r:Int)<=(9223372036854775807:Int)))/\((((0:Int)<=(x1.f:Int)+(x4.r:Int))/\((x1.f:Int)+(x4.r:Int)<(↑(Array.size x1.d):Int)))/\((0+Int.toNat ((x1.f:Int)+(x4.r:Int))<Array.size x1.d)/\((((0:Int)<=(x1.f:Int)+(x4.r:Int))/\((x1.f:Int)+(x4.r:Int)<(↑(Array.size x1.d):Int)))/\(((0+Int.toNat ((x1.f:Int)+(x4.r:Int))<Array.size x1.d)/\(True/\(True/\(True/\True))))/\((((0:Int)<=(x1.f:Int)+((2:Int)*(x4.r:Int)+1))/\((x1.f:Int)+((2:Int)*(x4.r:Int)+1)<(↑(Array.size x1.d):Int)))/\(((0+Int.toNat ((x1.f:Int)+((2:Int)*(x4.r:Int)+1))<Array.size x1.d)/\(True/\(True/\(True/\True))))/\(∃ x24:SDs,(((1000:Nat)-x24.r<(1000:Nat)-x4.r)/\((SDin x1 x24)/\((((2:Int)*(x4.r:Int)+1=(x24.r:Int))/\(((x1.lo:Int)=(x1.lo:Int))/\((0=0/\(Array.size x1.d=Array.size x1.d))/\(((x1.lo:Int)=(x1.lo:Int))/\(((x1.hi:Int)=(x1.hi:Int))/\(((x1.f:Int)=(x1.f:Int))/\(True/\True)))))))/\(((RLe (Array.size x1.d) (Array.size x1.d))/\(RowsEq [.int .i64,.int .i64,.int .i64] (Array.size x1.d) (setRow (setRow (aR x4.d) (0+Int.toNat ((x1.f:Int)+(x4.r:Int))) 0 (D.i ((Array.toList x4.d).getD (0+Int.toNat ((x1.f:Int)+((2:Int)*(x4.r:Int)+1))) default).rk::D.i ((Array.toList x4.d).getD (0+Int.toNat ((x1.f:Int)+((2:Int)*(x4.r:Int)+1))) default).si::D.i ((Array.toList x4.d).getD (0+Int.toNat ((x1.f:Int)+((2:Int)*(x4.r:Int)+1))) default).ca::@List.nil D)) (0+Int.toNat ((x1.f:Int)+((2:Int)*(x4.r:Int)+1))) 0 (D.i ((Array.toList x4.d).getD (0+Int.toNat ((x1.f:Int)+(x4.r:Int))) default).rk::D.i ((Array.toList x4.d).getD (0+Int.toNat ((x1.f:Int)+(x4.r:Int))) default).si::D.i ((Array.toList x4.d).getD (0+Int.toNat ((x1.f:Int)+(x4.r:Int))) default).ca::@List.nil D)) (aR x24.d)))/\True)))))))))))))))))))))))))))))))))))))))))))))=(Keeps cfgO2 Try.f58 sdC sdI) by kernel_rfl) (fun x1=>fun h2=>⟨({ r:=SDx.lo x1,d:=SDx.d x1:SDs }),
⟨(by(try dsimp only at *);exact⟨h2.lo,rfl,rfl⟩),
⟨rfl,rfl,
⟨rfl,rfl⟩,rfl,rfl,rfl,trivial,trivial⟩,
⟨rl,rr⟩,trivial⟩,
fun x4=>fun h5=>⟨⟨(by(try dsimp only at *);omega),
(by(try dsimp only at *);(have:=h5.r;have:=h5.n;have:=h2.n;have:=h2.h;omega))⟩,
⟨(by(try dsimp only at *);omega),
(by(try dsimp only at *);(have:=h5.r;have:=h5.n;have:=h2.n;have:=h2.h;omega))⟩,
fun g6=>have h6:=dT g6;⟨trivial,
⟨rl,
(by(try dsimp only at *);(rw[<- h5.eq,sd_end h6];exact rr))⟩,trivial⟩,
fun g7=>have h7:=dF g7;⟨⟨⟨(by(try dsimp only at *);omega),
(by(try dsimp only at *);(have:=h2.n;have:=h2.h;have:=h2.lo;omega))⟩,
fun g8=>have h8:=dT g8;⟨⟨(by(try dsimp only at *);omega),
(by(try dsimp only at *);(have:=h2.n;have:=h2.h;have:=h2.lo;omega))⟩,
⟨(by(try dsimp only at *);omega),
(by(try dsimp only at *);(have:=h2.n;have:=h2.h;have:=h2.lo;omega))⟩,
(by(try dsimp only at *);(have:=h2.n;have:=h2.h;have:=h2.lo;omega)),
⟨(by(try dsimp only at *);omega),
(by(try dsimp only at *);(have:=h2.n;have:=h2.h;have:=h2.lo;omega))⟩,
⟨(by(try dsimp only at *);omega),
(by(try dsimp only at *);(have:=h2.n;have:=h2.h;have:=h2.lo;omega))⟩,
⟨(by(try dsimp only at *);omega),
(by(try dsimp only at *);(have:=h2.n;have:=h2.h;have:=h2.lo;omega))⟩,
(by(try dsimp only at *);(have:=h2.n;have:=h2.h;have:=h2.lo;omega)),
({ a:=List.getD (Array.toList (SDs.d x4)) ((0:Nat)+Int.toNat ((↑(SDx.f x1):Int)+((2:Int)*(↑(SDs.r x4):Int)+(1:Int)))) default,b:=List.getD (Array.toList (SDs.d x4)) ((0:Nat)+Int.toNat ((↑(SDx.f x1):Int)+((2:Int)*(↑(SDs.r x4):Int)+(1:Int))+(1:Int))) default:P2x }),trivial,
⟨⟨rfl,rfl,rfl,trivial⟩,
⟨rfl,rfl,rfl,trivial⟩,trivial⟩,trivial,
(default),trivial,
(by(try dsimp only at *);(simp only[ix2,ix3]at *;exact sdB_dec h8)),trivial⟩,
fun g11=>have h11:=dF g11;⟨(default),trivial,
(by(try dsimp only at *);exact(sdB_no1 ‹_›).symm),trivial⟩⟩,
fun x13=>fun h14=>⟨fun h15=>⟨⟨(by(try dsimp only at *);omega),
(by(try dsimp only at *);(have:=h2.n;have:=h2.h;have:=h2.lo;omega))⟩,
⟨(by(try dsimp only at *);omega),
(by(try dsimp only at *);(have:=h2.n;have:=h2.h;have:=h2.lo;omega))⟩,
⟨(by(try dsimp only at *);omega),
(by(try dsimp only at *);(have:=h2.n;have:=h2.h;have:=h2.lo;omega))⟩,
(by(try dsimp only at *);(have:=h2.n;have:=h2.h;have:=h2.lo;omega)),
⟨(by(try dsimp only at *);omega),
(by(try dsimp only at *);(have:=h2.n;have:=h2.h;have:=h2.lo;omega))⟩,
⟨(by(try dsimp only at *);omega),
(by(try dsimp only at *);(have:=sd_lt h15;have:=h2.n;have:=h2.h;omega))⟩,
(by(try dsimp only at *);(have:=sd_lt h15;have:=h2.n;have:=h2.h;omega)),
({ a:=List.getD (Array.toList (SDs.d x4)) ((0:Nat)+Int.toNat ((↑(SDx.f x1):Int)+(↑(SDs.r x4):Int))) default,b:=List.getD (Array.toList (SDs.d x4)) ((0:Nat)+Int.toNat ((↑(SDx.f x1):Int)+((2:Int)*(↑(SDs.r x4):Int)+(1:Int)+(1:Int)))) default:P2x }),trivial,
⟨⟨rfl,rfl,rfl,trivial⟩,
⟨rfl,rfl,rfl,trivial⟩,trivial⟩,trivial,
fun g17=>have h17:=nT g17;⟨trivial,
⟨rl,
(by(try dsimp only at *);(simp only[ix1,ix4]at *;rw[<- sd_2s h5 h7 h15 h17];exact rr))⟩,trivial⟩,
fun g18=>have h18:=nF g18;⟨⟨(by(try dsimp only at *);omega),
(by(try dsimp only at *);(have:=h2.n;have:=h2.h;have:=h2.lo;omega))⟩,
⟨(by(try dsimp only at *);omega),
(by(try dsimp only at *);(have:=h2.n;have:=h2.h;have:=h2.lo;omega))⟩,
⟨(by(try dsimp only at *);omega),
(by(try dsimp only at *);(have:=h2.n;have:=h2.h;have:=h2.lo;omega))⟩,
⟨(by(try dsimp only at *);omega),
(by(try dsimp only at *);(have:=sd_lt h15;have:=h2.n;have:=h2.h;omega))⟩,
(by(try dsimp only at *);(have:=sd_lt h15;have:=h2.n;have:=h2.h;omega)),
⟨(by(try dsimp only at *);omega),
(by(try dsimp only at *);(have:=h2.n;have:=h2.h;have:=h2.lo;omega))⟩,
⟨(by(try dsimp only at *);omega),
(by(try dsimp only at *);(have:=h2.n;have:=h2.h;have:=h2.lo;omega))⟩,
(by(try dsimp only at *);(have:=h2.n;have:=h2.h;have:=h2.lo;omega)),
⟨(by(try dsimp only at *);omega),
(by(try dsimp only at *);(have:=h2.n;have:=h2.h;have:=h2.lo;omega))⟩,
⟨(by(try dsimp only at *);(have:=h2.n;have:=h2.h;have:=h2.lo;omega)),trivial,trivial,trivial,trivial⟩,
⟨(by(try dsimp only at *);omega),
(by(try dsimp only at *);(have:=sd_lt h15;have:=h2.n;have:=h2.h;omega))⟩,
⟨(by(try dsimp only at *);(have:=sd_lt h15;have:=h2.n;have:=h2.h;omega)),trivial,trivial,trivial,trivial⟩,
({ r:=(2:Nat)*SDs.r x4+(1:Nat)+(1:Nat),d:= Sort.swp (SDs.d x4) (SDx.f x1+SDs.r x4) (SDx.f x1+((2:Nat)*SDs.r x4+(2:Nat))):SDs }),
(by(try dsimp only at *);(have:=h2.n;have:=h2.h;have:=h2.lo;omega)),
(by(try dsimp only at *);(simp only[ix1,ix4]at *;exact sd_2g h2 h5 h7 h15 h18)),
⟨(by(try dsimp only at *);omega),rfl,
⟨rfl,rfl⟩,rfl,rfl,rfl,trivial,trivial⟩,
⟨rl,
(by(try dsimp only at *);(simp only[ix1,ix4]at *;have:=sd_lt h15;have:=h2.h;exact swp_rowsT h5.n (by omega) (by omega)))⟩,trivial⟩⟩,
fun h20=>⟨⟨(by(try dsimp only at *);omega),
(by(try dsimp only at *);(have:=h2.n;have:=h2.h;have:=h2.lo;omega))⟩,
⟨(by(try dsimp only at *);omega),
(by(try dsimp only at *);(have:=h2.n;have:=h2.h;have:=h2.lo;omega))⟩,
(by(try dsimp only at *);(have:=h2.n;have:=h2.h;have:=h2.lo;omega)),
⟨(by(try dsimp only at *);omega),
(by(try dsimp only at *);(have:=h2.n;have:=h2.h;have:=h2.lo;omega))⟩,
⟨(by(try dsimp only at *);omega),
(by(try dsimp only at *);(have:=h2.n;have:=h2.h;have:=h2.lo;omega))⟩,
(by(try dsimp only at *);(have:=h2.n;have:=h2.h;have:=h2.lo;omega)),
({ a:=List.getD (Array.toList (SDs.d x4)) ((0:Nat)+Int.toNat ((↑(SDx.f x1):Int)+(↑(SDs.r x4):Int))) default,b:=List.getD (Array.toList (SDs.d x4)) ((0:Nat)+Int.toNat ((↑(SDx.f x1):Int)+((2:Int)*(↑(SDs.r x4):Int)+(1:Int)))) default:P2x }),trivial,
⟨⟨rfl,rfl,rfl,trivial⟩,
⟨rfl,rfl,rfl,trivial⟩,trivial⟩,trivial,
fun g22=>have h22:=nT g22;⟨trivial,
⟨rl,
(by(try dsimp only at *);(simp only[ix1,ix2]at *;rw[<- sd_1s h5 h7 h20 h22];exact rr))⟩,trivial⟩,
fun g23=>have h23:=nF g23;⟨⟨(by(try dsimp only at *);omega),
(by(try dsimp only at *);(have:=h2.n;have:=h2.h;have:=h2.lo;omega))⟩,
⟨(by(try dsimp only at *);omega),
(by(try dsimp only at *);(have:=h2.n;have:=h2.h;have:=h2.lo;omega))⟩,
⟨(by(try dsimp only at *);omega),
(by(try dsimp only at *);(have:=h2.n;have:=h2.h;have:=h2.lo;omega))⟩,
⟨(by(try dsimp only at *);omega),
(by(try dsimp only at *);(have:=h2.n;have:=h2.h;have:=h2.lo;omega))⟩,
(by(try dsimp only at *);(have:=h2.n;have:=h2.h;have:=h2.lo;omega)),
⟨(by(try dsimp only at *);omega),
(by(try dsimp only at *);(have:=h2.n;have:=h2.h;have:=h2.lo;omega))⟩,
⟨(by(try dsimp only at *);omega),
(by(try dsimp only at *);(have:=h2.n;have:=h2.h;have:=h2.lo;omega))⟩,
(by(try dsimp only at *);(have:=h2.n;have:=h2.h;have:=h2.lo;omega)),
⟨(by(try dsimp only at *);omega),
(by(try dsimp only at *);(have:=h2.n;have:=h2.h;have:=h2.lo;omega))⟩,
⟨(by(try dsimp only at *);(have:=h2.n;have:=h2.h;have:=h2.lo;omega)),trivial,trivial,trivial,trivial⟩,
⟨(by(try dsimp only at *);omega),
(by(try dsimp only at *);(have:=h2.n;have:=h2.h;have:=h2.lo;omega))⟩,
⟨(by(try dsimp only at *);(have:=h2.n;have:=h2.h;have:=h2.lo;omega)),trivial,trivial,trivial,trivial⟩,
({ r:=(2:Nat)*SDs.r x4+(1:Nat),d:= Sort.swp (SDs.d x4) (SDx.f x1+SDs.r x4) (SDx.f x1+((2:Nat)*SDs.r x4+(1:Nat))):SDs }),
(by(try dsimp only at *);(have:=h2.n;have:=h2.h;have:=h2.lo;omega)),
(by(try dsimp only at *);(simp only[ix1,ix2]at *;exact sd_1g h2 h5 h7 h20 h23)),
⟨(by(try dsimp only at *);omega),rfl,
⟨rfl,rfl⟩,rfl,rfl,rfl,trivial,trivial⟩,
⟨rl,
(by(try dsimp only at *);(simp only[ix1,ix2]at *;have:=h2.h;exact swp_rowsT h5.n (by omega) (by omega)))⟩,trivial⟩⟩⟩⟩⟩⟩)
theorem sd_good:Good Try.prog 58 sdC/\FnOk Try.prog 58:=good_of tok conO2 (fn:=Try.f58) rfl (by decide+kernel) (fun _=>rfl) sd_keeps
end Go.Sym