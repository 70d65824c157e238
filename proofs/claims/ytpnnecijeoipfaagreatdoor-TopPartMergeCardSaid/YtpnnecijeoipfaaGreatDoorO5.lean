import Derived.Test.YtpnnecijeoipfaaGreatDoorO4
import Derived.Test.YtpnnecijeoipfaaGreatDoorJ0
import Derived.Test.YtpnnecijeoipfaaGreatDoorXD
namespace Go.Sym
set_option linter.unusedVariables false
set_option linter.unusedSimpArgs false
open Go.Proofs
set_option maxRecDepth 100000
set_option maxHeartbeats 4000000
def nanC:CT where
 X:=Int
 pre:=fun _=>True
 args:=fun a=>[.i .i64 a]
 g0:=fun _=>[]
 res:=fun _=>.b false
 g1:=fun _=>[]
set_option maxRecDepth 100000 in
theorem nan_keeps:Keeps cfgN0 Tryz.f90 nanC noIv:=Eq.mp (show((∀ x1:Int,(True->((decide (x1≠x1)=false)/\True))))=(Keeps cfgN0 Tryz.f90 nanC noIv) by kernel_rfl) (fun x1=>fun h2=>⟨(by grind),trivial⟩)
theorem nan_good:Good Tryz.prog 90 nanC/\FnOk Tryz.prog 90:=good_of tok conN0 (fn:=Tryz.f90) rfl (by decide+kernel) (fun _=>rfl) nan_keeps
structure I2x where
 a:Int
 b:Int
def cmpI (a b:Int):Int:=if a<b then -1 else if b<a then 1 else 0
theorem cmp_lt {a b:Int} (h:a<b):cmpI a b= -1:=if_pos h
theorem cmp_gt {a b:Int} (h:¬ a<b) (h2:b<a):cmpI a b=1:=by unfold cmpI;rw[if_neg h,if_pos h2]
theorem cmp_eq {a b:Int} (h:¬ a<b) (h2:¬ b<a):cmpI a b=0:=by unfold cmpI;rw[if_neg h,if_neg h2]
theorem cmp_neg {a b:Int}:cmpI a b<0↔a<b:=by unfold cmpI;split <;>(try split) <;>omega
def cmpC:CT where
 X:=I2x
 pre:=fun _=>True
 args:=fun x=>[.i .i64 x.a,.i .i64 x.b]
 g0:=fun _=>[]
 res:=fun x=>.i .i64 (cmpI x.a x.b)
 g1:=fun _=>[]
def cfgJ1:Cfg:=⟨T,[],[(90,.one nanC)],noInv,20,{}⟩
theorem conJ1:ConOk Tryz.prog cfgJ1:=ConL.ok (.cons (ConL.one nan_good) .nil)
set_option maxRecDepth 100000 in
theorem cmp_keeps:Keeps cfgJ1 Tryz.f66 cmpC noIv:=Eq.mp (show((∀ x1:I2x,(True->(∃ x3:Int,(True/\((x1.a=x3/\True)/\(True/\(∃ x4:Int,(True/\((x1.b=x4/\True)/\(True/\((false=true->((false=true->(((0:Int)=cmpI x1.a x1.b)/\True))/\(false=false->(((-1:Int)=cmpI x1.a x1.b)/\True))))/\(false=false->((false=true->(((1:Int)=cmpI x1.a x1.b)/\True))/\(false=false->(((decide (x1.a<x1.b)=true)->(((-1:Int)=cmpI x1.a x1.b)/\True))/\((decide (x1.a<x1.b)=false)->(((decide (x1.b<x1.a)=true)->(((1:Int)=cmpI x1.a x1.b)/\True))/\((decide (x1.b<x1.a)=false)->(((0:Int)=cmpI x1.a x1.b)/\True))))))))))))))))))))=(Keeps cfgJ1 Tryz.f66 cmpC noIv) by kernel_rfl) (fun x1=>fun h2=>⟨(I2x.a x1),trivial,
⟨rfl,trivial⟩,trivial,
(I2x.b x1),trivial,
⟨rfl,trivial⟩,trivial,
fun h5=>⟨fun h6=>⟨(by(try dsimp only at *);grind),trivial⟩,
fun h7=>⟨(by(try dsimp only at *);grind),trivial⟩⟩,
fun h8=>⟨fun h9=>⟨(by(try dsimp only at *);grind),trivial⟩,
fun h10=>⟨fun g11=>have h11:=dT g11;⟨(by(try dsimp only at *);exact(cmp_lt ‹_›).symm),trivial⟩,
fun g12=>have h12:=dF g12;⟨fun g13=>have h13:=dT g13;⟨(by(try dsimp only at *);exact(cmp_gt ‹_› ‹_›).symm),trivial⟩,
fun g14=>have h14:=dF g14;⟨(by(try dsimp only at *);exact(cmp_eq ‹_› ‹_›).symm),trivial⟩⟩⟩⟩⟩)
theorem cmp_good:Good Tryz.prog 66 cmpC/\FnOk Tryz.prog 66:=good_of tok conJ1 (fn:=Tryz.f66) rfl (by decide+kernel) (fun _=>rfl) cmp_keeps
def or2 (a b:Int):Int:=if a≠0 then a else b
def or2C:CT where
 X:=I2x
 pre:=fun _=>True
 args:=fun x=>[.sl 100000 0 2]
 g0:=fun x=>[(100000,.rows .bor k1 2 (encL encI [x.a,x.b]))]
 res:=fun x=>.i .i64 (or2 x.a x.b)
 g1:=fun _=>[]
structure Or2I (x:I2x) (k:Nat):Prop where
 le:k<=2
 z:1<=k->x.a=0
 z2:2<=k->x.b=0
def or2I (x:I2x) (id:Nat):Option Inv:=match id with
 |0=>some { X:=Nat,ok:=fun k=>Or2I x k,fr:=fun k=>[(8,.i .i64 k),(3,.i .i64 0)],hp:=fun _=>[],me:=fun k=>2-k }
 |_=>none
theorem or2_yes {x:I2x} {k:Nat} (h:Or2I x k) (hk:(k:Int)<2) (hn:[x.a,x.b].getD (0+(k:Int).toNat) default≠0):[x.a,x.b].getD (0+(k:Int).toNat) default=or2 x.a x.b:=by
 rw[nat0]at*
 rcases(show k=0∨k=1 by omega)with e|e <;>subst e
 ·exact(if_pos hn).symm
 ·have:=h.z (Nat.le_refl _);unfold or2;rw[if_neg (fun q=>q this)];rfl
theorem or2_no {x:I2x} {k:Nat} (h:Or2I x k) (hk:(k:Int)<2) (hn:¬ [x.a,x.b].getD (0+(k:Int).toNat) default≠0):Or2I x (k+1):=by
 rw[nat0]at*
 rcases(show k=0∨k=1 by omega)with e|e <;>subst e
 ·exact⟨by omega,fun _=>Classical.not_not.1 hn,fun q=>by omega⟩
 ·exact⟨by omega,fun _=>h.z (Nat.le_refl _),fun _=>Classical.not_not.1 hn⟩
theorem or2_end {x:I2x} {k:Nat} (h:Or2I x k) (hk:¬ (k:Int)<2):(0:Int)=or2 x.a x.b:=by
 unfold or2
 have:=h.le
 rw[if_neg (fun q=>q (h.z (by omega))),h.z2 (by omega)]
set_option maxRecDepth 100000 in
theorem or2_keeps:Keeps cfgN0 Tryz.f65 or2C or2I:=Eq.mp (show((∀ x1:I2x,(True->(∃ x3:Nat,(((Or2I x1 x3)/\(((0=(x3:Int))/\(((0:Int)=0)/\(((↑(2:Nat):Int)=(↑(2:Nat):Int))/\((0=0/\((2:Nat)=(2:Nat)))/\((0=0/\((2:Nat)=(2:Nat)))/\True)))))/\((RLe 2 2/\(RI 2 (x1.a::x1.b::@List.nil Int) (x1.a::x1.b::@List.nil Int)))/\True)))/\(∀ x4:Nat,((Or2I x1 x4)->(((decide ((x4:Int)<(↑(2:Nat):Int))=true)->((((0:Int)<=(x4:Int))/\((x4:Int)<(↑(2:Nat):Int)))/\((0+Int.toNat (x4:Int)<(2:Nat))/\(((decide ((x1.a::x1.b::@List.nil Int).getD (0+Int.toNat (x4:Int)) default≠(0:Int))=true)->(((x1.a::x1.b::@List.nil Int).getD (0+Int.toNat (x4:Int)) default=or2 x1.a x1.b)/\True))/\((decide ((x1.a::x1.b::@List.nil Int).getD (0+Int.toNat (x4:Int)) default≠(0:Int))=false)->((((-9223372036854775808:Int)<=(x4:Int)+1)/\((x4:Int)+1<=(9223372036854775807:Int)))/\(∃ x9:Nat,(((2:Nat)-x9<(2:Nat)-x4)/\((Or2I x1 x9)/\((((x4:Int)+1=(x9:Int))/\(((0:Int)=0)/\(((↑(2:Nat):Int)=(↑(2:Nat):Int))/\((0=0/\((2:Nat)=(2:Nat)))/\((0=0/\((2:Nat)=(2:Nat)))/\True)))))/\((RLe 2 2/\(RI 2 (x1.a::x1.b::@List.nil Int) (x1.a::x1.b::@List.nil Int)))/\True)))))))))))/\((decide ((x4:Int)<(↑(2:Nat):Int))=false)->(((0:Int)=or2 x1.a x1.b)/\True))))))))))=(Keeps cfgN0 Tryz.f65 or2C or2I) by kernel_rfl) (fun x1=>fun h2=>⟨((0:Nat)),
⟨(by(try dsimp only at *);exact⟨by omega,fun q=>by omega,fun q=>by omega⟩),
⟨(by(try dsimp only at *);omega),rfl,rfl,
⟨rfl,rfl⟩,
⟨rfl,rfl⟩,trivial⟩,
⟨rl,rr⟩,trivial⟩,
fun x4=>fun h5=>⟨fun g6=>have h6:=dT g6;⟨⟨(by(try dsimp only at *);omega),
(by(try dsimp only at *);omega)⟩,
(by(try dsimp only at *);omega),
fun g7=>have h7:=dT g7;⟨(by(try dsimp only at *);exact or2_yes h5 (by omega) ‹_›),trivial⟩,
fun g8=>have h8:=dF g8;⟨⟨(by(try dsimp only at *);omega),
(by(try dsimp only at *);omega)⟩,
(x4+(1:Nat)),
(by(try dsimp only at *);omega),
(by(try dsimp only at *);exact or2_no h5 (by omega) ‹_›),
⟨(by(try dsimp only at *);omega),rfl,rfl,
⟨rfl,rfl⟩,
⟨rfl,rfl⟩,trivial⟩,
⟨rl,rr⟩,trivial⟩⟩,
fun g10=>have h10:=dF g10;⟨(by(try dsimp only at *);exact or2_end h5 (by omega)),trivial⟩⟩⟩)
theorem or2_good:Good Tryz.prog 65 or2C/\FnOk Tryz.prog 65:=good_of tok conN0 (fn:=Tryz.f65) rfl (by decide+kernel) (fun _=>rfl) or2_keeps
structure CCx where
 a:CR
 b:CR
def ccC:CT where
 X:=CCx
 pre:=fun _=>True
 args:=fun x=>[crV x.a 100000,crV x.b 100001]
 g0:=fun x=>crH x.a .bor 100000++crH x.b .bor 100001
 res:=fun x=>.i .i64 (cmpI x.a.call x.b.call)
 g1:=fun _=>[]
theorem lit2 (a b:Int):RowsEq k1 2 (litRows [[.i a],[.i b]]) (encL encI [a,b]):=
 ⟨fun r hr=>by rcases(show r=0∨r=1 by omega)with e|e <;>subst e <;>exact⟨rfl,trivial⟩⟩
theorem or2_zero (b:Int):or2 (cmpI 0 0) b=b:=if_neg (fun q=>q rfl)
def cfgCC:Cfg:=⟨T,[],[(66,.one cmpC),(65,.one or2C)],noInv,20,{}⟩
theorem conCC:ConOk Tryz.prog cfgCC:=ConL.ok (.cons (ConL.one cmp_good) (.cons (ConL.one or2_good) .nil))
set_option maxRecDepth 100000 in
theorem cc_keeps:Keeps cfgCC Tryz.f64 ccC noIv:=Eq.mp (show((∀ x1:CCx,(True->(∃ x3:I2x,(True/\((0=x3.a/\(0=x3.b/\True))/\(True/\(∃ x4:I2x,(True/\((x1.a.call=x4.a/\(x1.b.call=x4.b/\True))/\(True/\(((True/\True)/\((True/\True)/\True))/\(∃ x5:I2x,(True/\(((0=0/\((2:Nat)=(2:Nat)))/\True)/\(((RLe 2 2/\(RowsEq [.int .i64] 2 (litRows ((D.i (cmpI x3.a x3.b)::@List.nil D)::(D.i (cmpI x4.a x4.b)::@List.nil D)::@List.nil (List D))) (encL encI (x5.a::x5.b::@List.nil Int))))/\True)/\((or2 x5.a x5.b=cmpI x1.a.call x1.b.call)/\True)))))))))))))))))=(Keeps cfgCC Tryz.f64 ccC noIv) by kernel_rfl) (fun x1=>fun h2=>⟨({ a:=(0:Int),b:=(0:Int):I2x }),trivial,
⟨rfl,rfl,trivial⟩,trivial,
({ a:=CR.call (CCx.a x1),b:=CR.call (CCx.b x1):I2x }),trivial,
⟨rfl,rfl,trivial⟩,trivial,
⟨⟨trivial,trivial⟩,
⟨trivial,trivial⟩,trivial⟩,
({ a:=cmpI (0:Int) (0:Int),b:=cmpI (CR.call (CCx.a x1)) (CR.call (CCx.b x1)):I2x }),trivial,
⟨⟨rfl,rfl⟩,trivial⟩,
⟨⟨rl,
(by(try dsimp only at *);exact lit2 _ _)⟩,trivial⟩,
(by(try dsimp only at *);exact or2_zero _),trivial⟩)
theorem cc_good:Good Tryz.prog 64 ccC/\FnOk Tryz.prog 64:=good_of tok conCC (fn:=Tryz.f64) rfl (by decide+kernel) (fun _=>rfl) cc_keeps
theorem gA (d:Array CR) (i:Nat):d[i]! =d.toList.getD i default:=by
 rw[List.getD_eq_getElem?_getD,Array.getElem?_toList]
 by_cases h:i<d.size
 ·rw[getElem!_pos d i h,Array.getElem?_eq_getElem h];rfl
 ·rw[getElem!_neg d i h,Array.getElem?_eq_none (by omega)];rfl
theorem ltC_iff (a b:CR):ltC a b=true↔cmpI a.call b.call<0:=by unfold ltC;rw[decide_eq_true_eq,cmp_neg]
theorem swp_size (d:Array CR) (i j:Nat):(Sort.swp d i j).size=d.size:=by simp[Sort.swp]
theorem swp_toList (d:Array CR) (i j:Nat):(Sort.swp d i j).toList=(d.toList.set i (d.toList.getD j default)).set j (d.toList.getD i default):=by
 unfold Sort.swp
 rw[Array.toList_setIfInBounds,Array.toList_setIfInBounds,gA,gA]
def aR (d:Array CR):Nat->Nat->D:=encL encCR d.toList
theorem row8 (g:Nat->D) (c:CR) (n:Nat) (f:Nat->Nat->D) (hn:n=c.nodes.length) (hf:∀ r j,f r j=encL encI c.nodes r j):rowEq kC (putD g 0 [.i c.call,.i c.inc,.i c.urg,.s c.code,.l n f,.i 0,.i 0,.b c.closed]) (encCR c) 0:=by
 subst hn
 obtain rfl:f=encL encI c.nodes:=funext fun r=>funext fun j=>hf r j
 exact⟨rfl,rfl,rfl,rfl,⟨rfl,fun r _=>rowEq_rfl _ _ _⟩,rfl,rfl,rfl,trivial⟩
structure INs where
 i:Nat
 d:Array CR
structure INok (x:Array CR) (s:INs):Prop where
 a:0<s.i
 i:s.i<=x.size∨s.i=1
 n:s.d.size=x.size
 eq:Sort.insOuter ltC 0 x.size s.i s.d=Sort.insertionSort ltC x 0 x.size
structure INin (x:Array CR) (s t:INs):Prop where
 i:t.i<=s.i
 n:t.d.size=x.size
 eq:Sort.insInner ltC 0 t.i t.d=Sort.insInner ltC 0 s.i s.d
theorem in_step {x:Array CR} {s t:INs} (h:INin x s t) (h0:(0:Int)<t.i) (hc:cmpI (t.d.toList.getD t.i default).call (t.d.toList.getD (t.i-1) default).call<0):INin x s ⟨t.i-1,Sort.swp t.d t.i (t.i-1)⟩:=by
 have hi:=h.i
 refine⟨by show t.i-1<=s.i;omega,by show(Sort.swp _ _ _).size=_;rw[swp_size];exact h.n,?_⟩
 rw[<- h.eq]
 obtain⟨j,hj⟩:∃ j,t.i=j+1:=⟨t.i-1,by omega⟩
 show Sort.insInner ltC 0 (t.i-1) (Sort.swp t.d t.i (t.i-1))=_
 rw[hj]at hc ⊢
 rw[Nat.add_sub_cancel]at hc ⊢
 conv=>rhs;unfold Sort.insInner
 have hl:ltC t.d[j+1]! t.d[j]! =true:=by rw[ltC_iff,gA,gA];exact hc
 rw[hl,Bool.and_true,if_pos (by rw[decide_eq_true_iff];omega)]
theorem in_stop {x:Array CR} {s t:INs} (h:INin x s t) (hn:¬ ((0:Int)<t.i/\cmpI (t.d.toList.getD t.i default).call (t.d.toList.getD (t.i-1) default).call<0)):t.d=Sort.insInner ltC 0 s.i s.d:=by
 rw[<- h.eq]
 cases hj:t.i with
 |zero=>rfl
 |succ j=>
  unfold Sort.insInner
  rw[hj,Nat.add_sub_cancel]at hn
  rw[if_neg]
  rw[Bool.and_eq_true,decide_eq_true_iff]
  rintro⟨a,b⟩
  refine hn ⟨by omega,?_⟩
  rw[gA,gA]at b
  exact(ltC_iff _ _).1 b
theorem in_next {x:Array CR} {s t:INs} (h:INok x s) (k:INin x s t) (hb:(s.i:Int)<x.size) (hn:¬ ((0:Int)<t.i/\cmpI (t.d.toList.getD t.i default).call (t.d.toList.getD (t.i-1) default).call<0)):INok x ⟨s.i+1,t.d⟩:=by
 refine⟨by show 0<s.i+1;omega,.inl (by show s.i+1<=x.size;omega),k.n,?_⟩
 rw[<- h.eq]
 conv=>rhs;unfold Sort.insOuter
 rw[if_pos (by omega)]
 show Sort.insOuter ltC 0 x.size (s.i+1) t.d=_
 rw[in_stop k hn]
theorem in_end {x:Array CR} {s:INs} (h:INok x s) (hb:¬ (s.i:Int)<x.size):s.d=Sort.insertionSort ltC x 0 x.size:=by
 rw[<- h.eq]
 unfold Sort.insOuter
 rw[if_neg (by omega)]
def insI (x:Array CR) (id:Nat):Option Inv:=match id with
 | 0 => some { X := INs, ok := fun s => INok x s, fr := fun s => [(8, .i .i64 s.i)], hp := fun s => [(100000, .rows .own kC x.size (aR s.d))], me := fun s => x.size - s.i,
               inn:=fun s id=>match id with
                |2=>some { X:=INs,ok:=fun t=>INin x s t,fr:=fun t=>[(9,.i .i64 t.i)],hp:=fun t=>[(100000,.rows .own kC x.size (aR t.d))],me:=fun t=>t.i }
                |_=>none }
 |_=>none
def ccA:SV:=.fn 64 []
def srtF (x:Array CR):Array CR:=Sort.insertionSort ltC x 0 x.size
def insC:CT where
 X:=Array CR
 pre:=fun x=>x.size<=12
 args:=fun x=>[.sl 100000 0 x.size,.i .i64 0,.i .i64 x.size,ccA]
 g0:=fun x=>[(100000,.rows .own kC x.size (aR x))]
 res:=fun _=>.tup []
 g1:=fun x=>[(100000,.rows .own kC x.size (aR (srtF x)))]
def cfgIns:Cfg:=⟨T,[],[(64,.one ccC)],noInv,60,{}⟩
theorem conIns:ConOk Tryz.prog cfgIns:=ConL.ok (.cons (ConL.one cc_good) .nil)
def rowC0 (c:CR):List D:=[.i c.call,.i c.inc,.i c.urg,.s c.code,.l c.nodes.length (fun r _=>.i (c.nodes.getD (0+r) default)),.i 0,.i 0,.b c.closed]
theorem row0 (g:Nat->D) (c:CR):rowEq kC (putD g 0 (rowC0 c)) (encCR c) 0:=row8 _ _ _ _ rfl fun r _=>by unfold encL encI;rw[Nat.zero_add]
theorem swp_rowsC {d:Array CR} {n i j:Nat} (hn:d.size=n) (hi:i<n) (hj:j<n):
  RowsEq kC n (setRow (setRow (aR d) i 0 (rowC0 (d.toList.getD j default))) j 0 (rowC0 (d.toList.getD i default))) (aR (Sort.swp d i j)):=by
 unfold aR
 rw[swp_toList]
 have hl:d.toList.length=d.size:=Array.length_toList
 refine rowsEq_setOf ?_ hj (by rw[List.length_set];omega) (row0 _ _)
 exact rowsEq_set (ks:=kC) (e:=encCR) (xs:=d.toList) (n:=n) (r:=i) (c:=0) (v:=d.toList.getD j default) (by omega) (row0 _ _)
set_option maxRecDepth 100000 in
theorem ins_keeps:Keeps cfgIns Tryz.f103 insC insI:=Eq.mp (show((∀ x1:Array CR,((Array.size x1<=(12:Nat))->((((-9223372036854775808:Int)<=(0:Int)+1)/\((0:Int)+1<=(9223372036854775807:Int)))/\(∃ x3:INs,(((INok x1 x3)/\((((0:Int)+1=(x3.i:Int))/\(((0:Int)+1=0+1)/\(((0:Int)=0)/\((0=0/\(Array.size x1=Array.size x1))/\(((0:Int)=0)/\(((↑(Array.size x1):Int)=(↑(Array.size x1):Int))/\(True/\True)))))))/\(((RLe (Array.size x1) (Array.size x1))/\(RowsEq (.int .i64:: .int .i64:: .int .i64::Kd.str:: .sl [.int .i64]:: .int .i64:: .int .i64::Kd.bool::[]) (Array.size x1) (aR x1) (aR x3.d)))/\True)))/\(∀ x4:INs,((INok x1 x4)->(((decide ((x4.i:Int)<(↑(Array.size x1):Int))=true)->(∃ x7:INs,(((INin x1 x4 x7)/\((((x4.i:Int)=(x7.i:Int))/\(((x4.i:Int)=(x4.i:Int))/\((decide ((x4.i:Int)<(↑(Array.size x1):Int))=decide ((x4.i:Int)<(↑(Array.size x1):Int)))/\(((↑(Array.size x1):Int)=(↑(Array.size x1):Int))/\(((x4.i:Int)=(x4.i:Int))/\(((x4.i:Int)=(x4.i:Int))/\(((0:Int)+1=0+1)/\(((0:Int)=0)/\((0=0/\(Array.size x1=Array.size x1))/\(((0:Int)=0)/\(((↑(Array.size x1):Int)=(↑(Array.size x1):Int))/\(True/\True))))))))))))/\(((RLe (Array.size x1) (Array.size x1))/\(RowsEq (.int .i64:: .int .i64:: .int .i64::Kd.str:: .sl [.int .i64]:: .int .i64:: .int .i64::Kd.bool::[]) (Array.size x1) (aR x4.d) (aR x7.d)))/\True)))/\(∀ x8:INs,((INin x1 x4 x8)->(((decide (0<(x8.i:Int))=true)->((((0:Int)<=(x8.i:Int))/\((x8.i:Int)<(↑(Array.size x1):Int)))/\((0+Int.toNat (x8.i:Int)<Array.size x1)/\((((-9223372036854775808:Int)<=(x8.i:Int)-1)/\((x8.i:Int)-1<=(9223372036854775807:Int)))/\((((0:Int)<=(x8.i:Int)-1)/\((x8.i:Int)-1<(↑(Array.size x1):Int)))/\((0+Int.toNat ((x8.i:Int)-1)<Array.size x1)/\(∃ x11:CCx,(True/\((((((Array.toList x8.d).getD (0+Int.toNat (x8.i:Int)) default).call=x11.a.call)/\((((Array.toList x8.d).getD (0+Int.toNat (x8.i:Int)) default).inc=x11.a.inc)/\((((Array.toList x8.d).getD (0+Int.toNat (x8.i:Int)) default).urg=x11.a.urg)/\((((Array.toList x8.d).getD (0+Int.toNat (x8.i:Int)) default).code=x11.a.code)/\((0=0/\(((Array.toList x8.d).getD (0+Int.toNat (x8.i:Int)) default).nodes.length=x11.a.nodes.length))/\(((0:Int)=0)/\(((0:Int)=0)/\((((Array.toList x8.d).getD (0+Int.toNat (x8.i:Int)) default).closed=x11.a.closed)/\True))))))))/\(((((Array.toList x8.d).getD (0+Int.toNat ((x8.i:Int)-1)) default).call=x11.b.call)/\((((Array.toList x8.d).getD (0+Int.toNat ((x8.i:Int)-1)) default).inc=x11.b.inc)/\((((Array.toList x8.d).getD (0+Int.toNat ((x8.i:Int)-1)) default).urg=x11.b.urg)/\((((Array.toList x8.d).getD (0+Int.toNat ((x8.i:Int)-1)) default).code=x11.b.code)/\((0=0/\(((Array.toList x8.d).getD (0+Int.toNat ((x8.i:Int)-1)) default).nodes.length=x11.b.nodes.length))/\(((0:Int)=0)/\(((0:Int)=0)/\((((Array.toList x8.d).getD (0+Int.toNat ((x8.i:Int)-1)) default).closed=x11.b.closed)/\True))))))))/\True))/\((((RLe x11.a.nodes.length ((Array.toList x8.d).getD (0+Int.toNat (x8.i:Int)) default).nodes.length)/\(RowsEq [.int .i64] x11.a.nodes.length (D.toF (aR x8.d (0+Int.toNat (x8.i:Int)) 4)) (encL encI x11.a.nodes)))/\(((RLe x11.b.nodes.length ((Array.toList x8.d).getD (0+Int.toNat ((x8.i:Int)-1)) default).nodes.length)/\(RowsEq [.int .i64] x11.b.nodes.length (D.toF (aR x8.d (0+Int.toNat ((x8.i:Int)-1)) 4)) (encL encI x11.b.nodes)))/\True))/\(((decide (cmpI x11.a.call x11.b.call<(0:Int))=true)->((((-9223372036854775808:Int)<=(x8.i:Int)-1)/\((x8.i:Int)-1<=(9223372036854775807:Int)))/\((((-9223372036854775808:Int)<=(x8.i:Int)-1)/\((x8.i:Int)-1<=(9223372036854775807:Int)))/\((((0:Int)<=(x8.i:Int)-1)/\((x8.i:Int)-1<(↑(Array.size x1):Int)))/\((0+Int.toNat ((x8.i:Int)-1)<Array.size x1)/\((((0:Int)<=(x8.i:Int))/\((x8.i:Int)<(↑(Array.size x1):Int)))/\((0+Int.toNat (x8.i:Int)<Array.size x1)/\((((0:Int)<=(x8.i:Int))/\((x8.i:Int)<(↑(Array.size x1):Int)))/\(((0+Int.toNat (x8.i:Int)<Array.size x1)/\(True/\(True/\(True/\(True/\(((0:Nat)+((Array.toList x8.d).getD (0+Int.toNat ((x8.i:Int)-1)) default).nodes.length<=((Array.toList x8.d).getD (0+Int.toNat ((x8.i:Int)-1)) default).nodes.length)/\(True/\(True/\(True/\True)))))))))/\((((0:Int)<=(x8.i:Int)-1)/\((x8.i:Int)-1<(↑(Array.size x1):Int)))/\(((0+Int.toNat ((x8.i:Int)-1)<Array.size x1)/\(True/\(True/\(True/\(True/\(((0:Nat)+((Array.toList x8.d).getD (0+Int.toNat (x8.i:Int)) default).nodes.length<=((Array.toList x8.d).getD (0+Int.toNat (x8.i:Int)) default).nodes.length)/\(True/\(True/\(True/\True)))))))))/\((((-9223372036854775808:Int)<=(x8.i:Int)-1)/\((x8.i:Int)-1<=(9223372036854775807:Int)))/\(∃ x13:INs,((x13.i<x8.i)/\((INin x1 x4 x13)/\((((x8.i:Int)-1=(x13.i:Int))/\(((x4.i:Int)=(x4.i:Int))/\((decide ((x4.i:Int)<(↑(Array.size x1):Int))=decide ((x4.i:Int)<(↑(Array.size x1):Int)))/\(((↑(Array.size x1):Int)=(↑(Array.size x1):Int))/\(((x4.i:Int)=(x4.i:Int))/\(((x4.i:Int)=(x4.i:Int))/\(((0:Int)+1=0+1)/\(((0:Int)=0)/\((0=0/\(Array.size x1=Array.size x1))/\(((0:Int)=0)/\(((↑(Array.size x1):Int)=(↑(Array.size x1):Int))/\(True/\True))))))))))))/\(((RLe (Array.size x1) (Array.size x1))/\(RowsEq (.int .i64:: .int .i64:: .int .i64::Kd.str:: .sl [.int .i64]:: .int .i64:: .int .i64::Kd.bool::[]) (Array.size x1) (setRow (setRow (aR x8.d) (0+Int.toNat (x8.i:Int)) 0 (D.i ((Array.toList x8.d).getD (0+Int.toNat ((x8.i:Int)-1)) default).call::D.i ((Array.toList x8.d).getD (0+Int.toNat ((x8.i:Int)-1)) default).inc::D.i ((Array.toList x8.d).getD (0+Int.toNat ((x8.i:Int)-1)) default).urg::D.s ((Array.toList x8.d).getD (0+Int.toNat ((x8.i:Int)-1)) default).code::(D.l ((Array.toList x8.d).getD (0+Int.toNat ((x8.i:Int)-1)) default).nodes.length fun(r c:Nat)=>D.i (((Array.toList x8.d).getD (0+Int.toNat ((x8.i:Int)-1)) default).nodes.getD ((0:Nat)+r) default))::D.i 0::D.i 0::D.b ((Array.toList x8.d).getD (0+Int.toNat ((x8.i:Int)-1)) default).closed::@List.nil D)) (0+Int.toNat ((x8.i:Int)-1)) 0 (D.i ((Array.toList x8.d).getD (0+Int.toNat (x8.i:Int)) default).call::D.i ((Array.toList x8.d).getD (0+Int.toNat (x8.i:Int)) default).inc::D.i ((Array.toList x8.d).getD (0+Int.toNat (x8.i:Int)) default).urg::D.s ((Array.toList x8.d).getD (0+Int.toNat (x8.i:Int)) default).code::(D.l ((Array.toList x8.d).getD (0+Int.toNat (x8.i:Int)) default).nodes.length fun(r c:Nat)=>D.i (((Array.toList x8.d).getD (0+Int.toNat (x8.i:Int)) default).nodes.getD ((0:Nat)+r) default))::D.i 0::D.i 0::D.b ((Array.toList x8.d).getD (0+Int.toNat (x8.i:Int)) default).closed::@List.nil D)) (aR x13.d)))/\True)))))))))))))))))/\((decide (cmpI x11.a.call x11.b.call<(0:Int))=false)->((((-9223372036854775808:Int)<=(x4.i:Int)+1)/\((x4.i:Int)+1<=(9223372036854775807:Int)))/\(∃ x15:INs,((Array.size x1-x15.i<Array.size x1-x4.i)/\((INok x1 x15)/\((((x4.i:Int)+1=(x15.i:Int))/\(((0:Int)+1=0+1)/\(((0:Int)=0)/\((0=0/\(Array.size x1=Array.size x1))/\(((0:Int)=0)/\(((↑(Array.size x1):Int)=(↑(Array.size x1):Int))/\(True/\True)))))))/\(((RLe (Array.size x1) (Array.size x1))/\(RowsEq (.int .i64:: .int .i64:: .int .i64::Kd.str:: .sl [.int .i64]:: .int .i64:: .int .i64::Kd.bool::[]) (Array.size x1) (aR x8.d) (aR x15.d)))/\True))))))))))))))))))/\((decide (0<(x8.i:Int))=false)->((((-9223372036854775808:Int)<=(x4.i:Int)+1)/\((x4.i:Int)+1<=(9223372036854775807:Int)))/\(∃ x17:INs,((Array.size x1-x17.i<Array.size x1-x4.i)/\((INok x1 x17)/\((((x4.i:Int)+1=(x17.i:Int))/\(((0:Int)+1=0+1)/\(((0:Int)=0)/\((0=0/\(Array.size x1=Array.size x1))/\(((0:Int)=0)/\(((↑(Array.size x1):Int)=(↑(Array.size x1):Int))/\(True/\True)))))))/\(((RLe (Array.size x1) (Array.size x1))/\(RowsEq (.int .i64:: .int .i64:: .int .i64::Kd.str:: .sl [.int .i64]:: .int .i64:: .int .i64::Kd.bool::[]) (Array.size x1) (aR x8.d) (aR x17.d)))/\True)))))))))))))/\((decide ((x4.i:Int)<(↑(Array.size x1):Int))=false)->(True/\(((RLe (Array.size x1) (Array.size x1))/\(RowsEq (.int .i64:: .int .i64:: .int .i64::Kd.str:: .sl [.int .i64]:: .int .i64:: .int .i64::Kd.bool::[]) (Array.size x1) (aR x4.d) (aR (srtF x1))))/\True))))))))))))=(Keeps cfgIns Tryz.f103 insC insI) by kernel_rfl) (fun x1=>fun h2=>⟨⟨(by omega),
(by omega)⟩,
({ i:=(1:Nat),d:=x1:INs }),
⟨(by(try dsimp only at *);exact⟨by show 0<1;omega,.inr rfl,rfl,rfl⟩),
⟨(by(try dsimp only at *);omega),rfl,rfl,
⟨rfl,rfl⟩,rfl,rfl,trivial,trivial⟩,
⟨rl,rr⟩,trivial⟩,
fun x4=>fun h5=>⟨fun g6=>have h6:=dT g6;⟨(x4),
⟨(by(try dsimp only at *);exact⟨Nat.le_refl _,h5.n,rfl⟩),
⟨rfl,rfl,rfl,rfl,rfl,rfl,rfl,rfl,
⟨rfl,rfl⟩,rfl,rfl,trivial,trivial⟩,
⟨rl,rr⟩,trivial⟩,
fun x8=>fun h9=>⟨fun g10=>have h10:=dT g10;⟨⟨(by(try dsimp only at *);omega),
(by(try dsimp only at *);(have:=h9.i;have:=h9.n;omega))⟩,
(by(try dsimp only at *);(have:=h9.i;have:=h9.n;omega)),
⟨(by(try dsimp only at *);omega),
(by(try dsimp only at *);(have:=h9.i;have:=h9.n;omega))⟩,
⟨(by(try dsimp only at *);omega),
(by(try dsimp only at *);(have:=h9.i;have:=h9.n;omega))⟩,
(by(try dsimp only at *);(have:=h9.i;have:=h9.n;omega)),
({ a:=List.getD (Array.toList (INs.d x8)) (INs.i x8) default,b:=List.getD (Array.toList (INs.d x8)) (INs.i x8-(1:Nat)) default:CCx }),trivial,
⟨⟨(by(try dsimp only at *);grind),
(by(try dsimp only at *);grind),
(by(try dsimp only at *);grind),
(by(try dsimp only at *);grind),
⟨rfl,
(by(try dsimp only at *);grind)⟩,rfl,rfl,
(by(try dsimp only at *);grind),trivial⟩,
⟨(by(try dsimp only at *);(rw[subK])),
(by(try dsimp only at *);(rw[subK])),
(by(try dsimp only at *);(rw[subK])),
(by(try dsimp only at *);(rw[subK])),
⟨rfl,
(by(try dsimp only at *);(rw[subK]))⟩,rfl,rfl,
(by(try dsimp only at *);(rw[subK])),trivial⟩,trivial⟩,
⟨⟨⟨(by(try dsimp only at *);grind)⟩,
(by(try dsimp only at *);(rw[nat0];exact rr))⟩,
⟨⟨(by(try dsimp only at *);(rw[subK];exact Nat.le_refl _))⟩,
(by(try dsimp only at *);(rw[subK];exact rr))⟩,trivial⟩,
fun g12=>have h12:=dT g12;⟨⟨(by(try dsimp only at *);omega),
(by(try dsimp only at *);(have:=h9.i;have:=h9.n;omega))⟩,
⟨(by(try dsimp only at *);omega),
(by(try dsimp only at *);(have:=h9.i;have:=h9.n;omega))⟩,
⟨(by(try dsimp only at *);omega),
(by(try dsimp only at *);(have:=h9.i;have:=h9.n;omega))⟩,
(by(try dsimp only at *);(have:=h9.i;have:=h9.n;omega)),
⟨(by(try dsimp only at *);omega),
(by(try dsimp only at *);(have:=h9.i;have:=h9.n;omega))⟩,
(by(try dsimp only at *);(have:=h9.i;have:=h9.n;omega)),
⟨(by(try dsimp only at *);omega),
(by(try dsimp only at *);(have:=h9.i;have:=h9.n;omega))⟩,
⟨(by(try dsimp only at *);(have:=h9.i;have:=h9.n;omega)),trivial,trivial,trivial,trivial,
(by(try dsimp only at *);omega),trivial,trivial,trivial,trivial⟩,
⟨(by(try dsimp only at *);omega),
(by(try dsimp only at *);(have:=h9.i;have:=h9.n;omega))⟩,
⟨(by(try dsimp only at *);(have:=h9.i;have:=h9.n;omega)),trivial,trivial,trivial,trivial,
(by(try dsimp only at *);omega),trivial,trivial,trivial,trivial⟩,
⟨(by(try dsimp only at *);omega),
(by(try dsimp only at *);(have:=h9.i;have:=h9.n;omega))⟩,
({ i:=INs.i x8-(1:Nat),d:= Sort.swp (INs.d x8) (INs.i x8) (INs.i x8-(1:Nat)):INs }),
(by(try dsimp only at *);omega),
(by(try dsimp only at *);exact in_step h9 h10 h12),
⟨(by(try dsimp only at *);omega),rfl,rfl,rfl,rfl,rfl,rfl,rfl,
⟨rfl,rfl⟩,rfl,rfl,trivial,trivial⟩,
⟨rl,
(by(try dsimp only at *);(simp only[nat0,subK];have:=h9.i;exact swp_rowsC h9.n (by omega) (by omega)))⟩,trivial⟩,
fun g14=>have h14:=dF g14;⟨⟨(by(try dsimp only at *);omega),
(by(try dsimp only at *);omega)⟩,
({ i:=INs.i x4+(1:Nat),d:=INs.d x8:INs }),
(by(try dsimp only at *);omega),
(by(try dsimp only at *);exact in_next h5 h9 h6 fun q=>h14 q.2),
⟨(by(try dsimp only at *);omega),rfl,rfl,
⟨rfl,rfl⟩,rfl,rfl,trivial,trivial⟩,
⟨rl,rr⟩,trivial⟩⟩,
fun g16=>have h16:=dF g16;⟨⟨(by(try dsimp only at *);omega),
(by(try dsimp only at *);omega)⟩,
({ i:=INs.i x4+(1:Nat),d:=INs.d x8:INs }),
(by(try dsimp only at *);omega),
(by(try dsimp only at *);exact in_next h5 h9 h6 fun q=>h16 q.1),
⟨(by(try dsimp only at *);omega),rfl,rfl,
⟨rfl,rfl⟩,rfl,rfl,trivial,trivial⟩,
⟨rl,rr⟩,trivial⟩⟩⟩,
fun g18=>have h18:=dF g18;⟨trivial,
⟨rl,
(by(try dsimp only at *);(unfold srtF;rw[<- in_end h5 h18];exact rr))⟩,trivial⟩⟩⟩)
theorem ins_good:Good Tryz.prog 103 insC/\FnOk Tryz.prog 103:=good_of tok conIns (fn:=Tryz.f103) rfl (by decide+kernel) (fun _=>rfl) ins_keeps
def pdqC:CT where
 X:=Array CR
 pre:=fun x=>x.size<=12
 args:=fun x=>[.sl 100000 0 x.size,.i .i64 0,.i .i64 x.size,.u,ccA]
 g0:=fun x=>[(100000,.rows .own kC x.size (aR x))]
 res:=fun _=>.tup []
 g1:=fun x=>[(100000,.rows .own kC x.size (aR (srtF x)))]
def pdqI (x:Array CR) (id:Nat):Option Inv:=match id with
 |0=>some { X:=Unit,ok:=fun _=>True,fr:=fun _=>[(1,.i .i64 0),(2,.i .i64 x.size),(0,.sl 100000 0 x.size)],hp:=fun _=>[],me:=fun _=>0,inn:=fun _ id=>match id with|100025=>some (cutT 25 true)|_=>none }
 |_=>none
def cfgPdq:Cfg:=⟨T,[],[(103,.one insC)],noInv,12,{}⟩
theorem conPdq:ConOk Tryz.prog cfgPdq:=ConL.ok (.cons (ConL.one ins_good) .nil)
set_option maxRecDepth 100000 in
theorem pdq_keeps:Keeps cfgPdq Tryz.f89 pdqC pdqI:=Eq.mp (show((∀ x1:Array CR,((Array.size x1<=(12:Nat))->(∃ x3:Unit,((True/\((((0:Int)=0)/\(((↑(Array.size x1):Int)=(↑(Array.size x1):Int))/\((0=0/\(Array.size x1=Array.size x1))/\(True/\True))))/\(((RLe (Array.size x1) (Array.size x1))/\(RowsEq (.int .i64:: .int .i64:: .int .i64::Kd.str:: .sl [.int .i64]:: .int .i64:: .int .i64::Kd.bool::[]) (Array.size x1) (aR x1) (aR x1)))/\True)))/\(∀ x4:Unit,(True->((((-9223372036854775808:Int)<=(↑(Array.size x1):Int)-0)/\((↑(Array.size x1):Int)-0<=(9223372036854775807:Int)))/\((∃ x6:Unit,(True/\((decide ((↑(Array.size x1):Int)-0<=(12:Int))=true)/\True)))/\(∀ x7:Unit,(True->(∃ x9:Array CR,((Array.size x9<=(12:Nat))/\(((0=0/\(Array.size x1=Array.size x9))/\(((0:Int)=0)/\(((↑(Array.size x1):Int)=(↑(Array.size x9):Int))/\(True/\True))))/\((((RLe (Array.size x9) (Array.size x1))/\(RowsEq (.int .i64:: .int .i64:: .int .i64::Kd.str:: .sl [.int .i64]:: .int .i64:: .int .i64::Kd.bool::[]) (Array.size x9) (aR x1) (aR x9)))/\True)/\(True/\(((RLe (Array.size x1) (Array.size x9))/\(RowsEq (.int .i64:: .int .i64:: .int .i64::Kd.str:: .sl [.int .i64]:: .int .i64:: .int .i64::Kd.bool::[]) (Array.size x1) (aR (srtF x9)) (aR (srtF x1))))/\True)))))))))))))))))=(Keeps cfgPdq Tryz.f89 pdqC pdqI) by kernel_rfl) (fun x1=>fun h2=>⟨(default),
⟨trivial,
⟨rfl,rfl,
⟨rfl,rfl⟩,trivial,trivial⟩,
⟨rl,rr⟩,trivial⟩,
fun x4=>fun h5=>⟨⟨(by(try dsimp only at *);omega),
(by(try dsimp only at *);omega)⟩,
⟨(default),trivial,
(by(try dsimp only at *);grind),trivial⟩,
fun x7=>fun h8=>⟨(x1),
(by(try dsimp only at *);omega),
⟨⟨rfl,rfl⟩,rfl,rfl,trivial,trivial⟩,
⟨⟨rl,rr⟩,trivial⟩,trivial,
⟨rl,rr⟩,trivial⟩⟩⟩)
theorem pdq_good:Good Tryz.prog 89 pdqC/\FnOk Tryz.prog 89:=good_of tok conPdq (fn:=Tryz.f89) rfl (by decide+kernel) (fun _=>rfl) pdq_keeps
def cfgBl:Cfg:=⟨T,[],[(84,.one len64C)],noInv,10,{}⟩
theorem conBl:ConOk Tryz.prog cfgBl:=ConL.ok (.cons (ConL.one len64_good) .nil)
set_option maxRecDepth 100000 in
theorem blen_keeps:Keeps cfgBl Tryz.f54 len64C noIv:=Eq.mp (show((∀ x1:Nat,((x1<=(12:Nat))->(∃ x3:Nat,((x3<=(12:Nat))/\((((x1:Int)=(x3:Int))/\True)/\(True/\(True/\True))))))))=(Keeps cfgBl Tryz.f54 len64C noIv) by kernel_rfl) (fun x1=>fun h2=>⟨(x1),
(by(try dsimp only at *);omega),
⟨rfl,trivial⟩,trivial,trivial,trivial⟩)
theorem blen_good:Good Tryz.prog 54 len64C/\FnOk Tryz.prog 54:=good_of tok conBl (fn:=Tryz.f54) rfl (by decide+kernel) (fun _=>rfl) blen_keeps
def sfC:CT where
 X:=Array CR
 pre:=fun x=>x.size<=12
 args:=fun x=>[.sl 100000 0 x.size,ccA]
 g0:=fun x=>[(100000,.rows .own kC x.size (aR x))]
 res:=fun _=>.tup []
 g1:=fun x=>[(100000,.rows .own kC x.size (aR (srtF x)))]
def cfgSf:Cfg:=⟨T,[],[(54,.one len64C),(89,.one pdqC)],noInv,20,{}⟩
theorem conSf:ConOk Tryz.prog cfgSf:=ConL.ok (.cons (ConL.one blen_good) (.cons (ConL.one pdq_good) .nil))
set_option maxRecDepth 100000 in
theorem sf_keeps:Keeps cfgSf Tryz.f63 sfC noIv:=Eq.mp (show((∀ x1:Array CR,((Array.size x1<=(12:Nat))->((((0:Int)<=(↑(Array.size x1):Int))/\((↑(Array.size x1):Int)<=(18446744073709551615:Int)))/\(∃ x3:Nat,((x3<=(12:Nat))/\((((↑(Array.size x1):Int)=(x3:Int))/\True)/\(True/\(∃ x4:Array CR,((Array.size x4<=(12:Nat))/\(((0=0/\(Array.size x1=Array.size x4))/\(((0:Int)=0)/\(((↑(Array.size x1):Int)=(↑(Array.size x4):Int))/\(True/\(True/\True)))))/\((((RLe (Array.size x4) (Array.size x1))/\(RowsEq (.int .i64:: .int .i64:: .int .i64::Kd.str:: .sl [.int .i64]:: .int .i64:: .int .i64::Kd.bool::[]) (Array.size x4) (aR x1) (aR x4)))/\True)/\(True/\(((RLe (Array.size x1) (Array.size x4))/\(RowsEq (.int .i64:: .int .i64:: .int .i64::Kd.str:: .sl [.int .i64]:: .int .i64:: .int .i64::Kd.bool::[]) (Array.size x1) (aR (srtF x4)) (aR (srtF x1))))/\True))))))))))))))=(Keeps cfgSf Tryz.f63 sfC noIv) by kernel_rfl) (fun x1=>fun h2=>⟨⟨(by omega),
(by omega)⟩,
(Array.size x1),
(by(try dsimp only at *);omega),
⟨rfl,trivial⟩,trivial,
(x1),
(by(try dsimp only at *);omega),
⟨⟨rfl,rfl⟩,rfl,rfl,trivial,trivial,trivial⟩,
⟨⟨rl,rr⟩,trivial⟩,trivial,
⟨rl,rr⟩,trivial⟩)
theorem sf_good:Good Tryz.prog 63 sfC/\FnOk Tryz.prog 63:=good_of tok conSf (fn:=Tryz.f63) rfl (by decide+kernel) (fun _=>rfl) sf_keeps
end Go.Sym