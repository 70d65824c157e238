import Derived.Test.YtlldhkhmhgcpaaaGreatDoorPL2
import Derived.Test.YtlldhkhmhgcpaaaGreatDoorCM
import Derived.Test.YtlldhkhmhgcpaaaGreatDoorXD
namespace Go.Sym
set_option linter.unusedVariables false
set_option linter.unusedSimpArgs false
open Go.Proofs
set_option maxRecDepth 100000
set_option maxHeartbeats 4000000
structure UUx where
 a:Un
 b:Un
def uV (u:Un):SV:=.agg [.i .i64 u.id,.i .i64 u.b,.i .i64 u.c,.i .i64 u.st,.i .i64 u.nd,.i .i64 u.f,.i .i64 u.g,.i .i64 u.h,.i .i64 u.i,.i .i64 u.j]
def uuC:CT where
 X:=UUx
 pre:=fun _=>True
 args:=fun x=>[uV x.a,uV x.b]
 g0:=fun _=>[]
 res:=fun x=>.i .i64 (cmpI x.a.id x.b.id)
 g1:=fun _=>[]
def cfgUU:Cfg:=⟨T,[],[(53,.one cmpC)],noInv,20,{}⟩
theorem conUU:ConOk Tryz.prog cfgUU:=ConL.ok (.cons (ConL.one cmpi_good) .nil)
set_option maxRecDepth 100000 in
theorem uu_keeps:Keeps cfgUU Tryz.f52 uuC noIv:=Eq.mp (show(∀ x1:UUx,(True->(∃ x3:I2x,(True/\((x1.a.id=x3.a/\(x1.b.id=x3.b/\True))/\(True/\((cmpI x3.a x3.b=cmpI x1.a.id x1.b.id)/\True)))))))=(Keeps cfgUU Tryz.f52 uuC noIv) by kernel_rfl) (fun x1=>fun h2=>⟨({ a:=Un.id (UUx.a x1),b:=Un.id (UUx.b x1):I2x }),trivial,⟨rfl,rfl,trivial⟩,trivial,rfl,trivial⟩)
theorem uu_good:Good Tryz.prog 52 uuC/\FnOk Tryz.prog 52:=good_of tok conUU (fn:=Tryz.f52) rfl (by decide+kernel) (fun _=>rfl) uu_keeps
theorem gA (d:Array Un) (i:Nat):d[i]! =d.toList.getD i default:=by
 rw[List.getD_eq_getElem?_getD,Array.getElem?_toList]
 by_cases h:i<d.size
 ·rw[getElem!_pos d i h,Array.getElem?_eq_getElem h];rfl
 ·rw[getElem!_neg d i h,Array.getElem?_eq_none (by omega)];rfl
theorem ltU_iff (a b:Un):ltU a b=true↔cmpI a.id b.id<0:=by unfold ltU;rw[decide_eq_true_eq,cmp_neg]
theorem swp_size (d:Array Un) (i j:Nat):(Sort.swp d i j).size=d.size:=by simp[Sort.swp]
theorem swp_toList (d:Array Un) (i j:Nat):(Sort.swp d i j).toList=(d.toList.set i (d.toList.getD j default)).set j (d.toList.getD i default):=by
 unfold Sort.swp
 rw[Array.toList_setIfInBounds,Array.toList_setIfInBounds,gA,gA]
def aR (d:Array Un):Nat->Nat->D:=encL encU d.toList
def rowU (u:Un):List D:=[.i u.id,.i u.b,.i u.c,.i u.st,.i u.nd,.i u.f,.i u.g,.i u.h,.i u.i,.i u.j]
theorem row0 (g:Nat->D) (u:Un):rowEq kU (putD g 0 (rowU u)) (encU u) 0:=⟨rfl,rfl,rfl,rfl,rfl,rfl,rfl,rfl,rfl,rfl,trivial⟩
structure INs where
 i:Nat
 d:Array Un
structure INok (x:Array Un) (s:INs):Prop where
 a:0<s.i
 i:s.i<=x.size∨s.i=1
 n:s.d.size=x.size
 eq:Sort.insOuter ltU 0 x.size s.i s.d=Sort.insertionSort ltU x 0 x.size
structure INin (x:Array Un) (s t:INs):Prop where
 i:t.i<=s.i
 n:t.d.size=x.size
 eq:Sort.insInner ltU 0 t.i t.d=Sort.insInner ltU 0 s.i s.d
theorem in_step {x:Array Un} {s t:INs} (h:INin x s t) (h0:(0:Int)<t.i) (hc:cmpI (t.d.toList.getD t.i default).id (t.d.toList.getD (t.i-1) default).id<0):INin x s ⟨t.i-1,Sort.swp t.d t.i (t.i-1)⟩:=by
 have hi:=h.i
 refine⟨by show t.i-1<=s.i;omega,by show(Sort.swp _ _ _).size=_;rw[swp_size];exact h.n,?_⟩
 rw[<- h.eq]
 obtain⟨j,hj⟩:∃ j,t.i=j+1:=⟨t.i-1,by omega⟩
 show Sort.insInner ltU 0 (t.i-1) (Sort.swp t.d t.i (t.i-1))=_
 rw[hj]at hc ⊢
 rw[Nat.add_sub_cancel]at hc ⊢
 conv=>rhs;unfold Sort.insInner
 have hl:ltU t.d[j+1]! t.d[j]! =true:=by rw[ltU_iff,gA,gA];exact hc
 rw[hl,Bool.and_true,if_pos (by rw[decide_eq_true_iff];omega)]
theorem in_stop {x:Array Un} {s t:INs} (h:INin x s t) (hn:¬ ((0:Int)<t.i/\cmpI (t.d.toList.getD t.i default).id (t.d.toList.getD (t.i-1) default).id<0)):t.d=Sort.insInner ltU 0 s.i s.d:=by
 rw[<- h.eq]
 cases hj:t.i with
 |zero=>rfl
 |succ j=>
  unfold Sort.insInner
  rw[hj,Nat.add_sub_cancel]at hn
  rw[if_neg]
  rw[Bool.and_eq_true,decide_eq_true_iff]
  rintro⟨a,b⟩
  refine hn ⟨by omega,?_⟩
  rw[gA,gA]at b
  exact(ltU_iff _ _).1 b
theorem in_next {x:Array Un} {s t:INs} (h:INok x s) (k:INin x s t) (hb:(s.i:Int)<x.size) (hn:¬ ((0:Int)<t.i/\cmpI (t.d.toList.getD t.i default).id (t.d.toList.getD (t.i-1) default).id<0)):INok x ⟨s.i+1,t.d⟩:=by
 refine⟨by show 0<s.i+1;omega,.inl (by show s.i+1<=x.size;omega),k.n,?_⟩
 rw[<- h.eq]
 conv=>rhs;unfold Sort.insOuter
 rw[if_pos (by omega)]
 show Sort.insOuter ltU 0 x.size (s.i+1) t.d=_
 rw[in_stop k hn]
theorem in_end {x:Array Un} {s:INs} (h:INok x s) (hb:¬ (s.i:Int)<x.size):s.d=Sort.insertionSort ltU x 0 x.size:=by
 rw[<- h.eq]
 unfold Sort.insOuter
 rw[if_neg (by omega)]
def insI (x:Array Un) (id:Nat):Option Inv:=match id with
 | 0 => some { X := INs, ok := fun s => INok x s, fr := fun s => [(8, .i .i64 s.i)], hp := fun s => [(100000, .rows .own kU x.size (aR s.d))], me := fun s => x.size - s.i,
               inn:=fun s id=>match id with
                |2=>some { X:=INs,ok:=fun t=>INin x s t,fr:=fun t=>[(9,.i .i64 t.i)],hp:=fun t=>[(100000,.rows .own kU x.size (aR t.d))],me:=fun t=>t.i }
                |_=>none }
 |_=>none
def uuA:SV:=.fn 52 []
def srtF (x:Array Un):Array Un:=Sort.insertionSort ltU x 0 x.size
def insC:CT where
 X:=Array Un
 pre:=fun x=>x.size<=12
 args:=fun x=>[.sl 100000 0 x.size,.i .i64 0,.i .i64 x.size,uuA]
 g0:=fun x=>[(100000,.rows .own kU x.size (aR x))]
 res:=fun _=>.tup []
 g1:=fun x=>[(100000,.rows .own kU x.size (aR (srtF x)))]
def cfgIns:Cfg:=⟨T,[],[(52,.one uuC)],noInv,60,{}⟩
theorem conIns:ConOk Tryz.prog cfgIns:=ConL.ok (.cons (ConL.one uu_good) .nil)
theorem swp_rowsC {d:Array Un} {n i j:Nat} (hn:d.size=n) (hi:i<n) (hj:j<n):
  RowsEq kU n (setRow (setRow (aR d) i 0 (rowU (d.toList.getD j default))) j 0 (rowU (d.toList.getD i default))) (aR (Sort.swp d i j)):=by
 unfold aR
 rw[swp_toList]
 have hl:d.toList.length=d.size:=Array.length_toList
 refine rowsEq_setOf ?_ hj (by rw[List.length_set];omega) (row0 _ _)
 exact rowsEq_set (ks:=kU) (e:=encU) (xs:=d.toList) (n:=n) (r:=i) (c:=0) (v:=d.toList.getD j default) (by omega) (row0 _ _)
abbrev q36F0 (x1:Array Un):Prop:=(((0:Int)+1=0+1)/\(((0:Int)=0)/\((0=0/\(Array.size x1=Array.size x1))/\(((0:Int)=0)/\(((↑(Array.size x1):Int)=(↑(Array.size x1):Int))/\(True/\True))))))
theorem q36f0 {x1:Array Un}:q36F0 x1:=⟨rfl,rfl,⟨rfl,rfl⟩,rfl,rfl,trivial,trivial⟩
abbrev q36F1 (x1:Array Un) (x4:INs):Prop:=(((x4.i:Int)=(x4.i:Int))/\((decide ((x4.i:Int)<(↑(Array.size x1):Int))=decide ((x4.i:Int)<(↑(Array.size x1):Int)))/\(((↑(Array.size x1):Int)=(↑(Array.size x1):Int))/\(((x4.i:Int)=(x4.i:Int))/\(((x4.i:Int)=(x4.i:Int))/\(q36F0 x1))))))
theorem q36f1 {x1:Array Un} {x4:INs}:q36F1 x1 x4:=⟨rfl,rfl,rfl,rfl,rfl,q36f0⟩
abbrev q36F2:Prop:=(True/\(True/\(True/\(True/\(True/\(True/\(True/\(True/\(True/\(True/\True))))))))))
theorem q36f2:q36F2:=⟨trivial,trivial,trivial,trivial,trivial,trivial,trivial,trivial,trivial,trivial,trivial⟩
set_option maxRecDepth 100000 in
theorem ins_keeps:Keeps cfgIns Tryz.f95 insC insI:=Eq.mp (show(∀ x1:Array Un,((Array.size x1<=(12:Nat))->((R6 ((0:Int)+1))/\(∃ x3:INs,(((INok x1 x3)/\((((0:Int)+1=(x3.i:Int))/\(q36F0 x1))/\((RW kU (Array.size x1) (Array.size x1) (aR x1) (aR x3.d))/\True)))/\(∀ x4:INs,((INok x1 x4)->(CB (decide ((x4.i:Int)<(↑(Array.size x1):Int))) (∃ x7:INs,(((INin x1 x4 x7)/\((((x4.i:Int)=(x7.i:Int))/\(q36F1 x1 x4))/\((RW kU (Array.size x1) (Array.size x1) (aR x4.d) (aR x7.d))/\True)))/\(∀ x8:INs,((INin x1 x4 x8)->(CB (decide (0<(x8.i:Int))) ((Ix (x8.i:Int) (↑(Array.size x1):Int))/\((0+Int.toNat (x8.i:Int)<Array.size x1)/\((R6 ((x8.i:Int)-1))/\((Ix ((x8.i:Int)-1) (↑(Array.size x1):Int))/\((0+Int.toNat ((x8.i:Int)-1)<Array.size x1)/\(∃ x11:UUx,(True/\((((((Array.toList x8.d).getD (0+Int.toNat (x8.i:Int)) default).id=x11.a.id)/\((((Array.toList x8.d).getD (0+Int.toNat (x8.i:Int)) default).b=x11.a.b)/\((((Array.toList x8.d).getD (0+Int.toNat (x8.i:Int)) default).c=x11.a.c)/\((((Array.toList x8.d).getD (0+Int.toNat (x8.i:Int)) default).st=x11.a.st)/\((((Array.toList x8.d).getD (0+Int.toNat (x8.i:Int)) default).nd=x11.a.nd)/\((((Array.toList x8.d).getD (0+Int.toNat (x8.i:Int)) default).f=x11.a.f)/\((((Array.toList x8.d).getD (0+Int.toNat (x8.i:Int)) default).g=x11.a.g)/\((((Array.toList x8.d).getD (0+Int.toNat (x8.i:Int)) default).h=x11.a.h)/\((((Array.toList x8.d).getD (0+Int.toNat (x8.i:Int)) default).i=x11.a.i)/\((((Array.toList x8.d).getD (0+Int.toNat (x8.i:Int)) default).j=x11.a.j)/\True))))))))))/\(((((Array.toList x8.d).getD (0+Int.toNat ((x8.i:Int)-1)) default).id=x11.b.id)/\((((Array.toList x8.d).getD (0+Int.toNat ((x8.i:Int)-1)) default).b=x11.b.b)/\((((Array.toList x8.d).getD (0+Int.toNat ((x8.i:Int)-1)) default).c=x11.b.c)/\((((Array.toList x8.d).getD (0+Int.toNat ((x8.i:Int)-1)) default).st=x11.b.st)/\((((Array.toList x8.d).getD (0+Int.toNat ((x8.i:Int)-1)) default).nd=x11.b.nd)/\((((Array.toList x8.d).getD (0+Int.toNat ((x8.i:Int)-1)) default).f=x11.b.f)/\((((Array.toList x8.d).getD (0+Int.toNat ((x8.i:Int)-1)) default).g=x11.b.g)/\((((Array.toList x8.d).getD (0+Int.toNat ((x8.i:Int)-1)) default).h=x11.b.h)/\((((Array.toList x8.d).getD (0+Int.toNat ((x8.i:Int)-1)) default).i=x11.b.i)/\((((Array.toList x8.d).getD (0+Int.toNat ((x8.i:Int)-1)) default).j=x11.b.j)/\True))))))))))/\True))/\(True/\(CB (decide (cmpI x11.a.id x11.b.id<(0:Int))) ((R6 ((x8.i:Int)-1))/\((R6 ((x8.i:Int)-1))/\((Ix ((x8.i:Int)-1) (↑(Array.size x1):Int))/\((0+Int.toNat ((x8.i:Int)-1)<Array.size x1)/\((Ix (x8.i:Int) (↑(Array.size x1):Int))/\((0+Int.toNat (x8.i:Int)<Array.size x1)/\((Ix (x8.i:Int) (↑(Array.size x1):Int))/\(((0+Int.toNat (x8.i:Int)<Array.size x1)/\(q36F2))/\((Ix ((x8.i:Int)-1) (↑(Array.size x1):Int))/\(((0+Int.toNat ((x8.i:Int)-1)<Array.size x1)/\(q36F2))/\((R6 ((x8.i:Int)-1))/\(∃ x13:INs,((x13.i<x8.i)/\((INin x1 x4 x13)/\((((x8.i:Int)-1=(x13.i:Int))/\(q36F1 x1 x4))/\((RW kU (Array.size x1) (Array.size x1) (setRow (setRow (aR x8.d) (0+Int.toNat (x8.i:Int)) 0 (D.i ((Array.toList x8.d).getD (0+Int.toNat ((x8.i:Int)-1)) default).id::D.i ((Array.toList x8.d).getD (0+Int.toNat ((x8.i:Int)-1)) default).b::D.i ((Array.toList x8.d).getD (0+Int.toNat ((x8.i:Int)-1)) default).c::D.i ((Array.toList x8.d).getD (0+Int.toNat ((x8.i:Int)-1)) default).st::D.i ((Array.toList x8.d).getD (0+Int.toNat ((x8.i:Int)-1)) default).nd::D.i ((Array.toList x8.d).getD (0+Int.toNat ((x8.i:Int)-1)) default).f::D.i ((Array.toList x8.d).getD (0+Int.toNat ((x8.i:Int)-1)) default).g::D.i ((Array.toList x8.d).getD (0+Int.toNat ((x8.i:Int)-1)) default).h::D.i ((Array.toList x8.d).getD (0+Int.toNat ((x8.i:Int)-1)) default).i::D.i ((Array.toList x8.d).getD (0+Int.toNat ((x8.i:Int)-1)) default).j::@List.nil D)) (0+Int.toNat ((x8.i:Int)-1)) 0 (D.i ((Array.toList x8.d).getD (0+Int.toNat (x8.i:Int)) default).id::D.i ((Array.toList x8.d).getD (0+Int.toNat (x8.i:Int)) default).b::D.i ((Array.toList x8.d).getD (0+Int.toNat (x8.i:Int)) default).c::D.i ((Array.toList x8.d).getD (0+Int.toNat (x8.i:Int)) default).st::D.i ((Array.toList x8.d).getD (0+Int.toNat (x8.i:Int)) default).nd::D.i ((Array.toList x8.d).getD (0+Int.toNat (x8.i:Int)) default).f::D.i ((Array.toList x8.d).getD (0+Int.toNat (x8.i:Int)) default).g::D.i ((Array.toList x8.d).getD (0+Int.toNat (x8.i:Int)) default).h::D.i ((Array.toList x8.d).getD (0+Int.toNat (x8.i:Int)) default).i::D.i ((Array.toList x8.d).getD (0+Int.toNat (x8.i:Int)) default).j::@List.nil D)) (aR x13.d))/\True)))))))))))))))) ((R6 ((x4.i:Int)+1))/\(∃ x15:INs,((Array.size x1-x15.i<Array.size x1-x4.i)/\((INok x1 x15)/\((((x4.i:Int)+1=(x15.i:Int))/\(q36F0 x1))/\((RW kU (Array.size x1) (Array.size x1) (aR x8.d) (aR x15.d))/\True)))))))))))))))) ((R6 ((x4.i:Int)+1))/\(∃ x17:INs,((Array.size x1-x17.i<Array.size x1-x4.i)/\((INok x1 x17)/\((((x4.i:Int)+1=(x17.i:Int))/\(q36F0 x1))/\((RW kU (Array.size x1) (Array.size x1) (aR x8.d) (aR x17.d))/\True))))))))))) (True/\((RW kU (Array.size x1) (Array.size x1) (aR x4.d) (aR (srtF x1)))/\True))))))))))=(Keeps cfgIns Tryz.f95 insC insI) by kernel_rfl) (fun x1=>fun h2=>⟨⟨(by omega),(by omega)⟩,({ i:=(1:Nat),d:=x1:INs }),⟨(by exact⟨by show 0<1;omega,.inr rfl,rfl,rfl⟩),⟨(by(try dsimp only at *);omega),q36f0⟩,⟨rl,rr⟩,trivial⟩,fun x4=>fun h5=>⟨fun g6=>have h6:=dT g6;⟨(x4),⟨(⟨Nat.le_refl _,h5.n,rfl⟩),⟨rfl,q36f1⟩,⟨rl,rr⟩,trivial⟩,fun x8=>fun h9=>⟨fun g10=>have h10:=dT g10;⟨⟨(by omega),(by have:=h9.i;have:=h9.n;omega)⟩,(by have:=h9.i;have:=h9.n;omega),⟨(by omega),(by have:=h9.i;have:=h9.n;omega)⟩,⟨(by omega),(by have:=h9.i;have:=h9.n;omega)⟩,(by have:=h9.i;have:=h9.n;omega),({ a:=List.getD (Array.toList (INs.d x8)) (INs.i x8) default,b:=List.getD (Array.toList (INs.d x8)) (INs.i x8-(1:Nat)) default:UUx }),trivial,⟨⟨(by grind),(by grind),(by grind),(by grind),(by grind),(by grind),(by grind),(by grind),(by grind),(by grind),trivial⟩,⟨(by rw[subK]),(by rw[subK]),(by rw[subK]),(by rw[subK]),(by rw[subK]),(by rw[subK]),(by rw[subK]),(by rw[subK]),(by rw[subK]),(by rw[subK]),trivial⟩,trivial⟩,trivial,fun g12=>have h12:=dT g12;⟨⟨(by omega),(by have:=h9.i;have:=h9.n;omega)⟩,⟨(by omega),(by have:=h9.i;have:=h9.n;omega)⟩,⟨(by omega),(by have:=h9.i;have:=h9.n;omega)⟩,(by have:=h9.i;have:=h9.n;omega),⟨(by omega),(by have:=h9.i;have:=h9.n;omega)⟩,(by have:=h9.i;have:=h9.n;omega),⟨(by omega),(by have:=h9.i;have:=h9.n;omega)⟩,⟨(by have:=h9.i;have:=h9.n;omega),q36f2⟩,⟨(by omega),(by have:=h9.i;have:=h9.n;omega)⟩,⟨(by have:=h9.i;have:=h9.n;omega),q36f2⟩,⟨(by omega),(by have:=h9.i;have:=h9.n;omega)⟩,({ i:=INs.i x8-(1:Nat),d:= Sort.swp (INs.d x8) (INs.i x8) (INs.i x8-(1:Nat)):INs }),(by(try dsimp only at *);omega),(in_step h9 h10 h12),⟨(by(try dsimp only at *);omega),q36f1⟩,⟨rl,(by simp only[nat0,subK];have:=h9.i;exact swp_rowsC h9.n (by omega) (by omega))⟩,trivial⟩,fun g14=>have h14:=dF g14;⟨⟨(by omega),(by omega)⟩,({ i:=INs.i x4+(1:Nat),d:=INs.d x8:INs }),(by(try dsimp only at *);omega),(in_next h5 h9 h6 fun q=>h14 q.2),⟨(by(try dsimp only at *);omega),q36f0⟩,⟨rl,rr⟩,trivial⟩⟩,fun g16=>have h16:=dF g16;⟨⟨(by omega),(by omega)⟩,({ i:=INs.i x4+(1:Nat),d:=INs.d x8:INs }),(by(try dsimp only at *);omega),(in_next h5 h9 h6 fun q=>h16 q.1),⟨(by(try dsimp only at *);omega),q36f0⟩,⟨rl,rr⟩,trivial⟩⟩⟩,fun g18=>have h18:=dF g18;⟨trivial,⟨rl,(by unfold srtF;rw[<- in_end h5 h18];exact rr)⟩,trivial⟩⟩⟩)
theorem ins_good:Good Tryz.prog 95 insC/\FnOk Tryz.prog 95:=good_of tok conIns (fn:=Tryz.f95) rfl (by decide+kernel) (fun _=>rfl) ins_keeps
def pdqC:CT where
 X:=Array Un
 pre:=fun x=>x.size<=12
 args:=fun x=>[.sl 100000 0 x.size,.i .i64 0,.i .i64 x.size,.u,uuA]
 g0:=fun x=>[(100000,.rows .own kU x.size (aR x))]
 res:=fun _=>.tup []
 g1:=fun x=>[(100000,.rows .own kU x.size (aR (srtF x)))]
def pdqI (x:Array Un) (id:Nat):Option Inv:=match id with
 |0=>some { X:=Unit,ok:=fun _=>True,fr:=fun _=>[(1,.i .i64 0),(2,.i .i64 x.size),(0,.sl 100000 0 x.size)],hp:=fun _=>[],me:=fun _=>0,inn:=fun _ id=>match id with|100025=>some (cutT 25 true)|_=>none }
 |_=>none
def cfgPdq:Cfg:=⟨T,[],[(95,.one insC)],noInv,12,{}⟩
theorem conPdq:ConOk Tryz.prog cfgPdq:=ConL.ok (.cons (ConL.one ins_good) .nil)
set_option maxRecDepth 100000 in
theorem pdq_keeps:Keeps cfgPdq Tryz.f71 pdqC pdqI:=Eq.mp (show(∀ x1:Array Un,((Array.size x1<=(12:Nat))->(∃ x3:Unit,((True/\((((0:Int)=0)/\(((↑(Array.size x1):Int)=(↑(Array.size x1):Int))/\((0=0/\(Array.size x1=Array.size x1))/\(True/\True))))/\(((RLe (Array.size x1) (Array.size x1))/\(RowsEq kU (Array.size x1) (aR x1) (aR x1)))/\True)))/\(∀ x4:Unit,(True->((R6 ((↑(Array.size x1):Int)-0))/\((∃ x6:Unit,(True/\((decide ((↑(Array.size x1):Int)-0<=(12:Int))=true)/\True)))/\(∀ x7:Unit,(True->(∃ x9:Array Un,((Array.size x9<=(12:Nat))/\(((0=0/\(Array.size x1=Array.size x9))/\(((0:Int)=0)/\(((↑(Array.size x1):Int)=(↑(Array.size x9):Int))/\(True/\True))))/\(((RW kU (Array.size x9) (Array.size x1) (aR x1) (aR x9))/\True)/\(True/\((RW kU (Array.size x1) (Array.size x9) (aR (srtF x9)) (aR (srtF x1)))/\True))))))))))))))))=(Keeps cfgPdq Tryz.f71 pdqC pdqI) by kernel_rfl) (fun x1=>fun h2=>⟨(default),⟨trivial,⟨rfl,rfl,⟨rfl,rfl⟩,trivial,trivial⟩,⟨rl,rr⟩,trivial⟩,fun x4=>fun h5=>⟨⟨(by omega),(by omega)⟩,⟨(default),trivial,(by grind),trivial⟩,fun x7=>fun h8=>⟨(x1),(by omega),⟨⟨rfl,rfl⟩,rfl,rfl,trivial,trivial⟩,⟨⟨rl,rr⟩,trivial⟩,trivial,⟨rl,rr⟩,trivial⟩⟩⟩)
theorem pdq_good:Good Tryz.prog 71 pdqC/\FnOk Tryz.prog 71:=good_of tok conPdq (fn:=Tryz.f71) rfl (by decide+kernel) (fun _=>rfl) pdq_keeps
def cfgBl:Cfg:=⟨T,[],[(104,.one len64C)],noInv,10,{}⟩
theorem conBl:ConOk Tryz.prog cfgBl:=ConL.ok (.cons (ConL.one len64_good) .nil)
set_option maxRecDepth 100000 in
theorem blen_keeps:Keeps cfgBl Tryz.f72 len64C noIv:=Eq.mp (show(∀ x1:Nat,((x1<=(12:Nat))->(∃ x3:Nat,((x3<=(12:Nat))/\((((x1:Int)=(x3:Int))/\True)/\(True/\(True/\True)))))))=(Keeps cfgBl Tryz.f72 len64C noIv) by kernel_rfl) (fun x1=>fun h2=>⟨(x1),(by omega),⟨rfl,trivial⟩,trivial,trivial,trivial⟩)
theorem blen_good:Good Tryz.prog 72 len64C/\FnOk Tryz.prog 72:=good_of tok conBl (fn:=Tryz.f72) rfl (by decide+kernel) (fun _=>rfl) blen_keeps
def sfC:CT where
 X:=Array Un
 pre:=fun x=>x.size<=12
 args:=fun x=>[.sl 100000 0 x.size,uuA]
 g0:=fun x=>[(100000,.rows .own kU x.size (aR x))]
 res:=fun _=>.tup []
 g1:=fun x=>[(100000,.rows .own kU x.size (aR (srtF x)))]
def cfgSf:Cfg:=⟨T,[],[(72,.one len64C),(71,.one pdqC)],noInv,20,{}⟩
theorem conSf:ConOk Tryz.prog cfgSf:=ConL.ok (.cons (ConL.one blen_good) (.cons (ConL.one pdq_good) .nil))
set_option maxRecDepth 100000 in
theorem sf_keeps:Keeps cfgSf Tryz.f51 sfC noIv:=Eq.mp (show(∀ x1:Array Un,((Array.size x1<=(12:Nat))->((((0:Int)<=(↑(Array.size x1):Int))/\((↑(Array.size x1):Int)<=(18446744073709551615:Int)))/\(∃ x3:Nat,((x3<=(12:Nat))/\((((↑(Array.size x1):Int)=(x3:Int))/\True)/\(True/\(∃ x4:Array Un,((Array.size x4<=(12:Nat))/\(((0=0/\(Array.size x1=Array.size x4))/\(((0:Int)=0)/\(((↑(Array.size x1):Int)=(↑(Array.size x4):Int))/\(True/\(True/\True)))))/\(((RW kU (Array.size x4) (Array.size x1) (aR x1) (aR x4))/\True)/\(True/\((RW kU (Array.size x1) (Array.size x4) (aR (srtF x4)) (aR (srtF x1)))/\True)))))))))))))=(Keeps cfgSf Tryz.f51 sfC noIv) by kernel_rfl) (fun x1=>fun h2=>⟨⟨(by omega),(by omega)⟩,(Array.size x1),(by omega),⟨rfl,trivial⟩,trivial,(x1),(by omega),⟨⟨rfl,rfl⟩,rfl,rfl,trivial,trivial,trivial⟩,⟨⟨rl,rr⟩,trivial⟩,trivial,⟨rl,rr⟩,trivial⟩)
theorem sf_good:Good Tryz.prog 51 sfC/\FnOk Tryz.prog 51:=good_of tok conSf (fn:=Tryz.f51) rfl (by decide+kernel) (fun _=>rfl) sf_keeps
end Go.Sym
namespace Go.Sym
set_option linter.unusedVariables false
set_option linter.unusedSimpArgs false
def fndU (us:List Un) (id:Int):Int:=match us.findIdx? (fun u=>decide (u.id=id))with
 |some k=>(k:Int)
 |none=> -1
theorem fnd_some {us:List Un} {id:Int} {k:Nat} (hk:k<us.length) (h:(us.getD k default).id=id) (hn:∀ j,j<k->(us.getD j default).id≠id):fndU us id=k:=by
 have e:us.findIdx? (fun u=>decide (u.id=id))=some k:=by
  rw[List.findIdx?_eq_some_iff_getElem]
  have g:∀ j (hj:j<us.length),us.getD j default=us[j]:=fun j hj=>by rw[List.getD_eq_getElem?_getD,List.getElem?_eq_getElem hj];rfl
  refine⟨hk,?_,fun j hj=>?_⟩
  ·rw[g k hk]at h
   simpa using h
  ·have:=hn j hj
   rw[g j (by omega)]at this
   simpa using this
 unfold fndU
 rw[e]
theorem fnd_none {us:List Un} {id:Int} (hn:∀ j,j<us.length->(us.getD j default).id≠id):fndU us id= -1:=by
 have e:us.findIdx? (fun u=>decide (u.id=id))=none:=by
  rw[List.findIdx?_eq_none_iff]
  intro u hu
  obtain⟨j,hj,rfl⟩:=List.getElem_of_mem hu
  have:=hn j hj
  rw[List.getD_eq_getElem?_getD,List.getElem?_eq_getElem hj]at this
  simpa using this
 unfold fndU
 rw[e]
theorem fnd_cases (us:List Un) (id:Int):(∃ k,k<us.length/\fndU us id=(k:Int)/\(us.getD k default).id=id/\∀ j,j<k->(us.getD j default).id≠id)∨(fndU us id= -1/\∀ j,j<us.length->(us.getD j default).id≠id):=by
 by_cases h:∃ j,j<us.length/\(us.getD j default).id=id
 ·have hx:∃ k,(k<us.length/\(us.getD k default).id=id)/\∀ j,j<k->¬ (j<us.length/\(us.getD j default).id=id):=by
   obtain⟨j,hj⟩:=h
   induction j using Nat.strongRecOn with
   |_ j ih=>
    by_cases q:∃ i,i<j/\(i<us.length/\(us.getD i default).id=id)
    ·obtain⟨i,hi,hq⟩:=q
     exact ih i hi hq
    ·exact⟨j,hj,fun i hi hq=>q ⟨i,hi,hq⟩⟩
  obtain⟨k,⟨h1,h2⟩,h3⟩:=hx
  have h4:∀ j,j<k->(us.getD j default).id≠id:=fun j hj e=>h3 j hj ⟨by omega,e⟩
  exact .inl ⟨k,h1,fnd_some h1 h2 h4,h2,h4⟩
 ·have h1:∀ j,j<us.length->(us.getD j default).id≠id:=fun j hj e=>h ⟨j,hj,e⟩
  exact .inr ⟨fnd_none h1,h1⟩
def dstU (us:List Un):Bool:=decide (us.map (·.id)).Nodup
def okM (us:List Un) (l:List Mv) (i:Nat):Prop:=
 0<=fndU us (l.getD i default).1/\(us.getD (fndU us (l.getD i default).1).toNat default).st=1/\(i=0∨(l.getD (i-1) default).1<(l.getD i default).1)/\
 (0<=(l.getD i default).2/\(l.getD i default).2<4096)/\(l.getD i default).2≠(us.getD (fndU us (l.getD i default).1).toNat default).nd
instance (us:List Un) (l:List Mv) (i:Nat):Decidable (okM us l i):=by unfold okM;infer_instance
def ERRI:Int:=1
def okMs (us:List Un) (l:List Mv):Bool:=dstU us&&decide (∀ i,i<l.length->okM us l i)
def putU (us:List Un) (o:List Un) (m:Mv):List Un:=o.set (fndU us m.1).toNat { o.getD (fndU us m.1).toNat default with nd:=m.2 }
def appA (us:List Un) (l:List Mv) (n:Nat):List Un:=(l.take n).foldl (putU us) us
def appU (us:List Un) (l:List Mv):List Un:=if okMs us l then appA us l l.length else []
def appE2 (us:List Un) (l:List Mv):Int:=if okMs us l then 0 else ERRI
end Go.Sym