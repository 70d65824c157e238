import Derived.Test.YtcghhlodddpmaaaDoorV7
import Derived.Test.YtcghhlodddpmaaaDoorXD
namespace Go.Sym
set_option linter.unusedVariables false
set_option linter.unusedSimpArgs false
open Go.Proofs
set_option maxRecDepth 100000
set_option maxHeartbeats 4000000
def flC:CT where
 X:=Rd × Int
 pre:=fun _=>True
 args:=fun x=>[.p 100000 0 0,.i .i64 x.2]
 g0:=fun x=>rdB 100000 100001 x.1
 res:=fun _=>.tup []
 g1:=fun x=>rdB 100000 1 (bad x.2)
set_option maxRecDepth 100000 in
theorem fl_keeps:Keeps cfg0 Tryd.f76 flC noIv:=Eq.mp (show((∀ x1:Rd × Int,(True->(True/\(((True/\(((bad (Prod.snd x1)).lo=(0:Nat))/\((bad (Prod.snd x1)).B.length-(bad (Prod.snd x1)).lo=(0:Nat))))/\((Prod.snd x1=(bad (Prod.snd x1)).e)/\True))/\(((bad (Prod.snd x1)).B.length=(0:Nat))/\True))))))=(Keeps cfg0 Tryd.f76 flC noIv) by kernel_rfl) (fun x1=>fun h2=>⟨trivial,
⟨⟨trivial,
(by rfl),
(by rfl)⟩,
(by rfl),trivial⟩,
(by rfl),trivial⟩)
theorem fl_good:Good Tryd.prog 76 flC/\FnOk Tryd.prog 76:=good_of tok con0 (fn:=Tryd.f76) rfl (by decide+kernel) (fun _=>rfl) fl_keeps
def cfgR0:Cfg:=⟨T,[],[(76,.one flC)],noInv,60,{}⟩
theorem conR0:ConOk Tryd.prog cfgR0:=ConL.ok (.cons (ConL.one fl_good) .nil)
def nxC:CT where
 X:=Rd
 pre:=RdOk
 args:=fun x=>[.p 100000 0 0]
 g0:=fun x=>rdB 100000 100001 x
 res:=fun x=>.tup [.i .u8 (nxtB x),.b (nxtOk x)]
 g1:=fun x=>rdB 100000 1 (nxt x)
theorem nx_e {r:Rd} (h:r.e≠0):nxt r=r/\nxtOk r=false/\nxtB r=0:=by
 unfold nxt nxtOk nxtB
 rw[if_pos h,decide_eq_false (fun q=>h q.1),if_neg (fun q=>h q.1)]
 exact⟨rfl,rfl,rfl⟩
theorem nx_n {r:Rd} (h:¬ r.e≠0) (h0:RdOk r) (h1:((r.B.length-r.lo:Nat):Int)=0):nxt r=bad 11/\nxtOk r=false/\nxtB r=0:=by
 have h2:¬ (r.e=0/\r.lo<r.B.length):=by omega
 have h3:r.B.length<=r.lo:=by omega
 unfold nxt nxtOk nxtB
 rw[if_neg h,decide_eq_false h2,if_neg h2,if_pos h3]
 exact⟨rfl,rfl,rfl⟩
theorem nx_y {r:Rd} (h:¬ r.e≠0) (h1:¬ ((r.B.length-r.lo:Nat):Int)=0):nxt r=⟨r.B,r.lo+1,r.e⟩/\nxtOk r=true/\nxtB r=r.B.getD r.lo 0:=by
 have h2:r.e=0:=Decidable.of_not_not h
 have h3:r.e=0/\r.lo<r.B.length:=⟨h2,by omega⟩
 have h4:¬ r.B.length<=r.lo:=by omega
 unfold nxt nxtOk nxtB
 rw[if_neg h,decide_eq_true h3,if_pos h3,if_neg h4,h2]
 exact⟨rfl,rfl,rfl⟩
set_option maxRecDepth 100000 in
theorem nx_keeps:Keeps cfgR0 Tryd.f75 nxC noIv:=Eq.mp (show((∀ x1:Rd,((RdOk x1)->(((decide (x1.e≠(0:Int))=true)->((((0:Int)=nxtB x1)/\((false=nxtOk x1)/\True))/\((((x1.lo=(nxt x1).lo)/\(x1.B.length-x1.lo=(nxt x1).B.length-(nxt x1).lo))/\((x1.e=(nxt x1).e)/\True))/\(((RLe (nxt x1).B.length x1.B.length)/\(RowsEq (.int IntKind.u8::[]) (nxt x1).B.length (encL encI x1.B) (encL encI (nxt x1).B)))/\True))))/\((decide (x1.e≠(0:Int))=false)->(((decide ((↑(x1.B.length-x1.lo):Int)=0)=true)->(∃ x6:Rd × Int,(True/\(((0=0/\0=0)/\(((11:Int)=Prod.snd x6)/\True))/\(((((x1.lo=(Prod.fst x6).lo)/\(x1.B.length-x1.lo=(Prod.fst x6).B.length-(Prod.fst x6).lo))/\((x1.e=(Prod.fst x6).e)/\True))/\(((RLe (Prod.fst x6).B.length x1.B.length)/\(RowsEq (.int IntKind.u8::[]) (Prod.fst x6).B.length (encL encI x1.B) (encL encI (Prod.fst x6).B)))/\True))/\((((0:Int)=nxtB x1)/\((false=nxtOk x1)/\True))/\(((((bad (Prod.snd x6)).lo=(nxt x1).lo)/\((bad (Prod.snd x6)).B.length-(bad (Prod.snd x6)).lo=(nxt x1).B.length-(nxt x1).lo))/\(((bad (Prod.snd x6)).e=(nxt x1).e)/\True))/\(((RLe (nxt x1).B.length (bad (Prod.snd x6)).B.length)/\(RowsEq (.int IntKind.u8::[]) (nxt x1).B.length (encL encI (bad (Prod.snd x6)).B) (encL encI (nxt x1).B)))/\True))))))))/\((decide ((↑(x1.B.length-x1.lo):Int)=0)=false)->((((0:Int)<=(0:Int))/\(0<(↑(x1.B.length-x1.lo):Int)))/\((x1.lo+Int.toNat 0<x1.B.length)/\((((0:Int)<=(1:Int))/\(((1:Int)<=(↑(x1.B.length-x1.lo):Int))/\((↑(x1.B.length-x1.lo):Int)<=(↑(x1.B.length-x1.lo):Int))))/\(((x1.B.getD (x1.lo+Int.toNat (0:Int)) default=nxtB x1)/\((true=nxtOk x1)/\True))/\((((x1.lo+Int.toNat 1=(nxt x1).lo)/\(Int.toNat (↑(x1.B.length-x1.lo):Int)-Int.toNat 1=(nxt x1).B.length-(nxt x1).lo))/\((x1.e=(nxt x1).e)/\True))/\(((RLe (nxt x1).B.length x1.B.length)/\(RowsEq (.int IntKind.u8::[]) (nxt x1).B.length (encL encI x1.B) (encL encI (nxt x1).B)))/\True)))))))))))))=(Keeps cfgR0 Tryd.f75 nxC noIv) by kernel_rfl) (fun x1=>fun h2=>⟨fun g3=>have h3:=dT g3;⟨⟨(by exact(nx_e h3).2.2.symm),
(by exact(nx_e h3).2.1.symm),trivial⟩,
⟨⟨(by(rw[(nx_e h3).1])),
(by(rw[(nx_e h3).1]))⟩,
(by(rw[(nx_e h3).1])),trivial⟩,
⟨⟨(by(rw[(nx_e h3).1];exact Nat.le_refl _))⟩,
(by(rw[(nx_e h3).1];exact rr))⟩,trivial⟩,
fun g4=>have h4:=dF g4;⟨fun g5=>have h5:=dT g5;⟨((x1,(11:Int))),trivial,
⟨⟨rfl,rfl⟩,rfl,trivial⟩,
⟨⟨⟨rfl,rfl⟩,rfl,trivial⟩,
⟨rl,rr⟩,trivial⟩,
⟨(by(try dsimp only at *);exact(nx_n h4 h2 h5).2.2.symm),
(by(try dsimp only at *);exact(nx_n h4 h2 h5).2.1.symm),trivial⟩,
⟨⟨(by(try dsimp only at *);(rw[(nx_n h4 h2 h5).1])),
(by(try dsimp only at *);(rw[(nx_n h4 h2 h5).1]))⟩,
(by(try dsimp only at *);(rw[(nx_n h4 h2 h5).1])),trivial⟩,
⟨⟨(by(try dsimp only at *);(rw[(nx_n h4 h2 h5).1];exact Nat.le_refl _))⟩,
(by(try dsimp only at *);(rw[(nx_n h4 h2 h5).1];exact rr))⟩,trivial⟩,
fun g7=>have h7:=dF g7;⟨⟨(by(try dsimp only at *);omega),
(by(try dsimp only at *);omega)⟩,
(by(try dsimp only at *);omega),
⟨(by(try dsimp only at *);omega),
(by(try dsimp only at *);omega),
(by(try dsimp only at *);omega)⟩,
⟨(by(try dsimp only at *);exact(nx_y h4 h7).2.2.symm),
(by(try dsimp only at *);exact(nx_y h4 h7).2.1.symm),trivial⟩,
⟨⟨(by(try dsimp only at *);(rw[(nx_y h4 h7).1];rfl)),
(by(try dsimp only at *);(rw[(nx_y h4 h7).1];rfl))⟩,
(by(try dsimp only at *);(rw[(nx_y h4 h7).1])),trivial⟩,
⟨⟨(by(try dsimp only at *);(rw[(nx_y h4 h7).1];exact Nat.le_refl _))⟩,
(by(try dsimp only at *);(rw[(nx_y h4 h7).1];exact rr))⟩,trivial⟩⟩⟩)
theorem nx_good:Good Tryd.prog 75 nxC/\FnOk Tryd.prog 75:=good_of tok conR0 (fn:=Tryd.f75) rfl (by decide+kernel) (fun _=>rfl) nx_keeps
def cfgR1:Cfg:=⟨T,[],[(76,.one flC),(75,.one nxC)],noInv,60,{}⟩
theorem conR1:ConOk Tryd.prog cfgR1:=ConL.ok (.cons (ConL.one fl_good) (.cons (ConL.one nx_good) .nil))
def riC:CT where
 X:=Rd
 pre:=RdOk
 args:=fun x=>[.p 100000 0 0]
 g0:=fun x=>rdB 100000 100001 x
 res:=fun x=>.i .i64 (intV x)
 g1:=fun x=>rdB 100000 1 (intR x)
structure RI' where
 r:Rd
 i:Nat
 u:Nat
structure riP (x:Rd) (s:RI'):Prop where
 v:inV s.r s.i s.u=intV x
 r:inR' s.r s.i s.u=intR x
 ok:RdOk s.r
 i:s.i<=9
 u:s.u<2 ^ (7*s.i)
def rdN (r:Rd) (i u:Nat):Nat:=u+((nxtB r).toNat%128)*2 ^ (7*i)
theorem nok {r:Rd} (h:(!nxtOk r)=false):r.e=0/\r.lo<r.B.length:=by
 unfold nxtOk at h
 simpa using h
theorem nno {r:Rd} (h:(!nxtOk r)=true):¬ (r.e=0/\r.lo<r.B.length):=by
 unfold nxtOk at h
 intro q
 rw[decide_eq_true q]at h
 cases h
theorem nxtB_r {r:Rd} (h:RdOk r):0<=nxtB r/\nxtB r<=255:=by
 unfold nxtB
 split
 ·rename_i q
  rw[List.getD_eq_getElem?_getD,List.getElem?_eq_getElem q.2]
  exact h.b _ (List.getElem_mem _)
 ·decide
theorem drop_y {r:Rd} (h:r.e=0/\r.lo<r.B.length):r.B.drop r.lo=nxtB r::r.B.drop (r.lo+1):=by
 rw[List.drop_eq_getElem_cons h.2]
 unfold nxtB
 rw[if_pos h,List.getD_eq_getElem?_getD,List.getElem?_eq_getElem h.2]
 rfl
theorem nxt_y {r:Rd} (h:r.e=0/\r.lo<r.B.length):nxt r=⟨r.B,r.lo+1,0⟩:=by
 unfold nxt
 rw[if_neg (fun q=>q h.1),if_neg (by omega)]
theorem in_no {r:Rd} {i u:Nat} (h:¬ (r.e=0/\r.lo<r.B.length)) (h0:RdOk r):inV r i u=0/\inR' r i u=nxt r:=by
 unfold inV inR' nxt
 by_cases he:r.e≠0
 ·rw[if_pos he,if_pos he,if_pos he]
  exact⟨rfl,rfl⟩
 ·have h3:r.B.length<=r.lo:=by omega
  rw[if_neg he,if_neg he,if_neg he,if_pos h3,List.drop_of_length_le h3]
  exact⟨rfl,rfl⟩
theorem in_bad {r:Rd} {i u:Nat} (h:r.e=0/\r.lo<r.B.length) (hb:rdBad i (nxtB r)):inV r i u=0/\inR' r i u=bad 2:=by
 unfold inV inR'
 rw[if_neg (fun q=>q h.1),if_neg (fun q=>q h.1),drop_y h]
 unfold rdU
 rw[if_pos hb]
 exact⟨rfl,rfl⟩
theorem in_last {r:Rd} {i u:Nat} (h:r.e=0/\r.lo<r.B.length) (hb:¬ rdBad i (nxtB r)) (h1:nxtB r<128):inV r i u=unzz (rdN r i u)/\inR' r i u=nxt r:=by
 unfold inV inR'
 rw[if_neg (fun q=>q h.1),if_neg (fun q=>q h.1),drop_y h]
 unfold rdU
 rw[if_neg hb,if_pos h1,nxt_y h]
 unfold rdV rdR
 rw[if_pos rfl,if_pos rfl]
 refine⟨rfl,?_⟩
 rw[List.length_drop]
 congr 1
 omega
theorem in_more {r:Rd} {i u:Nat} (h:r.e=0/\r.lo<r.B.length) (hb:¬ rdBad i (nxtB r)) (h1:¬ nxtB r<128):inV r i u=inV (nxt r) (i+1) (rdN r i u)/\inR' r i u=inR' (nxt r) (i+1) (rdN r i u):=by
 have e:rdU i u (nxtB r::r.B.drop (r.lo+1))=rdU (i+1) (rdN r i u) (r.B.drop (r.lo+1)):=by
  rw[rdU,if_neg hb,if_neg h1]
  rfl
 obtain⟨B,lo,ee⟩:=r
 obtain⟨h2,h3⟩:=h
 cases h2
 rw[nxt_y ⟨rfl,h3⟩]
 unfold inV inR'
 rw[if_neg (fun q=>q rfl),if_neg (fun q=>q rfl),if_neg (fun q=>q rfl),if_neg (fun q=>q rfl),drop_y ⟨rfl,h3⟩,e]
 exact⟨rfl,rfl⟩
theorem rdN_lt {r:Rd} {i u:Nat} (hi:i<=9) (hu:u<2 ^ (7*i)) (hb:¬ rdBad i (nxtB r)):rdN r i u<18446744073709551616/\rdN r i u<2 ^ (7*(i+1)):=by
 have h9:¬ (i=9/\nxtB r≠1):=fun h=>hb (.inl h)
 unfold rdN
 have hm:(nxtB r).toNat%128<=127:=by omega
 have e:2 ^ (7*(i+1))=128*2 ^ (7*i):=by rw[Nat.mul_add,Nat.pow_add];omega
 have h2:((nxtB r).toNat%128)*2 ^ (7*i)<=127*2 ^ (7*i):=Nat.mul_le_mul_right _ hm
 refine⟨?_,by omega⟩
 rcases(show i=9∨i<=8 by omega)with rfl|h8
 ·have hb:nxtB r=1:=Decidable.byContradiction fun h=>h9 ⟨rfl,h⟩
  rw[hb]
  have:u<2 ^ 63:=hu
  show u+1%128*2 ^ 63<_
  omega
 ·have:2 ^ (7*i)<=2 ^ 56:=Nat.pow_le_pow_right (by decide) (by omega)
  omega
theorem rdN_bits {r:Rd} {i u:Nat} (h0:RdOk r) (hi:i<=9) (hu:u<2 ^ (7*i)) (hb:¬ rdBad i (nxtB r)):
  bitI .or .u64 (u:Int) (IntKind.u64.wrap (bitI .and .u8 (nxtB r) 127*2 ^ (min (Int.toNat (7*(i:Int))) IntKind.u64.bits)))=((rdN r i u:Nat):Int):=by
 rw[and127 (nxtB_r h0)]
 exact or_add hu (rdN_lt hi hu hb).1 hi
theorem and127_r {r:Rd} (h0:RdOk r):0<=bitI .and .u8 (nxtB r) 127/\bitI .and .u8 (nxtB r) 127<=18446744073709551615:=by
 rw[and127 (nxtB_r h0)]
 omega
theorem and1_r (v:Int):0<=bitI .and .u64 v 1/\bitI .and .u64 v 1<=1:=by
 have h:(BitVec.ofInt IntKind.u64.bits v&&&BitVec.ofInt IntKind.u64.bits 1).toNat<=1:=by
  rw[BitVec.toNat_and]
  exact Nat.and_le_right
 simp only[bitI]
 rw[wrap64]
 omega
theorem and1_a (v:Int): -9223372036854775808<=bitI .and .u64 v 1:=by have:=and1_r v;omega
theorem and1_b (v:Int):bitI .and .u64 v 1<=9223372036854775807:=by have:=and1_r v;omega
theorem and1_c (v:Int): -9223372036854775808<=0-bitI .and .u64 v 1:=by have:=and1_r v;omega
theorem and1_d (v:Int):0-bitI .and .u64 v 1<=9223372036854775807:=by have:=and1_r v;omega
theorem half_r {v:Int} {u:Nat} (h:v=u) (hu:u<18446744073709551616): -9223372036854775808<=v.fdiv (2 ^ (min (Int.toNat 1) IntKind.u64.bits))/\v.fdiv (2 ^ (min (Int.toNat 1) IntKind.u64.bits))<=9223372036854775807:=by
 have e1:min (Int.toNat 1) IntKind.u64.bits=1:=rfl
 rw[e1,Int.fdiv_eq_ediv_of_nonneg _ (by decide),h]
 omega
theorem fin_eq {v:Int} {u:Nat} (h:v=u) (hu:u<18446744073709551616):bitI .xor .i64 (v.fdiv (2 ^ (min (Int.toNat 1) IntKind.u64.bits))) (0-bitI .and .u64 v 1)=unzz u:=by
 subst h
 exact unzz_bits hu
theorem ri_0 {x:Rd} (h:RdOk x):riP x ⟨x,0,0⟩:=⟨rfl,rfl,h,Nat.zero_le _,(by show 0<2 ^ (7*0);exact Nat.one_pos)⟩
theorem ri_n {x:Rd} {s:RI'} (h:riP x s) (h1:(!nxtOk s.r)=true):intV x=0/\intR x=nxt s.r:=by
 have:=in_no (i:=s.i) (u:=s.u) (nno h1) h.ok
 rw[<- h.v,<- h.r]
 exact this
theorem ri_b {x:Rd} {s:RI'} (h:riP x s) (h1:(!nxtOk s.r)=false) (h2:rdBad s.i (nxtB s.r)):intV x=0/\intR x=bad 2:=by
 rw[<- h.v,<- h.r]
 exact in_bad (nok h1) h2
theorem ri_l {x:Rd} {s:RI'} (h:riP x s) (h1:(!nxtOk s.r)=false) (h2:¬ rdBad s.i (nxtB s.r)) (h3:nxtB s.r<128):intV x=unzz (rdN s.r s.i s.u)/\intR x=nxt s.r:=by
 rw[<- h.v,<- h.r]
 exact in_last (nok h1) h2 h3
def riN (s:RI'):RI':=⟨nxt s.r,s.i+1,rdN s.r s.i s.u⟩
theorem ri_m {x:Rd} {s:RI'} (h:riP x s) (h1:(!nxtOk s.r)=false) (h2:¬ rdBad s.i (nxtB s.r)) (h3:¬ nxtB s.r<128):riP x (riN s):=by
 have h4:=in_more (i:=s.i) (u:=s.u) (nok h1) h2 h3
 refine⟨h4.1.symm.trans h.v,h4.2.symm.trans h.r,nxt_ok h.ok,?_,(rdN_lt h.i h.u h2).2⟩
 show s.i+1<=9
 rcases(show s.i=9∨s.i<=8 by have:=h.i;omega)with h9|h8
 ·exact absurd (.inl ⟨h9,by omega⟩) h2
 ·omega
theorem ri_ten {x:Rd} {s:RI'} (h:riP x s) (h1:¬ (s.i:Int)<10) {p:Prop}:p:=absurd h.i (by omega)
theorem ri_bits {x:Rd} {s:RI'} (h:riP x s) (h2:¬ rdBad s.i (nxtB s.r)):
  bitI .or .u64 (s.u:Int) (IntKind.u64.wrap (bitI .and .u8 (nxtB s.r) 127*2 ^ (min (Int.toNat (7*(s.i:Int))) IntKind.u64.bits)))=((rdN s.r s.i s.u:Nat):Int):=rdN_bits h.ok h.i h.u h2
def riI (x:Rd) (id:Nat):Option Inv:=match id with
 | 0 => some { X := RI', ok := fun s => riP x s, fr := fun s => [(0, .p 100000 0 0), (3, .i .u64 s.u), (7, .i .i64 s.i)], hp := fun s => rdB 100000 331 s.r ++ [(100001, .rows .bor kB x.B.length (encL encI x.B))], me := fun s => 10 - s.i,
               inn:=fun s id=>match id with|100030=>some (cutB 30 (decide (rdBad s.i (nxtB s.r))))|_=>none }
 |_=>none
set_option maxRecDepth 100000 in
theorem ri_keeps:Keeps cfgR1 Tryd.f51 riC riI:=Eq.mp (show((∀ x1:Rd,((RdOk x1)->(∃ x3:RI',(((riP x1 x3)/\(((0=0/\0=0)/\((0=(↑(RI'.u x3):Int))/\((0=(↑(RI'.i x3):Int))/\True)))/\((((x1.lo=(RI'.r x3).lo)/\(x1.B.length-x1.lo=(RI'.r x3).B.length-(RI'.r x3).lo))/\((x1.e=(RI'.r x3).e)/\True))/\(((RLe (RI'.r x3).B.length x1.B.length)/\(RowsEq (.int IntKind.u8::[]) (RI'.r x3).B.length (encL encI x1.B) (encL encI (RI'.r x3).B)))/\(((RLe x1.B.length x1.B.length)/\(RowsEq (.int IntKind.u8::[]) x1.B.length (encL encI x1.B) (encL encI x1.B)))/\True)))))/\(∀ x4:RI',((riP x1 x4)->(((decide ((↑(RI'.i x4):Int)<10)=true)->(∃ x7:Rd,((RdOk x7)/\(((0=0/\0=0)/\True)/\((((((RI'.r x4).lo=x7.lo)/\((RI'.r x4).B.length-(RI'.r x4).lo=x7.B.length-x7.lo))/\(((RI'.r x4).e=x7.e)/\True))/\(((RLe x7.B.length (RI'.r x4).B.length)/\(RowsEq (.int IntKind.u8::[]) x7.B.length (encL encI (RI'.r x4).B) (encL encI x7.B)))/\True))/\((((!nxtOk x7)=true)->(((0:Int)=intV x1)/\(((((nxt x7).lo=(intR x1).lo)/\((nxt x7).B.length-(nxt x7).lo=(intR x1).B.length-(intR x1).lo))/\(((nxt x7).e=(intR x1).e)/\True))/\(((RLe (intR x1).B.length (nxt x7).B.length)/\(RowsEq (.int IntKind.u8::[]) (intR x1).B.length (encL encI (nxt x7).B) (encL encI (intR x1).B)))/\True))))/\(((!nxtOk x7)=false)->((((decide ((↑(RI'.i x4):Int)=9)=true)->(((decide (nxtB x7≠(1:Int))=false)->(((decide (0<(↑(RI'.i x4):Int))=true)->(∃ x13:Unit,(True/\((decide (nxtB x7=0)=decide (rdBad (RI'.i x4) (nxtB (RI'.r x4))))/\True))))/\((decide (0<(↑(RI'.i x4):Int))=false)->(∃ x15:Unit,(True/\((false=decide (rdBad (RI'.i x4) (nxtB (RI'.r x4))))/\True))))))/\((decide (nxtB x7≠(1:Int))=true)->(∃ x17:Unit,(True/\((true=decide (rdBad (RI'.i x4) (nxtB (RI'.r x4))))/\True))))))/\((decide ((↑(RI'.i x4):Int)=9)=false)->(((decide (0<(↑(RI'.i x4):Int))=true)->(∃ x20:Unit,(True/\((decide (nxtB x7=0)=decide (rdBad (RI'.i x4) (nxtB (RI'.r x4))))/\True))))/\((decide (0<(↑(RI'.i x4):Int))=false)->(∃ x22:Unit,(True/\((false=decide (rdBad (RI'.i x4) (nxtB (RI'.r x4))))/\True)))))))/\(∀ x23:Unit,(True->(((decide (rdBad (RI'.i x4) (nxtB (RI'.r x4)))=true)->(∃ x26:Rd × Int,(True/\(((0=0/\0=0)/\(((2:Int)=Prod.snd x26)/\True))/\((((((nxt x7).lo=(Prod.fst x26).lo)/\((nxt x7).B.length-(nxt x7).lo=(Prod.fst x26).B.length-(Prod.fst x26).lo))/\(((nxt x7).e=(Prod.fst x26).e)/\True))/\(((RLe (Prod.fst x26).B.length (nxt x7).B.length)/\(RowsEq (.int IntKind.u8::[]) (Prod.fst x26).B.length (encL encI (nxt x7).B) (encL encI (Prod.fst x26).B)))/\True))/\(((0:Int)=intV x1)/\(((((bad (Prod.snd x26)).lo=(intR x1).lo)/\((bad (Prod.snd x26)).B.length-(bad (Prod.snd x26)).lo=(intR x1).B.length-(intR x1).lo))/\(((bad (Prod.snd x26)).e=(intR x1).e)/\True))/\(((RLe (intR x1).B.length (bad (Prod.snd x26)).B.length)/\(RowsEq (.int IntKind.u8::[]) (intR x1).B.length (encL encI (bad (Prod.snd x26)).B) (encL encI (intR x1).B)))/\True))))))))/\((decide (rdBad (RI'.i x4) (nxtB (RI'.r x4)))=false)->((((0:Int)<=IntKind.wrap IntKind.u8 (↑(BitVec.toNat (BitVec.ofInt (IntKind.bits IntKind.u8) (nxtB x7)&&&BitVec.ofInt (IntKind.bits IntKind.u8) (127:Int))):Int))/\(IntKind.wrap IntKind.u8 (↑(BitVec.toNat (BitVec.ofInt (IntKind.bits IntKind.u8) (nxtB x7)&&&BitVec.ofInt (IntKind.bits IntKind.u8) (127:Int))):Int)<=(18446744073709551615:Int)))/\((((-9223372036854775808:Int)<=(7:Int)*(↑(RI'.i x4):Int))/\((7:Int)*(↑(RI'.i x4):Int)<=(9223372036854775807:Int)))/\(((0:Int)<=(7:Int)*(↑(RI'.i x4):Int))/\(((decide (nxtB x7<128)=true)->(((0:Int)<=(1:Int))/\((((-9223372036854775808:Int)<=Int.fdiv (IntKind.wrap .u64 (↑(BitVec.toNat (BitVec.ofInt (IntKind.bits .u64) (↑(RI'.u x4):Int)|||BitVec.ofInt (IntKind.bits .u64) (IntKind.wrap .u64 (IntKind.wrap IntKind.u8 (↑(BitVec.toNat (BitVec.ofInt (IntKind.bits IntKind.u8) (nxtB x7)&&&BitVec.ofInt (IntKind.bits IntKind.u8) (127:Int))):Int)*2 ^ min (Int.toNat ((7:Int)*(↑(RI'.i x4):Int))) (IntKind.bits .u64))))):Int)) ((2:Int) ^ min (Int.toNat (1:Int)) (IntKind.bits .u64)))/\(Int.fdiv (IntKind.wrap .u64 (↑(BitVec.toNat (BitVec.ofInt (IntKind.bits .u64) (↑(RI'.u x4):Int)|||BitVec.ofInt (IntKind.bits .u64) (IntKind.wrap .u64 (IntKind.wrap IntKind.u8 (↑(BitVec.toNat (BitVec.ofInt (IntKind.bits IntKind.u8) (nxtB x7)&&&BitVec.ofInt (IntKind.bits IntKind.u8) (127:Int))):Int)*2 ^ min (Int.toNat ((7:Int)*(↑(RI'.i x4):Int))) (IntKind.bits .u64))))):Int)) ((2:Int) ^ min (Int.toNat (1:Int)) (IntKind.bits .u64))<=(9223372036854775807:Int)))/\((((-9223372036854775808:Int)<=IntKind.wrap .u64 (↑(BitVec.toNat (BitVec.ofInt (IntKind.bits .u64) (IntKind.wrap .u64 (↑(BitVec.toNat (BitVec.ofInt (IntKind.bits .u64) (↑(RI'.u x4):Int)|||BitVec.ofInt (IntKind.bits .u64) (IntKind.wrap .u64 (IntKind.wrap IntKind.u8 (↑(BitVec.toNat (BitVec.ofInt (IntKind.bits IntKind.u8) (nxtB x7)&&&BitVec.ofInt (IntKind.bits IntKind.u8) (127:Int))):Int)*2 ^ min (Int.toNat ((7:Int)*(↑(RI'.i x4):Int))) (IntKind.bits .u64))))):Int))&&&BitVec.ofInt (IntKind.bits .u64) (1:Int))):Int))/\(IntKind.wrap .u64 (↑(BitVec.toNat (BitVec.ofInt (IntKind.bits .u64) (IntKind.wrap .u64 (↑(BitVec.toNat (BitVec.ofInt (IntKind.bits .u64) (↑(RI'.u x4):Int)|||BitVec.ofInt (IntKind.bits .u64) (IntKind.wrap .u64 (IntKind.wrap IntKind.u8 (↑(BitVec.toNat (BitVec.ofInt (IntKind.bits IntKind.u8) (nxtB x7)&&&BitVec.ofInt (IntKind.bits IntKind.u8) (127:Int))):Int)*2 ^ min (Int.toNat ((7:Int)*(↑(RI'.i x4):Int))) (IntKind.bits .u64))))):Int))&&&BitVec.ofInt (IntKind.bits .u64) (1:Int))):Int)<=(9223372036854775807:Int)))/\((((-9223372036854775808:Int)<=(0:Int)-IntKind.wrap .u64 (↑(BitVec.toNat (BitVec.ofInt (IntKind.bits .u64) (IntKind.wrap .u64 (↑(BitVec.toNat (BitVec.ofInt (IntKind.bits .u64) (↑(RI'.u x4):Int)|||BitVec.ofInt (IntKind.bits .u64) (IntKind.wrap .u64 (IntKind.wrap IntKind.u8 (↑(BitVec.toNat (BitVec.ofInt (IntKind.bits IntKind.u8) (nxtB x7)&&&BitVec.ofInt (IntKind.bits IntKind.u8) (127:Int))):Int)*2 ^ min (Int.toNat ((7:Int)*(↑(RI'.i x4):Int))) (IntKind.bits .u64))))):Int))&&&BitVec.ofInt (IntKind.bits .u64) (1:Int))):Int))/\((0:Int)-IntKind.wrap .u64 (↑(BitVec.toNat (BitVec.ofInt (IntKind.bits .u64) (IntKind.wrap .u64 (↑(BitVec.toNat (BitVec.ofInt (IntKind.bits .u64) (↑(RI'.u x4):Int)|||BitVec.ofInt (IntKind.bits .u64) (IntKind.wrap .u64 (IntKind.wrap IntKind.u8 (↑(BitVec.toNat (BitVec.ofInt (IntKind.bits IntKind.u8) (nxtB x7)&&&BitVec.ofInt (IntKind.bits IntKind.u8) (127:Int))):Int)*2 ^ min (Int.toNat ((7:Int)*(↑(RI'.i x4):Int))) (IntKind.bits .u64))))):Int))&&&BitVec.ofInt (IntKind.bits .u64) (1:Int))):Int)<=(9223372036854775807:Int)))/\((IntKind.wrap .i64 (↑(BitVec.toNat (BitVec.ofInt (IntKind.bits .i64) (Int.fdiv (IntKind.wrap .u64 (↑(BitVec.toNat (BitVec.ofInt (IntKind.bits .u64) (↑(RI'.u x4):Int)|||BitVec.ofInt (IntKind.bits .u64) (IntKind.wrap .u64 (IntKind.wrap IntKind.u8 (↑(BitVec.toNat (BitVec.ofInt (IntKind.bits IntKind.u8) (nxtB x7)&&&BitVec.ofInt (IntKind.bits IntKind.u8) (127:Int))):Int)*2 ^ min (Int.toNat ((7:Int)*(↑(RI'.i x4):Int))) (IntKind.bits .u64))))):Int)) ((2:Int) ^ min (Int.toNat (1:Int)) (IntKind.bits .u64))) ^^^ BitVec.ofInt (IntKind.bits .i64) ((0:Int)-IntKind.wrap .u64 (↑(BitVec.toNat (BitVec.ofInt (IntKind.bits .u64) (IntKind.wrap .u64 (↑(BitVec.toNat (BitVec.ofInt (IntKind.bits .u64) (↑(RI'.u x4):Int)|||BitVec.ofInt (IntKind.bits .u64) (IntKind.wrap .u64 (IntKind.wrap IntKind.u8 (↑(BitVec.toNat (BitVec.ofInt (IntKind.bits IntKind.u8) (nxtB x7)&&&BitVec.ofInt (IntKind.bits IntKind.u8) (127:Int))):Int)*2 ^ min (Int.toNat ((7:Int)*(↑(RI'.i x4):Int))) (IntKind.bits .u64))))):Int))&&&BitVec.ofInt (IntKind.bits .u64) (1:Int))):Int)))):Int)=intV x1)/\(((((nxt x7).lo=(intR x1).lo)/\((nxt x7).B.length-(nxt x7).lo=(intR x1).B.length-(intR x1).lo))/\(((nxt x7).e=(intR x1).e)/\True))/\(((RLe (intR x1).B.length (nxt x7).B.length)/\(RowsEq (.int IntKind.u8::[]) (intR x1).B.length (encL encI (nxt x7).B) (encL encI (intR x1).B)))/\True))))))))/\((decide (nxtB x7<128)=false)->((((-9223372036854775808:Int)<=(↑(RI'.i x4):Int)+1)/\((↑(RI'.i x4):Int)+1<=(9223372036854775807:Int)))/\(∃ x30:RI',(((10:Nat)-RI'.i x30<(10:Nat)-RI'.i x4)/\((riP x1 x30)/\(((0=0/\0=0)/\((IntKind.wrap .u64 (↑(BitVec.toNat (BitVec.ofInt (IntKind.bits .u64) (↑(RI'.u x4):Int)|||BitVec.ofInt (IntKind.bits .u64) (IntKind.wrap .u64 (IntKind.wrap IntKind.u8 (↑(BitVec.toNat (BitVec.ofInt (IntKind.bits IntKind.u8) (nxtB x7)&&&BitVec.ofInt (IntKind.bits IntKind.u8) (127:Int))):Int)*2 ^ min (Int.toNat ((7:Int)*(↑(RI'.i x4):Int))) (IntKind.bits .u64))))):Int)=(↑(RI'.u x30):Int))/\(((↑(RI'.i x4):Int)+1=(↑(RI'.i x30):Int))/\True)))/\(((((nxt x7).lo=(RI'.r x30).lo)/\((nxt x7).B.length-(nxt x7).lo=(RI'.r x30).B.length-(RI'.r x30).lo))/\(((nxt x7).e=(RI'.r x30).e)/\True))/\(((RLe (RI'.r x30).B.length (nxt x7).B.length)/\(RowsEq (.int IntKind.u8::[]) (RI'.r x30).B.length (encL encI (nxt x7).B) (encL encI (RI'.r x30).B)))/\(((RLe x1.B.length x1.B.length)/\(RowsEq (.int IntKind.u8::[]) x1.B.length (encL encI x1.B) (encL encI x1.B)))/\True)))))))))))))))))))))))))/\((decide ((↑(RI'.i x4):Int)<10)=false)->(((0:Int)<=(1:Int))/\((((-9223372036854775808:Int)<=Int.fdiv (↑(RI'.u x4):Int) ((2:Int) ^ min (Int.toNat (1:Int)) (IntKind.bits .u64)))/\(Int.fdiv (↑(RI'.u x4):Int) ((2:Int) ^ min (Int.toNat (1:Int)) (IntKind.bits .u64))<=(9223372036854775807:Int)))/\((((-9223372036854775808:Int)<=IntKind.wrap .u64 (↑(BitVec.toNat (BitVec.ofInt (IntKind.bits .u64) (↑(RI'.u x4):Int)&&&BitVec.ofInt (IntKind.bits .u64) (1:Int))):Int))/\(IntKind.wrap .u64 (↑(BitVec.toNat (BitVec.ofInt (IntKind.bits .u64) (↑(RI'.u x4):Int)&&&BitVec.ofInt (IntKind.bits .u64) (1:Int))):Int)<=(9223372036854775807:Int)))/\((((-9223372036854775808:Int)<=(0:Int)-IntKind.wrap .u64 (↑(BitVec.toNat (BitVec.ofInt (IntKind.bits .u64) (↑(RI'.u x4):Int)&&&BitVec.ofInt (IntKind.bits .u64) (1:Int))):Int))/\((0:Int)-IntKind.wrap .u64 (↑(BitVec.toNat (BitVec.ofInt (IntKind.bits .u64) (↑(RI'.u x4):Int)&&&BitVec.ofInt (IntKind.bits .u64) (1:Int))):Int)<=(9223372036854775807:Int)))/\((IntKind.wrap .i64 (↑(BitVec.toNat (BitVec.ofInt (IntKind.bits .i64) (Int.fdiv (↑(RI'.u x4):Int) ((2:Int) ^ min (Int.toNat (1:Int)) (IntKind.bits .u64))) ^^^ BitVec.ofInt (IntKind.bits .i64) ((0:Int)-IntKind.wrap .u64 (↑(BitVec.toNat (BitVec.ofInt (IntKind.bits .u64) (↑(RI'.u x4):Int)&&&BitVec.ofInt (IntKind.bits .u64) (1:Int))):Int)))):Int)=intV x1)/\(((((RI'.r x4).lo=(intR x1).lo)/\((RI'.r x4).B.length-(RI'.r x4).lo=(intR x1).B.length-(intR x1).lo))/\(((RI'.r x4).e=(intR x1).e)/\True))/\(((RLe (intR x1).B.length (RI'.r x4).B.length)/\(RowsEq (.int IntKind.u8::[]) (intR x1).B.length (encL encI (RI'.r x4).B) (encL encI (intR x1).B)))/\True))))))))))))))))=(Keeps cfgR1 Tryd.f51 riC riI) by kernel_rfl) (fun x1=>fun h2=>⟨({ r:=x1,i:=(0:Nat),u:=(0:Nat):RI' }),
⟨(by(try dsimp only at *);exact ri_0 h2),
⟨⟨rfl,rfl⟩,
(by(try dsimp only at *);omega),
(by(try dsimp only at *);omega),trivial⟩,
⟨⟨rfl,rfl⟩,rfl,trivial⟩,
⟨rl,rr⟩,
⟨rl,rr⟩,trivial⟩,
fun x4=>fun h5=>⟨fun g6=>have h6:=dT g6;⟨(RI'.r x4),
(by(try dsimp only at *);exact h5.ok),
⟨⟨rfl,rfl⟩,trivial⟩,
⟨⟨⟨rfl,rfl⟩,rfl,trivial⟩,
⟨rl,rr⟩,trivial⟩,
fun h8=>⟨(by(try dsimp only at *);exact(ri_n h5 h8).1.symm),
⟨⟨(by(try dsimp only at *);(rw[(ri_n h5 h8).2])),
(by(try dsimp only at *);(rw[(ri_n h5 h8).2]))⟩,
(by(try dsimp only at *);(rw[(ri_n h5 h8).2])),trivial⟩,
⟨⟨(by(try dsimp only at *);(rw[(ri_n h5 h8).2];exact Nat.le_refl _))⟩,
(by(try dsimp only at *);(rw[(ri_n h5 h8).2];exact rr))⟩,trivial⟩,
fun h9=>⟨⟨fun g10=>have h10:=dT g10;⟨fun g11=>have h11:=dF g11;⟨fun g12=>have h12:=dT g12;⟨(default),trivial,
(by(try dsimp only at *);exact decide_eq_decide.2 (by unfold rdBad;omega)),trivial⟩,
fun g14=>have h14:=dF g14;⟨(default),trivial,
(by(try dsimp only at *);omega),trivial⟩⟩,
fun g16=>have h16:=dT g16;⟨(default),trivial,
(by(try dsimp only at *);exact(decide_eq_true (by unfold rdBad;omega)).symm),trivial⟩⟩,
fun g18=>have h18:=dF g18;⟨fun g19=>have h19:=dT g19;⟨(default),trivial,
(by(try dsimp only at *);exact decide_eq_decide.2 (by unfold rdBad;omega)),trivial⟩,
fun g21=>have h21:=dF g21;⟨(default),trivial,
(by(try dsimp only at *);exact(decide_eq_false (by unfold rdBad;omega)).symm),trivial⟩⟩⟩,
fun x23=>fun h24=>⟨fun g25=>have h25:=dT g25;⟨((nxt (RI'.r x4),(2:Int))),trivial,
⟨⟨rfl,rfl⟩,rfl,trivial⟩,
⟨⟨⟨rfl,rfl⟩,rfl,trivial⟩,
⟨rl,rr⟩,trivial⟩,
(by(try dsimp only at *);exact(ri_b h5 h9 h25).1.symm),
⟨⟨(by(try dsimp only at *);(rw[(ri_b h5 h9 h25).2])),
(by(try dsimp only at *);(rw[(ri_b h5 h9 h25).2]))⟩,
(by(try dsimp only at *);(rw[(ri_b h5 h9 h25).2])),trivial⟩,
⟨⟨(by(try dsimp only at *);(rw[(ri_b h5 h9 h25).2];exact Nat.le_refl _))⟩,
(by(try dsimp only at *);(rw[(ri_b h5 h9 h25).2];exact rr))⟩,trivial⟩,
fun g27=>have h27:=dF g27;⟨⟨(by(try dsimp only at *);exact(and127_r h5.ok).1),
(by(try dsimp only at *);exact(and127_r h5.ok).2)⟩,
⟨(by(try dsimp only at *);omega),
(by(try dsimp only at *);omega)⟩,
(by(try dsimp only at *);omega),
fun g28=>have h28:=dT g28;⟨(by(try dsimp only at *);omega),
⟨(by(try dsimp only at *);exact(half_r (ri_bits h5 h27) (rdN_lt h5.i h5.u h27).1).1),
(by(try dsimp only at *);exact(half_r (ri_bits h5 h27) (rdN_lt h5.i h5.u h27).1).2)⟩,
⟨(by(try dsimp only at *);exact and1_a _),
(by(try dsimp only at *);exact and1_b _)⟩,
⟨(by(try dsimp only at *);exact and1_c _),
(by(try dsimp only at *);exact and1_d _)⟩,
(by(try dsimp only at *);exact(fin_eq (ri_bits h5 h27) (rdN_lt h5.i h5.u h27).1).trans (ri_l h5 h9 h27 h28).1.symm),
⟨⟨(by(try dsimp only at *);(rw[(ri_l h5 h9 h27 h28).2])),
(by(try dsimp only at *);(rw[(ri_l h5 h9 h27 h28).2]))⟩,
(by(try dsimp only at *);(rw[(ri_l h5 h9 h27 h28).2])),trivial⟩,
⟨⟨(by(try dsimp only at *);(rw[(ri_l h5 h9 h27 h28).2];exact Nat.le_refl _))⟩,
(by(try dsimp only at *);(rw[(ri_l h5 h9 h27 h28).2];exact rr))⟩,trivial⟩,
fun g29=>have h29:=dF g29;⟨⟨(by(try dsimp only at *);omega),
(by(try dsimp only at *);omega)⟩,
({ r:=nxt (RI'.r x4),i:=RI'.i x4+(1:Nat),u:=rdN (RI'.r x4) (RI'.i x4) (RI'.u x4):RI' }),
(by(try dsimp only at *);omega),
(by(try dsimp only at *);exact ri_m h5 h9 h27 h29),
⟨⟨rfl,rfl⟩,
(by(try dsimp only at *);exact ri_bits h5 h27),
(by(try dsimp only at *);omega),trivial⟩,
⟨⟨rfl,rfl⟩,rfl,trivial⟩,
⟨rl,rr⟩,
⟨rl,rr⟩,trivial⟩⟩⟩⟩⟩,
fun g31=>have h31:=dF g31;⟨(by(try dsimp only at *);omega),
⟨(by(try dsimp only at *);grind),
(by(try dsimp only at *);exact ri_ten h5 ‹_›)⟩,
⟨(by(try dsimp only at *);exact and1_a _),
(by(try dsimp only at *);exact and1_b _)⟩,
⟨(by(try dsimp only at *);exact and1_c _),
(by(try dsimp only at *);exact and1_d _)⟩,
(by(try dsimp only at *);exact ri_ten h5 ‹_›),
⟨⟨(by(try dsimp only at *);exact ri_ten h5 ‹_›),
(by(try dsimp only at *);exact ri_ten h5 ‹_›)⟩,
(by(try dsimp only at *);exact ri_ten h5 ‹_›),trivial⟩,
⟨⟨(by(try dsimp only at *);exact ri_ten h5 ‹_›)⟩,
(by(try dsimp only at *);exact ri_ten h5 ‹_›)⟩,trivial⟩⟩⟩)
theorem ri_good:Good Tryd.prog 51 riC/\FnOk Tryd.prog 51:=good_of tok conR1 (fn:=Tryd.f51) rfl (by decide+kernel) (fun _=>rfl) ri_keeps
end Go.Sym