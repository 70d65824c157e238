import Derived.Test.YtakbmbmpcenljaaT03
import Derived.Test.YtakbmbmpcenljaaXD
namespace Go.Sym
set_option linter.unusedVariables false
set_option linter.unusedSimpArgs false
open Go.Proofs
set_option maxRecDepth 100000
set_option maxHeartbeats 4000000
def hsF (d:Array Pl) (a b:Nat):Array Pl:=Sort.heapSort ltP d a b
def hbF (x:SAx):Array Pl:=Sort.heapBuild ltP (x.b-x.a) x.a ((x.b-x.a-1) / 2+1) x.d
structure HBok (x:SAx) (s:INs):Prop where
 k:s.i<=(x.b-x.a-1) / 2+1
 n:s.d.size=x.d.size
 eq:Sort.heapBuild ltP (x.b-x.a) x.a s.i s.d=hbF x
structure HPok (x:SAx) (s:INs):Prop where
 k:s.i<=x.b-x.a
 n:s.d.size=x.d.size
 eq:Sort.heapPop ltP x.a s.i s.d=hsF x.d x.a x.b
def hsI (x:SAx) (id:Nat):Option Inv:=match id with
 |0=>some { X:=INs,ok:=fun s=>HBok x s,fr:=fun s=>[(11,.i .i64 ((s.i:Int)-1))],hp:=fun s=>[(100000,.rows .own kP x.d.size (aR s.d))],me:=fun s=>s.i }
 |2=>some { X:=INs,ok:=fun s=>HPok x s,fr:=fun s=>[(12,.i .i64 ((s.i:Int)-1))],hp:=fun s=>[(100000,.rows .own kP x.d.size (aR s.d))],me:=fun s=>s.i }
 |_=>none
theorem sd_size (d:Array Pl) (hi f:Nat):∀(n r:Nat) (d:Array Pl),hi-r<=n->(sdF d hi f r).size=d.size:=by
 intro n
 induction n with
 |zero=>
  intro r d h
  unfold sdF Sort.siftDown
  rw[dif_pos (by omega)]
 |succ n ih=>
  intro r d h
  unfold sdF
  unfold Sort.siftDown
  split
  ·rfl
  ·split
   ·split
    ·rfl
    ·split
     ·exact(ih _ _ (by omega)).trans (swp_size _ _ _)
     ·rfl
   ·split
    ·rfl
    ·exact(ih _ _ (by omega)).trans (swp_size _ _ _)
theorem sdF_size (d:Array Pl) (hi f r:Nat):(sdF d hi f r).size=d.size:=sd_size d hi f (hi-r) r d (Nat.le_refl _)
theorem hb_step {x:SAx} {s:INs} (h:HBok x s) (h0:(0:Int)<=(s.i:Int)-1):HBok x ⟨s.i-1,sdF s.d (x.b-x.a) x.a (s.i-1)⟩:=by
 have hk:=h.k
 refine⟨by show s.i-1<=_;omega,by show(sdF _ _ _ _).size=_;rw[sdF_size];exact h.n,?_⟩
 rw[<- h.eq]
 obtain⟨j,hj⟩:∃ j,s.i=j+1:=⟨s.i-1,by omega⟩
 rw[hj];rfl
theorem hb_end {x:SAx} {s:INs} (h:HBok x s) (h0:¬ (0:Int)<=(s.i:Int)-1):HPok x ⟨x.b-x.a,s.d⟩:=by
 refine⟨Nat.le_refl _,h.n,?_⟩
 have e:=h.eq
 rw[show s.i=0 by omega]at e
 have e:s.d=hbF x:=e
 show Sort.heapPop ltP x.a (x.b-x.a) s.d=_
 rw[e];rfl
theorem hp_step {x:SAx} {s:INs} (h:HPok x s) (h0:(0:Int)<=(s.i:Int)-1):HPok x ⟨s.i-1,sdF (Sort.swp s.d x.a (x.a+(s.i-1))) (s.i-1) x.a 0⟩:=by
 have hk:=h.k
 refine⟨by show s.i-1<=_;omega,by show(sdF _ _ _ _).size=_;rw[sdF_size,swp_size];exact h.n,?_⟩
 rw[<- h.eq]
 obtain⟨j,hj⟩:∃ j,s.i=j+1:=⟨s.i-1,by omega⟩
 rw[hj];rfl
theorem hp_end {x:SAx} {s:INs} (h:HPok x s) (h0:¬ (0:Int)<=(s.i:Int)-1):s.d=hsF x.d x.a x.b:=by
 have e:=h.eq
 rw[show s.i=0 by omega]at e
 exact e
theorem ix5 (f i:Nat) (h:(0:Int)<=(i:Int)-1):0+((f:Int)+((i:Int)-1)).toNat=f+(i-1):=by omega
theorem hb_sd {x:SAx} (hx:SAok x) {s:INs} (h:HBok x s) (h0:(0:Int)<=(s.i:Int)-1):SDok ⟨s.d,s.i-1,x.b-x.a,x.a⟩:=by
 have:=h.k;have:=h.n;have:=hx.n;have:=hx.b;have:=hx.a
 exact⟨by show s.d.size<=30;omega,by show x.a+(x.b-x.a)<=s.d.size;omega,by show s.i-1<=100;omega⟩
theorem hp_sd {x:SAx} (hx:SAok x) {s:INs} (h:HPok x s) (h0:(0:Int)<=(s.i:Int)-1):SDok ⟨Sort.swp s.d x.a (x.a+(s.i-1)),0,s.i-1,x.a⟩:=by
 have:=h.k;have:=h.n;have:=hx.n;have:=hx.b;have:=hx.a
 have e:=swp_size s.d x.a (x.a+(s.i-1))
 exact⟨by show(Sort.swp _ _ _).size<=30;omega,by show x.a+(s.i-1)<=(Sort.swp _ _ _).size;omega,by show 0<=100;omega⟩
def cfgHs:Cfg:=⟨T,[],[(58,.one sdC)],noInv,40,{}⟩
theorem conHs:ConOk Try.prog cfgHs:=ConL.ok (.cons (ConL.one sd_good) .nil)
set_option maxRecDepth 100000 in
theorem hs_keeps:Keeps cfgHs Try.f48 (srtC SAok fun x=>hsF x.d x.a x.b) hsI:=Eq.mp (show((∀ x1:SAx,((SAok x1)->((((-9223372036854775808:Int)<=(x1.b:Int)-(x1.a:Int))/\((x1.b:Int)-(x1.a:Int)<=(9223372036854775807:Int)))/\((((-9223372036854775808:Int)<=(x1.b:Int)-(x1.a:Int)-1)/\((x1.b:Int)-(x1.a:Int)-1<=(9223372036854775807:Int)))/\((((0:Int)<=(x1.b:Int)-(x1.a:Int)-1)/\(((0:Int)<2)/\(((-9223372036854775808:Int)<=((x1.b:Int)-(x1.a:Int)-1) / 2)/\(((x1.b:Int)-(x1.a:Int)-1) / 2<=(9223372036854775807:Int)))))/\(∃ x3:INs,(((HBok x1 x3)/\(((((x1.b:Int)-(x1.a:Int)-1) / 2=(x3.i:Int)-1)/\((((x1.b:Int)-(x1.a:Int)-1) / 2=((x1.b:Int)-(x1.a:Int)-1) / 2)/\(((x1.b:Int)-(x1.a:Int)-1=(x1.b:Int)-(x1.a:Int)-1)/\(((x1.b:Int)-(x1.a:Int)=(x1.b:Int)-(x1.a:Int))/\(((x1.b:Int)-(x1.a:Int)=(x1.b:Int)-(x1.a:Int))/\(((x1.b:Int)-(x1.a:Int)=(x1.b:Int)-(x1.a:Int))/\(((x1.a:Int)=(x1.a:Int))/\(((x1.b:Int)=(x1.b:Int))/\(((0:Int)=0)/\(((x1.a:Int)=(x1.a:Int))/\(((x1.a:Int)=(x1.a:Int))/\((0=0/\(Array.size x1.d=Array.size x1.d))/\(((x1.a:Int)=(x1.a:Int))/\(((x1.b:Int)=(x1.b:Int))/\(True/\True)))))))))))))))/\(((RLe (Array.size x1.d) (Array.size x1.d))/\(RowsEq [.int .i64,.int .i64,.int .i64] (Array.size x1.d) (aR x1.d) (aR x3.d)))/\True)))/\(∀ x4:INs,((HBok x1 x4)->(((decide ((0:Int)<=(x4.i:Int)-1)=true)->(∃ x7:SDx,((SDok x7)/\(((0=0/\(Array.size x1.d=Array.size x7.d))/\(((x4.i:Int)-1=(x7.lo:Int))/\(((x1.b:Int)-(x1.a:Int)=(x7.hi:Int))/\(((x1.a:Int)=(x7.f:Int))/\(True/\True)))))/\((((RLe (Array.size x7.d) (Array.size x1.d))/\(RowsEq [.int .i64,.int .i64,.int .i64] (Array.size x7.d) (aR x4.d) (aR x7.d)))/\True)/\((((-9223372036854775808:Int)<=(x4.i:Int)-1-1)/\((x4.i:Int)-1-1<=(9223372036854775807:Int)))/\(∃ x8:INs,((x8.i<x4.i)/\((HBok x1 x8)/\((((x4.i:Int)-1-1=(x8.i:Int)-1)/\((((x1.b:Int)-(x1.a:Int)-1) / 2=((x1.b:Int)-(x1.a:Int)-1) / 2)/\(((x1.b:Int)-(x1.a:Int)-1=(x1.b:Int)-(x1.a:Int)-1)/\(((x1.b:Int)-(x1.a:Int)=(x1.b:Int)-(x1.a:Int))/\(((x1.b:Int)-(x1.a:Int)=(x1.b:Int)-(x1.a:Int))/\(((x1.b:Int)-(x1.a:Int)=(x1.b:Int)-(x1.a:Int))/\(((x1.a:Int)=(x1.a:Int))/\(((x1.b:Int)=(x1.b:Int))/\(((0:Int)=0)/\(((x1.a:Int)=(x1.a:Int))/\(((x1.a:Int)=(x1.a:Int))/\((0=0/\(Array.size x1.d=Array.size x1.d))/\(((x1.a:Int)=(x1.a:Int))/\(((x1.b:Int)=(x1.b:Int))/\(True/\True)))))))))))))))/\(((RLe (Array.size x1.d) (Array.size x7.d))/\(RowsEq [.int .i64,.int .i64,.int .i64] (Array.size x1.d) (aR (sdF x7.d x7.hi x7.f x7.lo)) (aR x8.d)))/\True)))))))))))/\((decide ((0:Int)<=(x4.i:Int)-1)=false)->((((-9223372036854775808:Int)<=(x1.b:Int)-(x1.a:Int)-1)/\((x1.b:Int)-(x1.a:Int)-1<=(9223372036854775807:Int)))/\(∃ x10:INs,(((HPok x1 x10)/\((((x1.b:Int)-(x1.a:Int)-1=(x10.i:Int)-1)/\(((x1.b:Int)-(x1.a:Int)-1=(x1.b:Int)-(x1.a:Int)-1)/\(((x1.b:Int)-(x1.a:Int)=(x1.b:Int)-(x1.a:Int))/\((decide ((0:Int)<=(x4.i:Int)-1)=decide ((0:Int)<=(x4.i:Int)-1))/\(((x4.i:Int)-1=(x4.i:Int)-1)/\(((x4.i:Int)-1=(x4.i:Int)-1)/\((((x1.b:Int)-(x1.a:Int)-1) / 2=((x1.b:Int)-(x1.a:Int)-1) / 2)/\(((x1.b:Int)-(x1.a:Int)-1=(x1.b:Int)-(x1.a:Int)-1)/\(((x1.b:Int)-(x1.a:Int)=(x1.b:Int)-(x1.a:Int))/\(((x1.b:Int)-(x1.a:Int)=(x1.b:Int)-(x1.a:Int))/\(((x1.b:Int)-(x1.a:Int)=(x1.b:Int)-(x1.a:Int))/\(((x1.a:Int)=(x1.a:Int))/\(((x1.b:Int)=(x1.b:Int))/\(((0:Int)=0)/\(((x1.a:Int)=(x1.a:Int))/\(((x1.a:Int)=(x1.a:Int))/\((0=0/\(Array.size x1.d=Array.size x1.d))/\(((x1.a:Int)=(x1.a:Int))/\(((x1.b:Int)=(x1.b:Int))/\(True/\True))))))))))))))))))))/\(((RLe (Array.size x1.d) (Array.size x1.d))/\(RowsEq [.int .i64,.int .i64,.int .i64] (Array.size x1.d) (aR x4.d) (aR x10.d)))/\True)))/\(∀ x11:INs,((HPok x1 x11)->(((decide ((0:Int)<=(x11.i:Int)-1)=true)->((((-9223372036854775808:Int)<=(x1.a:Int)+((x11.i:Int)-1))/\((x1.a:Int)+((x11.i:Int)-1)<=(9223372036854775807:Int)))/\((((-9223372036854775808:Int)<=(x1.a:Int)+((x11.i:Int)-1))/\((x1.a:Int)+((x11.i:Int)-1)<=(9223372036854775807:Int)))/\((((0:Int)<=(x1.a:Int)+((x11.i:Int)-1))/\((x1.a:Int)+((x11.i:Int)-1)<(↑(Array.size x1.d):Int)))/\((0+Int.toNat ((x1.a:Int)+((x11.i:Int)-1))<Array.size x1.d)/\((((0:Int)<=(x1.a:Int))/\((x1.a:Int)<(↑(Array.size x1.d):Int)))/\((0+Int.toNat (x1.a:Int)<Array.size x1.d)/\((((0:Int)<=(x1.a:Int))/\((x1.a:Int)<(↑(Array.size x1.d):Int)))/\(((0+Int.toNat (x1.a:Int)<Array.size x1.d)/\(True/\(True/\(True/\True))))/\((((0:Int)<=(x1.a:Int)+((x11.i:Int)-1))/\((x1.a:Int)+((x11.i:Int)-1)<(↑(Array.size x1.d):Int)))/\(((0+Int.toNat ((x1.a:Int)+((x11.i:Int)-1))<Array.size x1.d)/\(True/\(True/\(True/\True))))/\(∃ x14:SDx,((SDok x14)/\(((0=0/\(Array.size x1.d=Array.size x14.d))/\((0=(x14.lo:Int))/\(((x11.i:Int)-1=(x14.hi:Int))/\(((x1.a:Int)=(x14.f:Int))/\(True/\True)))))/\((((RLe (Array.size x14.d) (Array.size x1.d))/\(RowsEq [.int .i64,.int .i64,.int .i64] (Array.size x14.d) (setRow (setRow (aR x11.d) (0+Int.toNat (x1.a:Int)) 0 (D.i ((Array.toList x11.d).getD (0+Int.toNat ((x1.a:Int)+((x11.i:Int)-1))) default).rk::D.i ((Array.toList x11.d).getD (0+Int.toNat ((x1.a:Int)+((x11.i:Int)-1))) default).si::D.i ((Array.toList x11.d).getD (0+Int.toNat ((x1.a:Int)+((x11.i:Int)-1))) default).ca::@List.nil D)) (0+Int.toNat ((x1.a:Int)+((x11.i:Int)-1))) 0 (D.i ((Array.toList x11.d).getD (0+Int.toNat (x1.a:Int)) default).rk::D.i ((Array.toList x11.d).getD (0+Int.toNat (x1.a:Int)) default).si::D.i ((Array.toList x11.d).getD (0+Int.toNat (x1.a:Int)) default).ca::@List.nil D)) (aR x14.d)))/\True)/\((((-9223372036854775808:Int)<=(x11.i:Int)-1-1)/\((x11.i:Int)-1-1<=(9223372036854775807:Int)))/\(∃ x15:INs,((x15.i<x11.i)/\((HPok x1 x15)/\((((x11.i:Int)-1-1=(x15.i:Int)-1)/\(((x1.b:Int)-(x1.a:Int)-1=(x1.b:Int)-(x1.a:Int)-1)/\(((x1.b:Int)-(x1.a:Int)=(x1.b:Int)-(x1.a:Int))/\((decide ((0:Int)<=(x4.i:Int)-1)=decide ((0:Int)<=(x4.i:Int)-1))/\(((x4.i:Int)-1=(x4.i:Int)-1)/\(((x4.i:Int)-1=(x4.i:Int)-1)/\((((x1.b:Int)-(x1.a:Int)-1) / 2=((x1.b:Int)-(x1.a:Int)-1) / 2)/\(((x1.b:Int)-(x1.a:Int)-1=(x1.b:Int)-(x1.a:Int)-1)/\(((x1.b:Int)-(x1.a:Int)=(x1.b:Int)-(x1.a:Int))/\(((x1.b:Int)-(x1.a:Int)=(x1.b:Int)-(x1.a:Int))/\(((x1.b:Int)-(x1.a:Int)=(x1.b:Int)-(x1.a:Int))/\(((x1.a:Int)=(x1.a:Int))/\(((x1.b:Int)=(x1.b:Int))/\(((0:Int)=0)/\(((x1.a:Int)=(x1.a:Int))/\(((x1.a:Int)=(x1.a:Int))/\((0=0/\(Array.size x1.d=Array.size x1.d))/\(((x1.a:Int)=(x1.a:Int))/\(((x1.b:Int)=(x1.b:Int))/\(True/\True))))))))))))))))))))/\(((RLe (Array.size x1.d) (Array.size x14.d))/\(RowsEq [.int .i64,.int .i64,.int .i64] (Array.size x1.d) (aR (sdF x14.d x14.hi x14.f x14.lo)) (aR x15.d)))/\True)))))))))))))))))))))/\((decide ((0:Int)<=(x11.i:Int)-1)=false)->(True/\(((RLe (Array.size x1.d) (Array.size x1.d))/\(RowsEq [.int .i64,.int .i64,.int .i64] (Array.size x1.d) (aR x11.d) (aR (hsF x1.d x1.a x1.b))))/\True)))))))))))))))))))))=(Keeps cfgHs Try.f48 (srtC SAok fun x=>hsF x.d x.a x.b) hsI) by kernel_rfl) (fun x1=>fun h2=>⟨⟨(by(have:=h2.n;have:=h2.b;have:=h2.a;omega)),
(by(have:=h2.n;have:=h2.b;have:=h2.a;omega))⟩,
⟨(by(have:=h2.n;have:=h2.b;have:=h2.a;omega)),
(by(have:=h2.n;have:=h2.b;have:=h2.a;omega))⟩,
⟨(by(have:=h2.n;have:=h2.b;have:=h2.a;omega)),
(by omega),
(by(have:=h2.n;have:=h2.b;have:=h2.a;omega)),
(by(have:=h2.n;have:=h2.b;have:=h2.a;omega))⟩,
({ i:=(SAx.b x1-SAx.a x1-(1:Nat)) / (2:Nat)+(1:Nat),d:=SAx.d x1:INs }),
⟨(by(try dsimp only at *);exact⟨Nat.le_refl _,rfl,rfl⟩),
⟨(by(try dsimp only at *);(have:=h2.n;have:=h2.b;have:=h2.a;omega)),rfl,rfl,rfl,rfl,rfl,rfl,rfl,rfl,rfl,rfl,
⟨rfl,rfl⟩,rfl,rfl,trivial,trivial⟩,
⟨rl,rr⟩,trivial⟩,
fun x4=>fun h5=>⟨fun g6=>have h6:=dT g6;⟨({ d:=INs.d x4,lo:=INs.i x4-(1:Nat),hi:=SAx.b x1-SAx.a x1,f:=SAx.a x1:SDx }),
(by(try dsimp only at *);exact hb_sd h2 h5 h6),
⟨⟨rfl,
(by(try dsimp only at *);(have:=h5.k;have:=h5.n;have:=h2.n;have:=h2.b;have:=h2.a;omega))⟩,
(by(try dsimp only at *);omega),
(by(try dsimp only at *);(have:=h2.n;have:=h2.b;have:=h2.a;omega)),rfl,trivial,trivial⟩,
⟨⟨⟨(by(try dsimp only at *);(have:=h5.k;have:=h5.n;have:=h2.n;have:=h2.b;have:=h2.a;omega))⟩,rr⟩,trivial⟩,
⟨(by(try dsimp only at *);omega),
(by(try dsimp only at *);(have:=h5.k;have:=h5.n;have:=h2.n;have:=h2.b;have:=h2.a;omega))⟩,
({ i:=INs.i x4-(1:Nat),d:=sdF (INs.d x4) (SAx.b x1-SAx.a x1) (SAx.a x1) (INs.i x4-(1:Nat)):INs }),
(by(try dsimp only at *);omega),
(by(try dsimp only at *);exact hb_step h5 h6),
⟨(by(try dsimp only at *);omega),rfl,rfl,rfl,rfl,rfl,rfl,rfl,rfl,rfl,rfl,
⟨rfl,rfl⟩,rfl,rfl,trivial,trivial⟩,
⟨⟨(by(try dsimp only at *);(have:=h5.k;have:=h5.n;have:=h2.n;have:=h2.b;have:=h2.a;omega))⟩,rr⟩,trivial⟩,
fun g9=>have h9:=dF g9;⟨⟨(by(try dsimp only at *);(have:=h2.n;have:=h2.b;have:=h2.a;omega)),
(by(try dsimp only at *);(have:=h2.n;have:=h2.b;have:=h2.a;omega))⟩,
({ i:=SAx.b x1-SAx.a x1,d:=INs.d x4:INs }),
⟨(by(try dsimp only at *);exact hb_end h5 h9),
⟨(by(try dsimp only at *);(have:=h2.n;have:=h2.b;have:=h2.a;omega)),rfl,rfl,rfl,rfl,rfl,rfl,rfl,rfl,rfl,rfl,rfl,rfl,rfl,rfl,rfl,
⟨rfl,rfl⟩,rfl,rfl,trivial,trivial⟩,
⟨rl,rr⟩,trivial⟩,
fun x11=>fun h12=>⟨fun g13=>have h13:=dT g13;⟨⟨(by(try dsimp only at *);omega),
(by(try dsimp only at *);(have:=h12.k;have:=h12.n;have:=h2.n;have:=h2.b;have:=h2.a;omega))⟩,
⟨(by(try dsimp only at *);omega),
(by(try dsimp only at *);(have:=h12.k;have:=h12.n;have:=h2.n;have:=h2.b;have:=h2.a;omega))⟩,
⟨(by(try dsimp only at *);omega),
(by(try dsimp only at *);(have:=h12.k;have:=h12.n;have:=h2.n;have:=h2.b;have:=h2.a;omega))⟩,
(by(try dsimp only at *);(have:=h12.k;have:=h12.n;have:=h2.n;have:=h2.b;have:=h2.a;omega)),
⟨(by(try dsimp only at *);omega),
(by(try dsimp only at *);(have:=h2.n;have:=h2.b;have:=h2.a;omega))⟩,
(by(try dsimp only at *);(have:=h2.n;have:=h2.b;have:=h2.a;omega)),
⟨(by(try dsimp only at *);omega),
(by(try dsimp only at *);(have:=h2.n;have:=h2.b;have:=h2.a;omega))⟩,
⟨(by(try dsimp only at *);(have:=h2.n;have:=h2.b;have:=h2.a;omega)),trivial,trivial,trivial,trivial⟩,
⟨(by(try dsimp only at *);omega),
(by(try dsimp only at *);(have:=h12.k;have:=h12.n;have:=h2.n;have:=h2.b;have:=h2.a;omega))⟩,
⟨(by(try dsimp only at *);(have:=h12.k;have:=h12.n;have:=h2.n;have:=h2.b;have:=h2.a;omega)),trivial,trivial,trivial,trivial⟩,
({ d:= Sort.swp (INs.d x11) (SAx.a x1) (SAx.a x1+(INs.i x11-(1:Nat))),lo:=(0:Nat),hi:=INs.i x11-(1:Nat),f:=SAx.a x1:SDx }),
(by(try dsimp only at *);exact hp_sd h2 h12 h13),
⟨⟨rfl,
(by(try dsimp only at *);(show x1.d.size=(Sort.swp _ _ _).size;rw[swp_size];exact h12.n.symm))⟩,
(by(try dsimp only at *);omega),
(by(try dsimp only at *);omega),rfl,trivial,trivial⟩,
⟨⟨⟨(by(try dsimp only at *);(show(Sort.swp _ _ _).size<=x1.d.size;rw[swp_size];exact Nat.le_of_eq h12.n))⟩,
(by(try dsimp only at *);(rw[ix5 x1.a x11.i h13,nat0];show RowsEq kP (Sort.swp _ _ _).size _ _;rw[swp_size,h12.n];have:=h12.k;have:=h2.b;have:=h2.a;exact swp_rowsT h12.n (by omega) (by omega)))⟩,trivial⟩,
⟨(by(try dsimp only at *);omega),
(by(try dsimp only at *);(have:=h12.k;have:=h12.n;have:=h2.n;have:=h2.b;have:=h2.a;omega))⟩,
({ i:=INs.i x11-(1:Nat),d:=sdF (Sort.swp (INs.d x11) (SAx.a x1) (SAx.a x1+(INs.i x11-(1:Nat)))) (INs.i x11-(1:Nat)) (SAx.a x1) (0:Nat):INs }),
(by(try dsimp only at *);omega),
(by(try dsimp only at *);exact hp_step h12 h13),
⟨(by(try dsimp only at *);omega),rfl,rfl,rfl,rfl,rfl,rfl,rfl,rfl,rfl,rfl,rfl,rfl,rfl,rfl,rfl,
⟨rfl,rfl⟩,rfl,rfl,trivial,trivial⟩,
⟨⟨(by(try dsimp only at *);(show x1.d.size<=(Sort.swp _ _ _).size;rw[swp_size];exact Nat.le_of_eq h12.n.symm))⟩,rr⟩,trivial⟩,
fun g16=>have h16:=dF g16;⟨trivial,
⟨rl,
(by(try dsimp only at *);(rw[<- hp_end h12 h16];exact rr))⟩,trivial⟩⟩⟩⟩⟩)
theorem hs_good:Good Try.prog 48 (srtC SAok fun x=>hsF x.d x.a x.b)/\FnOk Try.prog 48:=good_of tok conHs (fn:=Try.f48) rfl (by decide+kernel) (fun _=>rfl) hs_keeps
def scF (x:SAx):Nat:=Sort.scanSorted ltP x.d x.b (x.a+1)
theorem pi_eq {x:SAx} (h:SAok x):Sort.partialInsertionSort ltP x.d x.a x.b=(x.d,decide (scF x=x.b)):=by
 have:=h.n;have:=h.b;have:=h.a
 unfold Sort.partialInsertionSort
 unfold Sort.partialIns
 show(if scF x=x.b then _ else _)=_
 by_cases q:scF x=x.b
 ·rw[if_pos q,decide_eq_true q]
 ·rw[if_neg q,if_pos (by omega),decide_eq_false q]
def piC:CT where
 X:=SAx
 pre:=SAok
 args:=fun x=>[.sl 100000 0 x.d.size,.i .i64 x.a,.i .i64 x.b,cmA]
 g0:=fun x=>[(100000,.rows .own kP x.d.size (aR x.d))]
 res:=fun x=>.b (decide (scF x=x.b))
 g1:=fun x=>[(100000,.rows .own kP x.d.size (aR x.d))]
structure SCok (x:SAx) (i:Nat):Prop where
 lo:x.a+1<=i
 hi:i<=x.b
 eq:Sort.scanSorted ltP x.d x.b i=scF x
def piI (x:SAx) (id:Nat):Option Inv:=match id with
 | 0 => some { X := Unit, ok := fun _ => True, fr := fun _ => [(10, .i .i64 0), (9, .i .i64 ((x.a + 1 : Nat) : Int))], hp := fun _ => [(100000, .rows .own kP x.d.size (aR x.d))], me := fun _ => 0,
               inn:=fun _ id=>match id with
                |2=>some { X:=Nat,ok:=fun i=>SCok x i,fr:=fun i=>[(9,.i .i64 i)],hp:=fun _=>[],me:=fun i=>x.b-i }
                |_=>none }
 |_=>none
theorem sc_step {x:SAx} {i:Nat} (h:SCok x i) (h1:(i:Int)<x.b) (hc:¬ cmpP (x.d.toList.getD i default) (x.d.toList.getD (i-1) default)<0):SCok x (i+1):=by
 refine⟨by have:=h.lo;omega,by omega,?_⟩
 rw[<- h.eq]
 conv=>rhs;unfold Sort.scanSorted
 rw[if_pos (by rw[lt_no hc,decide_eq_true (by omega)];rfl)]
theorem sc_stop {x:SAx} {i:Nat} (h:SCok x i) (hn:¬ ((i:Int)<x.b/\¬ cmpP (x.d.toList.getD i default) (x.d.toList.getD (i-1) default)<0)):i=scF x:=by
 rw[<- h.eq]
 unfold Sort.scanSorted
 rw[if_neg]
 rw[Bool.and_eq_true,decide_eq_true_iff]
 rintro⟨a,b⟩
 refine hn ⟨by omega,fun q=>?_⟩
 rw[lt_yes q]at b;cases b
set_option maxRecDepth 100000 in
theorem pi_keeps:Keeps cfgO2 Try.f52 piC piI:=Eq.mp (show((∀ x1:SAx,((SAok x1)->((((-9223372036854775808:Int)<=(x1.a:Int)+1)/\((x1.a:Int)+1<=(9223372036854775807:Int)))/\(∃ x3:Unit,((True/\((((0:Int)=0)/\(((x1.a:Int)+1=(↑(x1.a+(1:Nat)):Int))/\(((x1.a:Int)+1=(x1.a:Int)+1)/\(((x1.a:Int)=(x1.a:Int))/\((0=0/\(Array.size x1.d=Array.size x1.d))/\(((x1.a:Int)=(x1.a:Int))/\(((x1.b:Int)=(x1.b:Int))/\(True/\True))))))))/\(((RLe (Array.size x1.d) (Array.size x1.d))/\(RowsEq [.int .i64,.int .i64,.int .i64] (Array.size x1.d) (aR x1.d) (aR x1.d)))/\True)))/\(∀ x4:Unit,(True->(((decide ((0:Int)<5)=true)->(∃ x7:Nat,(((SCok x1 x7)/\((((↑(x1.a+(1:Nat)):Int)=(x7:Int))/\((decide ((0:Int)<5)=decide ((0:Int)<5))/\(((0:Int)=0)/\(((0:Int)=0)/\(((x1.a:Int)+1=(x1.a:Int)+1)/\(((x1.a:Int)=(x1.a:Int))/\((0=0/\(Array.size x1.d=Array.size x1.d))/\(((x1.a:Int)=(x1.a:Int))/\(((x1.b:Int)=(x1.b:Int))/\(True/\True))))))))))/\(((RLe (Array.size x1.d) (Array.size x1.d))/\(RowsEq [.int .i64,.int .i64,.int .i64] (Array.size x1.d) (aR x1.d) (aR x1.d)))/\True)))/\(∀ x8:Nat,((SCok x1 x8)->(((decide ((x8:Int)<(x1.b:Int))=true)->((((0:Int)<=(x8:Int))/\((x8:Int)<(↑(Array.size x1.d):Int)))/\((0+Int.toNat (x8:Int)<Array.size x1.d)/\((((-9223372036854775808:Int)<=(x8:Int)-1)/\((x8:Int)-1<=(9223372036854775807:Int)))/\((((0:Int)<=(x8:Int)-1)/\((x8:Int)-1<(↑(Array.size x1.d):Int)))/\((0+Int.toNat ((x8:Int)-1)<Array.size x1.d)/\(∃ x11:P2x,(True/\((((((Array.toList x1.d).getD (0+Int.toNat (x8:Int)) default).rk=x11.a.rk)/\((((Array.toList x1.d).getD (0+Int.toNat (x8:Int)) default).si=x11.a.si)/\((((Array.toList x1.d).getD (0+Int.toNat (x8:Int)) default).ca=x11.a.ca)/\True)))/\(((((Array.toList x1.d).getD (0+Int.toNat ((x8:Int)-1)) default).rk=x11.b.rk)/\((((Array.toList x1.d).getD (0+Int.toNat ((x8:Int)-1)) default).si=x11.b.si)/\((((Array.toList x1.d).getD (0+Int.toNat ((x8:Int)-1)) default).ca=x11.b.ca)/\True)))/\True))/\(True/\((((!decide (cmpP x11.a x11.b<(0:Int)))=true)->((((-9223372036854775808:Int)<=(x8:Int)+1)/\((x8:Int)+1<=(9223372036854775807:Int)))/\(∃ x13:Nat,((x1.b-x13<x1.b-x8)/\((SCok x1 x13)/\((((x8:Int)+1=(x13:Int))/\((decide ((0:Int)<5)=decide ((0:Int)<5))/\(((0:Int)=0)/\(((0:Int)=0)/\(((x1.a:Int)+1=(x1.a:Int)+1)/\(((x1.a:Int)=(x1.a:Int))/\((0=0/\(Array.size x1.d=Array.size x1.d))/\(((x1.a:Int)=(x1.a:Int))/\(((x1.b:Int)=(x1.b:Int))/\(True/\True))))))))))/\(((RLe (Array.size x1.d) (Array.size x1.d))/\(RowsEq [.int .i64,.int .i64,.int .i64] (Array.size x1.d) (aR x1.d) (aR x1.d)))/\True)))))))/\(((!decide (cmpP x11.a x11.b<(0:Int)))=false)->(((decide ((x8:Int)=(x1.b:Int))=true)->((true=decide (scF x1=x1.b))/\(((RLe (Array.size x1.d) (Array.size x1.d))/\(RowsEq [.int .i64,.int .i64,.int .i64] (Array.size x1.d) (aR x1.d) (aR x1.d)))/\True)))/\((decide ((x8:Int)=(x1.b:Int))=false)->((((-9223372036854775808:Int)<=(x1.b:Int)-(x1.a:Int))/\((x1.b:Int)-(x1.a:Int)<=(9223372036854775807:Int)))/\(((decide ((x1.b:Int)-(x1.a:Int)<50)=true)->((false=decide (scF x1=x1.b))/\(((RLe (Array.size x1.d) (Array.size x1.d))/\(RowsEq [.int .i64,.int .i64,.int .i64] (Array.size x1.d) (aR x1.d) (aR x1.d)))/\True)))/\((decide ((x1.b:Int)-(x1.a:Int)<50)=false)->((((-9223372036854775808:Int)<=(x8:Int)-1)/\((x8:Int)-1<=(9223372036854775807:Int)))/\((((-9223372036854775808:Int)<=(x8:Int)-1)/\((x8:Int)-1<=(9223372036854775807:Int)))/\((((0:Int)<=(x8:Int)-1)/\((x8:Int)-1<(↑(Array.size x1.d):Int)))/\((0+Int.toNat ((x8:Int)-1)<Array.size x1.d)/\((((0:Int)<=(x8:Int))/\((x8:Int)<(↑(Array.size x1.d):Int)))/\((0+Int.toNat (x8:Int)<Array.size x1.d)/\((((0:Int)<=(x8:Int))/\((x8:Int)<(↑(Array.size x1.d):Int)))/\(((0+Int.toNat (x8:Int)<Array.size x1.d)/\(True/\(True/\(True/\True))))/\((((0:Int)<=(x8:Int)-1)/\((x8:Int)-1<(↑(Array.size x1.d):Int)))/\(((0+Int.toNat ((x8:Int)-1)<Array.size x1.d)/\(True/\(True/\(True/\True))))/\((((-9223372036854775808:Int)<=(x8:Int)-(x1.a:Int))/\((x8:Int)-(x1.a:Int)<=(9223372036854775807:Int)))/\(((decide ((2:Int)<=(x8:Int)-(x1.a:Int))=true)->((((-9223372036854775808:Int)<=(x8:Int)-1)/\((x8:Int)-1<=(9223372036854775807:Int)))/\(Stuck 12 4)))/\((decide ((2:Int)<=(x8:Int)-(x1.a:Int))=false)->((((-9223372036854775808:Int)<=(x1.b:Int)-(x8:Int))/\((x1.b:Int)-(x8:Int)<=(9223372036854775807:Int)))/\(((decide ((2:Int)<=(x1.b:Int)-(x8:Int))=true)->((((-9223372036854775808:Int)<=(x8:Int)+1)/\((x8:Int)+1<=(9223372036854775807:Int)))/\(Stuck 12 6)))/\((decide ((2:Int)<=(x1.b:Int)-(x8:Int))=false)->((((-9223372036854775808:Int)<=(0:Int)+1)/\((0:Int)+1<=(9223372036854775807:Int)))/\(∃ x23:Unit,((0<(0:Nat))/\(True/\((((0:Int)+1=0)/\(((x8:Int)=(↑(x1.a+(1:Nat)):Int))/\(((x1.a:Int)+1=(x1.a:Int)+1)/\(((x1.a:Int)=(x1.a:Int))/\((0=0/\(Array.size x1.d=Array.size x1.d))/\(((x1.a:Int)=(x1.a:Int))/\(((x1.b:Int)=(x1.b:Int))/\(True/\True))))))))/\(((RLe (Array.size x1.d) (Array.size x1.d))/\(RowsEq [.int .i64,.int .i64,.int .i64] (Array.size x1.d) (setRow (setRow (aR x1.d) (0+Int.toNat (x8:Int)) 0 (D.i ((Array.toList x1.d).getD (0+Int.toNat ((x8:Int)-1)) default).rk::D.i ((Array.toList x1.d).getD (0+Int.toNat ((x8:Int)-1)) default).si::D.i ((Array.toList x1.d).getD (0+Int.toNat ((x8:Int)-1)) default).ca::@List.nil D)) (0+Int.toNat ((x8:Int)-1)) 0 (D.i ((Array.toList x1.d).getD (0+Int.toNat (x8:Int)) default).rk::D.i ((Array.toList x1.d).getD (0+Int.toNat (x8:Int)) default).si::D.i ((Array.toList x1.d).getD (0+Int.toNat (x8:Int)) default).ca::@List.nil D)) (aR x1.d)))/\True)))))))))))))))))))))))))))))))))))))))/\((decide ((x8:Int)<(x1.b:Int))=false)->(((decide ((x8:Int)=(x1.b:Int))=true)->((true=decide (scF x1=x1.b))/\(((RLe (Array.size x1.d) (Array.size x1.d))/\(RowsEq [.int .i64,.int .i64,.int .i64] (Array.size x1.d) (aR x1.d) (aR x1.d)))/\True)))/\((decide ((x8:Int)=(x1.b:Int))=false)->((((-9223372036854775808:Int)<=(x1.b:Int)-(x1.a:Int))/\((x1.b:Int)-(x1.a:Int)<=(9223372036854775807:Int)))/\(((decide ((x1.b:Int)-(x1.a:Int)<50)=true)->((false=decide (scF x1=x1.b))/\(((RLe (Array.size x1.d) (Array.size x1.d))/\(RowsEq [.int .i64,.int .i64,.int .i64] (Array.size x1.d) (aR x1.d) (aR x1.d)))/\True)))/\((decide ((x1.b:Int)-(x1.a:Int)<50)=false)->((((-9223372036854775808:Int)<=(x8:Int)-1)/\((x8:Int)-1<=(9223372036854775807:Int)))/\((((-9223372036854775808:Int)<=(x8:Int)-1)/\((x8:Int)-1<=(9223372036854775807:Int)))/\((((0:Int)<=(x8:Int)-1)/\((x8:Int)-1<(↑(Array.size x1.d):Int)))/\((0+Int.toNat ((x8:Int)-1)<Array.size x1.d)/\((((0:Int)<=(x8:Int))/\((x8:Int)<(↑(Array.size x1.d):Int)))/\((0+Int.toNat (x8:Int)<Array.size x1.d)/\((((0:Int)<=(x8:Int))/\((x8:Int)<(↑(Array.size x1.d):Int)))/\(((0+Int.toNat (x8:Int)<Array.size x1.d)/\(True/\(True/\(True/\True))))/\((((0:Int)<=(x8:Int)-1)/\((x8:Int)-1<(↑(Array.size x1.d):Int)))/\(((0+Int.toNat ((x8:Int)-1)<Array.size x1.d)/\(True/\(True/\(True/\True))))/\((((-9223372036854775808:Int)<=(x8:Int)-(x1.a:Int))/\((x8:Int)-(x1.a:Int)<=(9223372036854775807:Int)))/\(((decide ((2:Int)<=(x8:Int)-(x1.a:Int))=true)->((((-9223372036854775808:Int)<=(x8:Int)-1)/\((x8:Int)-1<=(9223372036854775807:Int)))/\(Stuck 12 4)))/\((decide ((2:Int)<=(x8:Int)-(x1.a:Int))=false)->((((-9223372036854775808:Int)<=(x1.b:Int)-(x8:Int))/\((x1.b:Int)-(x8:Int)<=(9223372036854775807:Int)))/\(((decide ((2:Int)<=(x1.b:Int)-(x8:Int))=true)->((((-9223372036854775808:Int)<=(x8:Int)+1)/\((x8:Int)+1<=(9223372036854775807:Int)))/\(Stuck 12 6)))/\((decide ((2:Int)<=(x1.b:Int)-(x8:Int))=false)->((((-9223372036854775808:Int)<=(0:Int)+1)/\((0:Int)+1<=(9223372036854775807:Int)))/\(∃ x33:Unit,((0<(0:Nat))/\(True/\((((0:Int)+1=0)/\(((x8:Int)=(↑(x1.a+(1:Nat)):Int))/\(((x1.a:Int)+1=(x1.a:Int)+1)/\(((x1.a:Int)=(x1.a:Int))/\((0=0/\(Array.size x1.d=Array.size x1.d))/\(((x1.a:Int)=(x1.a:Int))/\(((x1.b:Int)=(x1.b:Int))/\(True/\True))))))))/\(((RLe (Array.size x1.d) (Array.size x1.d))/\(RowsEq [.int .i64,.int .i64,.int .i64] (Array.size x1.d) (setRow (setRow (aR x1.d) (0+Int.toNat (x8:Int)) 0 (D.i ((Array.toList x1.d).getD (0+Int.toNat ((x8:Int)-1)) default).rk::D.i ((Array.toList x1.d).getD (0+Int.toNat ((x8:Int)-1)) default).si::D.i ((Array.toList x1.d).getD (0+Int.toNat ((x8:Int)-1)) default).ca::@List.nil D)) (0+Int.toNat ((x8:Int)-1)) 0 (D.i ((Array.toList x1.d).getD (0+Int.toNat (x8:Int)) default).rk::D.i ((Array.toList x1.d).getD (0+Int.toNat (x8:Int)) default).si::D.i ((Array.toList x1.d).getD (0+Int.toNat (x8:Int)) default).ca::@List.nil D)) (aR x1.d)))/\True))))))))))))))))))))))))))))))))))/\((decide ((0:Int)<5)=false)->((false=decide (scF x1=x1.b))/\(((RLe (Array.size x1.d) (Array.size x1.d))/\(RowsEq [.int .i64,.int .i64,.int .i64] (Array.size x1.d) (aR x1.d) (aR x1.d)))/\True))))))))))))=(Keeps cfgO2 Try.f52 piC piI) by kernel_rfl) (fun x1=>fun h2=>⟨⟨(by omega),
(by(have:=h2.n;have:=h2.b;have:=h2.a;omega))⟩,
(default),
⟨trivial,
⟨rfl,
(by(try dsimp only at *);omega),rfl,rfl,
⟨rfl,rfl⟩,rfl,rfl,trivial,trivial⟩,
⟨rl,rr⟩,trivial⟩,
fun x4=>fun h5=>⟨fun g6=>have h6:=dT g6;⟨(SAx.a x1+(1:Nat)),
⟨(by(try dsimp only at *);exact⟨Nat.le_refl _,h2.a,rfl⟩),
⟨rfl,rfl,rfl,rfl,rfl,rfl,
⟨rfl,rfl⟩,rfl,rfl,trivial,trivial⟩,
⟨rl,rr⟩,trivial⟩,
fun x8=>fun h9=>⟨fun g10=>have h10:=dT g10;⟨⟨(by(try dsimp only at *);omega),
(by(try dsimp only at *);(have:=h2.n;have:=h2.b;have:=h2.a;omega))⟩,
(by(try dsimp only at *);(have:=h2.n;have:=h2.b;have:=h2.a;omega)),
⟨(by(try dsimp only at *);omega),
(by(try dsimp only at *);(have:=h2.n;have:=h2.b;have:=h2.a;omega))⟩,
⟨(by(try dsimp only at *);(have:=h9.lo;omega)),
(by(try dsimp only at *);(have:=h2.n;have:=h2.b;have:=h2.a;omega))⟩,
(by(try dsimp only at *);(have:=h2.n;have:=h2.b;have:=h2.a;omega)),
({ a:=List.getD (Array.toList (SAx.d x1)) ((0:Nat)+Int.toNat (↑x8:Int)) default,b:=List.getD (Array.toList (SAx.d x1)) ((0:Nat)+Int.toNat ((↑x8:Int)-(1:Int))) default:P2x }),trivial,
⟨⟨rfl,rfl,rfl,trivial⟩,
⟨rfl,rfl,rfl,trivial⟩,trivial⟩,trivial,
fun g12=>have h12:=nT g12;⟨⟨(by(try dsimp only at *);omega),
(by(try dsimp only at *);(have:=h2.n;have:=h2.b;have:=h2.a;omega))⟩,
(x8+(1:Nat)),
(by(try dsimp only at *);omega),
(by(try dsimp only at *);(simp only[nat0,subN0]at *;exact sc_step h9 h10 h12)),
⟨(by(try dsimp only at *);omega),rfl,rfl,rfl,rfl,rfl,
⟨rfl,rfl⟩,rfl,rfl,trivial,trivial⟩,
⟨rl,rr⟩,trivial⟩,
fun g14=>have h14:=nF g14;⟨fun g15=>have h15:=dT g15;⟨(by(try dsimp only at *);omega),
⟨rl,rr⟩,trivial⟩,
fun g16=>have h16:=dF g16;⟨⟨(by(try dsimp only at *);(have:=h2.n;have:=h2.b;have:=h2.a;omega)),
(by(try dsimp only at *);(have:=h2.n;have:=h2.b;have:=h2.a;omega))⟩,
fun g17=>have h17:=dT g17;⟨(by(try dsimp only at *);(simp only[nat0,subN0]at *;rw[<- sc_stop h9 (fun q=>q.2 h14)];exact(decide_eq_false (by omega)).symm)),
⟨rl,rr⟩,trivial⟩,
fun g18=>have h18:=dF g18;⟨⟨(by(try dsimp only at *);omega),
(by(try dsimp only at *);(have:=h2.n;have:=h2.b;have:=h2.a;omega))⟩,
⟨(by(try dsimp only at *);omega),
(by(try dsimp only at *);(have:=h2.n;have:=h2.b;have:=h2.a;omega))⟩,
⟨(by(try dsimp only at *);(have:=h2.n;have:=h2.b;have:=h2.a;omega)),
(by(try dsimp only at *);(have:=h2.n;have:=h2.b;have:=h2.a;omega))⟩,
(by(try dsimp only at *);(have:=h2.n;have:=h2.b;have:=h2.a;omega)),
⟨(by(try dsimp only at *);omega),
(by(try dsimp only at *);(have:=h2.n;have:=h2.b;have:=h2.a;omega))⟩,
(by(try dsimp only at *);(have:=h2.n;have:=h2.b;have:=h2.a;omega)),
⟨(by(try dsimp only at *);omega),
(by(try dsimp only at *);(have:=h2.n;have:=h2.b;have:=h2.a;omega))⟩,
⟨(by(try dsimp only at *);(have:=h2.n;have:=h2.b;have:=h2.a;omega)),trivial,trivial,trivial,trivial⟩,
⟨(by(try dsimp only at *);(have:=h2.n;have:=h2.b;have:=h2.a;omega)),
(by(try dsimp only at *);(have:=h2.n;have:=h2.b;have:=h2.a;omega))⟩,
⟨(by(try dsimp only at *);(have:=h2.n;have:=h2.b;have:=h2.a;omega)),trivial,trivial,trivial,trivial⟩,
⟨(by(try dsimp only at *);(have:=h2.n;have:=h2.b;have:=h2.a;omega)),
(by(try dsimp only at *);(have:=h2.n;have:=h2.b;have:=h2.a;omega))⟩,
fun g19=>have h19:=dT g19;⟨⟨(by(try dsimp only at *);omega),
(by(try dsimp only at *);(have:=h2.n;have:=h2.b;have:=h2.a;omega))⟩,
(by(try dsimp only at *);(have:=h2.n;have:=h2.b;have:=h2.a;omega))⟩,
fun g20=>have h20:=dF g20;⟨⟨(by(try dsimp only at *);omega),
(by(try dsimp only at *);(have:=h2.n;have:=h2.b;have:=h2.a;omega))⟩,
fun g21=>have h21:=dT g21;⟨⟨(by(try dsimp only at *);omega),
(by(try dsimp only at *);(have:=h2.n;have:=h2.b;have:=h2.a;omega))⟩,
(by(try dsimp only at *);(have:=h2.n;have:=h2.b;have:=h2.a;omega))⟩,
fun g22=>have h22:=dF g22;⟨⟨(by(try dsimp only at *);omega),
(by(try dsimp only at *);omega)⟩,
(default),
(by(try dsimp only at *);omega),trivial,
⟨(by(try dsimp only at *);omega),
(by(try dsimp only at *);omega),rfl,rfl,
⟨rfl,rfl⟩,rfl,rfl,trivial,trivial⟩,
⟨rl,
(by(try dsimp only at *);omega)⟩,trivial⟩⟩⟩⟩⟩⟩,
fun g24=>have h24:=dF g24;⟨fun g25=>have h25:=dT g25;⟨(by(try dsimp only at *);(rw[<- sc_stop h9 (fun q=>h24 q.1)];exact(decide_eq_true (by omega)).symm)),
⟨rl,rr⟩,trivial⟩,
fun g26=>have h26:=dF g26;⟨⟨(by(try dsimp only at *);(have:=h2.n;have:=h2.b;have:=h2.a;omega)),
(by(try dsimp only at *);(have:=h2.n;have:=h2.b;have:=h2.a;omega))⟩,
fun g27=>have h27:=dT g27;⟨(by(try dsimp only at *);(rw[<- sc_stop h9 (fun q=>h24 q.1)];exact(decide_eq_false (by omega)).symm)),
⟨rl,rr⟩,trivial⟩,
fun g28=>have h28:=dF g28;⟨⟨(by(try dsimp only at *);omega),
(by(try dsimp only at *);(have:=h2.n;have:=h2.b;have:=h2.a;omega))⟩,
⟨(by(try dsimp only at *);omega),
(by(try dsimp only at *);(have:=h2.n;have:=h2.b;have:=h2.a;omega))⟩,
⟨(by(try dsimp only at *);omega),
(by(try dsimp only at *);(have:=h2.n;have:=h2.b;have:=h2.a;omega))⟩,
(by(try dsimp only at *);(have:=h2.n;have:=h2.b;have:=h2.a;omega)),
⟨(by(try dsimp only at *);omega),
(by(try dsimp only at *);(have:=h2.n;have:=h2.b;have:=h2.a;omega))⟩,
(by(try dsimp only at *);(have:=h2.n;have:=h2.b;have:=h2.a;omega)),
⟨(by(try dsimp only at *);omega),
(by(try dsimp only at *);(have:=h2.n;have:=h2.b;have:=h2.a;omega))⟩,
⟨(by(try dsimp only at *);(have:=h2.n;have:=h2.b;have:=h2.a;omega)),trivial,trivial,trivial,trivial⟩,
⟨(by(try dsimp only at *);omega),
(by(try dsimp only at *);(have:=h2.n;have:=h2.b;have:=h2.a;omega))⟩,
⟨(by(try dsimp only at *);(have:=h2.n;have:=h2.b;have:=h2.a;omega)),trivial,trivial,trivial,trivial⟩,
⟨(by(try dsimp only at *);omega),
(by(try dsimp only at *);(have:=h2.n;have:=h2.b;have:=h2.a;omega))⟩,
fun g29=>have h29:=dT g29;⟨⟨(by(try dsimp only at *);omega),
(by(try dsimp only at *);(have:=h2.n;have:=h2.b;have:=h2.a;omega))⟩,
(by(try dsimp only at *);(have:=h2.n;have:=h2.b;have:=h2.a;omega))⟩,
fun g30=>have h30:=dF g30;⟨⟨(by(try dsimp only at *);omega),
(by(try dsimp only at *);omega)⟩,
fun g31=>have h31:=dT g31;⟨⟨(by(try dsimp only at *);omega),
(by(try dsimp only at *);omega)⟩,
(by(try dsimp only at *);omega)⟩,
fun g32=>have h32:=dF g32;⟨⟨(by(try dsimp only at *);omega),
(by(try dsimp only at *);omega)⟩,
(default),
(by(try dsimp only at *);omega),trivial,
⟨(by(try dsimp only at *);omega),
(by(try dsimp only at *);omega),rfl,rfl,
⟨rfl,rfl⟩,rfl,rfl,trivial,trivial⟩,
⟨rl,
(by(try dsimp only at *);omega)⟩,trivial⟩⟩⟩⟩⟩⟩⟩,
fun g34=>have h34:=dF g34;⟨(by(try dsimp only at *);omega),
⟨rl,rr⟩,trivial⟩⟩⟩)
theorem pi_good:Good Try.prog 52 piC/\FnOk Try.prog 52:=good_of tok conO2 (fn:=Try.f52) rfl (by decide+kernel) (fun _=>rfl) pi_keeps
end Go.Sym