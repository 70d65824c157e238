import Derived.Test.YtpnnecijeoipfaaGreatDoorOC
import Derived.Test.YtpnnecijeoipfaaGreatDoorXD
namespace Go.Sym
set_option linter.unusedVariables false
set_option linter.unusedSimpArgs false
open Go.Proofs
set_option maxRecDepth 100000
set_option maxHeartbeats 4000000
def iuC:CT where
 X:=DLx
 pre:=fun q=>q.l.length<=1000
 args:=fun q=>[.sl 100000 0 q.l.length,.i .i64 q.c]
 g0:=fun q=>[(100000,.rows .bor k1 q.l.length (encL encI q.l))]
 res:=fun q=>.i .i64 (ixF q.l q.c)
 g1:=fun _=>[]
abbrev q72F0 (x1:DLx):Prop:=(0=0/\x1.l.length=x1.l.length)
theorem q72f0 {x1:DLx}:q72F0 x1:=⟨rfl,rfl⟩
abbrev q72F1 (x1:DLx):Prop:=(((x1.l.length:Int)=(x1.l.length:Int))/\((q72F0 x1)/\((q72F0 x1)/\(x1.c=x1.c/\True))))
theorem q72f1 {x1:DLx}:q72F1 x1:=⟨rfl,q72f0,q72f0,rfl,trivial⟩
abbrev q72F2 (x1:DLx):Prop:=(((RLe x1.l.length x1.l.length)/\(RI x1.l.length x1.l x1.l))/\True)
theorem q72f2 {x1:DLx}:q72F2 x1:=⟨⟨rl,rr⟩,trivial⟩
set_option maxRecDepth 100000 in
theorem iu_keeps:Keeps cfgN0 Tryz.f57 iuC ixI:=Eq.mp (show(∀ x1:DLx,((x1.l.length<=(1000:Nat))->(∃ x3:Nat,(((IXok x1 x3)/\(((0=(x3:Int))/\(q72F1 x1))/\(q72F2 x1)))/\(∀ x4:Nat,((IXok x1 x4)->(CB (decide ((x4:Int)<(x1.l.length:Int))) ((Ix (x4:Int) (x1.l.length:Int))/\((0+Int.toNat (x4:Int)<x1.l.length)/\(CB (decide (x1.c=x1.l.getD (0+Int.toNat (x4:Int)) default)) (((x4:Int)=ixF x1.l x1.c)/\True) ((R6 ((x4:Int)+1))/\(∃ x9:Nat,((x1.l.length-x9<x1.l.length-x4)/\((IXok x1 x9)/\((((x4:Int)+1=(x9:Int))/\(q72F1 x1))/\(q72F2 x1))))))))) (((-1:Int)=ixF x1.l x1.c)/\True))))))))=(Keeps cfgN0 Tryz.f57 iuC ixI) by kernel_rfl) (fun x1=>fun h2=>⟨((0:Nat)),⟨(by(try dsimp only at *);exact⟨Nat.zero_le _,fun j hj=>by omega⟩),⟨(by(try dsimp only at *);omega),q72f1⟩,q72f2⟩,fun x4=>fun h5=>⟨fun g6=>have h6:=dT g6;⟨⟨(by(try dsimp only at *);omega),(by(try dsimp only at *);omega)⟩,(by(try dsimp only at *);omega),fun g7=>have h7:=dT g7;⟨(by(try dsimp only at *);(rw[nat0]at h7;exact ix_yes h5 h6 h7.symm)),trivial⟩,fun g8=>have h8:=dF g8;⟨⟨(by(try dsimp only at *);omega),(by(try dsimp only at *);omega)⟩,(x4+(1:Nat)),(by(try dsimp only at *);omega),(by(try dsimp only at *);(rw[nat0]at h8;exact⟨by have:=h5.le;omega,fun j hj=>by rcases(show j<x4∨j=x4 by omega)with q|q <;>first|exact h5.no j q|(subst q;exact fun e=>h8 e.symm)⟩)),⟨(by(try dsimp only at *);omega),q72f1⟩,q72f2⟩⟩,fun g10=>have h10:=dF g10;⟨(by(try dsimp only at *);exact ix_not h5 ‹_›),trivial⟩⟩⟩)
theorem iu_good:Good Tryz.prog 57 iuC/\FnOk Tryz.prog 57:=good_of tok conN0 (fn:=Tryz.f57) rfl (by decide+kernel) (fun _=>rfl) iu_keeps
def cnuC:CT:={ iuC with res:=fun q=>.b (decide (q.c∈q.l))}
def cfgCnu:Cfg:=⟨T,[],[(57,.one iuC)],noInv,10,{}⟩
theorem conCnu:ConOk Tryz.prog cfgCnu:=ConL.ok (.cons (ConL.one iu_good) .nil)
theorem ix_ge (l:List Int) (c:Int):decide (0<=ixF l c)=decide (c∈l):=by
 refine decide_eq_decide.2 ?_
 unfold ixF
 split
 ·rename_i h;exact⟨fun _=>h,fun _=>by omega⟩
 ·rename_i h;exact⟨fun q=>by omega,fun q=>absurd q h⟩
set_option maxRecDepth 100000 in
theorem cnu_keeps:Keeps cfgCnu Tryz.f39 cnuC noIv:=Eq.mp (show(∀ x1:DLx,((x1.l.length<=(1000:Nat))->(∃ x3:DLx,((x3.l.length<=(1000:Nat))/\(((0=0/\x1.l.length=x3.l.length)/\(x1.c=x3.c/\True))/\(((RW [.int .i64] x3.l.length x1.l.length (encL encI x1.l) (encL encI x3.l))/\True)/\((decide ((0:Int)<=ixF x3.l x3.c)=decide (x1.c∈x1.l))/\True)))))))=(Keeps cfgCnu Tryz.f39 cnuC noIv) by kernel_rfl) (fun x1=>fun h2=>⟨(x1),(by(try dsimp only at *);omega),⟨⟨rfl,rfl⟩,rfl,trivial⟩,⟨⟨rl,rr⟩,trivial⟩,(by(try dsimp only at *);exact ix_ge _ _),trivial⟩)
theorem cnu_good:Good Tryz.prog 39 cnuC/\FnOk Tryz.prog 39:=good_of tok conCnu (fn:=Tryz.f39) rfl (by decide+kernel) (fun _=>rfl) cnu_keeps
def s2C:CT where
 X:=I2x
 pre:=fun _=>True
 args:=fun x=>[.i .i64 x.a,.p 100000 0 0]
 g0:=fun x=>[(100000,.one .bor [.i .i64 x.b])]
 res:=fun x=>.b (decide (x.a=x.b))
 g1:=fun _=>[]
set_option maxRecDepth 100000 in
theorem s2_keeps:Keeps cfgN0 Tryz.f41 s2C noIv:=Eq.mp (show(∀ x1:I2x,(True->((decide (x1.a=x1.b)=decide (x1.a=x1.b))/\True)))=(Keeps cfgN0 Tryz.f41 s2C noIv) by kernel_rfl) (fun x1=>fun h2=>⟨rfl,trivial⟩)
theorem s2_good:Good Tryz.prog 41 s2C/\FnOk Tryz.prog 41:=good_of tok conN0 (fn:=Tryz.f41) rfl (by decide+kernel) (fun _=>rfl) s2_keeps
def duH (q:DLx):List (Nat × Blk):=[(100001,.one .bor [.i .i64 q.c])]
def ifuC:CT:={ ixC with args:=fun q=>[.sl 100000 0 q.l.length,.fn 41 [.p 100001 0 0]],g0:=fun q=>[(100000,.rows .bor k1 q.l.length (encL encI q.l))]++duH q }
def cfgIfu:Cfg:=⟨T,[],[(41,.one s2C)],noInv,12,{}⟩
theorem conIfu:ConOk Tryz.prog cfgIfu:=ConL.ok (.cons (ConL.one s2_good) .nil)
abbrev q75F0 (x1:DLx):Prop:=(0=0/\x1.l.length=x1.l.length)
theorem q75f0 {x1:DLx}:q75F0 x1:=⟨rfl,rfl⟩
abbrev q75F1:Prop:=((0=0/\0=0)/\True)
theorem q75f1:q75F1:=⟨⟨rfl,rfl⟩,trivial⟩
abbrev q75F2 (x1:DLx):Prop:=(((x1.l.length:Int)=(x1.l.length:Int))/\((q75F0 x1)/\((q75F0 x1)/\((q75F1)/\True))))
theorem q75f2 {x1:DLx}:q75F2 x1:=⟨rfl,q75f0,q75f0,q75f1,trivial⟩
abbrev q75F3 (x1:DLx):Prop:=(((RLe x1.l.length x1.l.length)/\(RI x1.l.length x1.l x1.l))/\((x1.c=x1.c/\True)/\True))
theorem q75f3 {x1:DLx}:q75F3 x1:=⟨⟨rl,rr⟩,⟨rfl,trivial⟩,trivial⟩
set_option maxRecDepth 100000 in
theorem ifu_keeps:Keeps cfgIfu Tryz.f58 ifuC ixI:=Eq.mp (show(∀ x1:DLx,((x1.l.length<=(1000:Nat))->(∃ x3:Nat,(((IXok x1 x3)/\(((0=(x3:Int))/\(q75F2 x1))/\(q75F3 x1)))/\(∀ x4:Nat,((IXok x1 x4)->(CB (decide ((x4:Int)<(x1.l.length:Int))) ((Ix (x4:Int) (x1.l.length:Int))/\((0+Int.toNat (x4:Int)<x1.l.length)/\(∃ x7:I2x,(True/\(((x1.l.getD (0+Int.toNat (x4:Int)) default=x7.a)/\(q75F1))/\(((x1.c=x7.b/\True)/\True)/\(CB (decide (x7.a=x7.b)) (((x4:Int)=ixF x1.l x1.c)/\True) ((R6 ((x4:Int)+1))/\(∃ x10:Nat,((x1.l.length-x10<x1.l.length-x4)/\((IXok x1 x10)/\((((x4:Int)+1=(x10:Int))/\(q75F2 x1))/\(q75F3 x1))))))))))))) (((-1:Int)=ixF x1.l x1.c)/\True))))))))=(Keeps cfgIfu Tryz.f58 ifuC ixI) by kernel_rfl) (fun x1=>fun h2=>⟨((0:Nat)),⟨(by(try dsimp only at *);exact⟨Nat.zero_le _,fun j hj=>by omega⟩),⟨(by(try dsimp only at *);omega),q75f2⟩,q75f3⟩,fun x4=>fun h5=>⟨fun g6=>have h6:=dT g6;⟨⟨(by(try dsimp only at *);omega),(by(try dsimp only at *);omega)⟩,(by(try dsimp only at *);omega),({ a:=List.getD (DLx.l x1) x4 default,b:=DLx.c x1:I2x }),trivial,⟨(by(try dsimp only at *);grind),q75f1⟩,⟨⟨rfl,trivial⟩,trivial⟩,fun g8=>have h8:=dT g8;⟨(by(try dsimp only at *);exact ix_yes h5 h6 ‹_›),trivial⟩,fun g9=>have h9:=dF g9;⟨⟨(by(try dsimp only at *);omega),(by(try dsimp only at *);omega)⟩,(x4+(1:Nat)),(by(try dsimp only at *);omega),(by(try dsimp only at *);exact⟨by have:=h5.le;omega,fun j hj=>by rcases(show j<x4∨j=x4 by omega)with q|q <;>first|exact h5.no j q|(subst q;assumption)⟩),⟨(by(try dsimp only at *);omega),q75f2⟩,q75f3⟩⟩,fun g11=>have h11:=dF g11;⟨(by(try dsimp only at *);exact ix_not h5 ‹_›),trivial⟩⟩⟩)
theorem ifu_good:Good Tryz.prog 58 ifuC/\FnOk Tryz.prog 58:=good_of tok conIfu (fn:=Tryz.f58) rfl (by decide+kernel) (fun _=>rfl) ifu_keeps
def duC:CT:={ dlC with args:=fun q=>[.sl 100000 0 q.l.length,.fn 41 [.p 100001 0 0]],g0:=fun q=>[(100000,.rows .own k1 q.l.length (encL encI q.l))]++duH q }
def cfgDu:Cfg:=⟨T,[],[(58,.one ifuC),(41,.one s2C)],noInv,12,{}⟩
theorem conDu:ConOk Tryz.prog cfgDu:=ConL.ok (.cons (ConL.one ifu_good) (.cons (ConL.one s2_good) .nil))
abbrev q76F0:Prop:=((0=0/\0=0)/\True)
theorem q76f0:q76F0:=⟨⟨rfl,rfl⟩,trivial⟩
abbrev q76F1:Prop:=((q76F0)/\True)
theorem q76f1:q76F1:=⟨q76f0,trivial⟩
abbrev q76F2 (x1:DLx):Prop:=(0=0/\x1.l.length=x1.l.length)
theorem q76f2 {x1:DLx}:q76F2 x1:=⟨rfl,rfl⟩
abbrev q76F3 (x1:DLx) (x3:DLx):Prop:=((ixF x3.l x3.c=ixF x3.l x3.c)/\((ixF x3.l x3.c=ixF x3.l x3.c)/\((q76F0)/\((q76F2 x1)/\(True/\((q76F2 x1)/\(q76F1)))))))
theorem q76f3 {x1:DLx} {x3:DLx}:q76F3 x1 x3:=⟨rfl,rfl,q76f0,q76f2,trivial,q76f2,q76f1⟩
set_option maxRecDepth 100000 in
theorem du_keeps:Keeps cfgDu Tryz.f40 duC dlI:=Eq.mp (show(∀ x1:DLx,((x1.l.length<=(1000:Nat))->(∃ x3:DLx,((x3.l.length<=(1000:Nat))/\(((0=0/\x1.l.length=x3.l.length)/\(q76F1))/\(((RW [.int .i64] x3.l.length x1.l.length (encL encI x1.l) (encL encI x3.l))/\((x1.c=x3.c/\True)/\True))/\(CB (decide (ixF x3.l x3.c=(-1:Int))) ((0=0/\(x1.l.length=(outL x1.l x1.c).length))/\((RW [.int .i64] (outL x1.l x1.c).length x1.l.length (encL encI x1.l) (encL encI (outL x1.l x1.c)))/\True)) ((R6 (ixF x3.l x3.c+1))/\(∃ x6:DLs,(((DLok x1 x6)/\(((ixF x3.l x3.c=(x6.i:Int))/\((ixF x3.l x3.c+1=(x6.j:Int))/\(q76F3 x1 x3)))/\((RW [.int .i64] x1.l.length x1.l.length (encL encI x1.l) (encL encI x6.L))/\((x1.c=x1.c/\True)/\True))))/\(∀ x7:DLs,((DLok x1 x7)->(CB (decide ((x7.j:Int)<(x1.l.length:Int))) ((Ix (x7.j:Int) (x1.l.length:Int))/\((0+Int.toNat (x7.j:Int)<x1.l.length)/\(∃ x10:I2x,(True/\(((x7.L.getD (0+Int.toNat (x7.j:Int)) default=x10.a)/\(q76F0))/\(((x1.c=x10.b/\True)/\True)/\(CB (!decide (x10.a=x10.b)) ((Ix (x7.i:Int) (x1.l.length:Int))/\(((0+Int.toNat (x7.i:Int)<x1.l.length)/\(True/\True))/\((R6 ((x7.i:Int)+1))/\((R6 ((x7.j:Int)+1))/\(∃ x12:DLs,((x1.l.length-x12.j<x1.l.length-x7.j)/\((DLok x1 x12)/\((((x7.i:Int)+1=(x12.i:Int))/\(((x7.j:Int)+1=(x12.j:Int))/\(q76F3 x1 x3)))/\((RW [.int .i64] x1.l.length x1.l.length (setRow (encL encI x7.L) (0+Int.toNat (x7.i:Int)) 0 (D.i (x7.L.getD (0+Int.toNat (x7.j:Int)) default)::@List.nil D)) (encL encI x12.L))/\((x1.c=x1.c/\True)/\True)))))))))) ((R6 ((x7.j:Int)+1))/\(∃ x14:DLs,((x1.l.length-x14.j<x1.l.length-x7.j)/\((DLok x1 x14)/\((((x7.i:Int)=(x14.i:Int))/\(((x7.j:Int)+1=(x14.j:Int))/\(q76F3 x1 x3)))/\((RW [.int .i64] x1.l.length x1.l.length (encL encI x7.L) (encL encI x14.L))/\((x1.c=x1.c/\True)/\True)))))))))))))) ((((0:Int)<=(x7.i:Int))/\(((x7.i:Int)<=(x1.l.length:Int))/\((x1.l.length:Int)<=(x1.l.length:Int))))/\((0+Int.toNat (x7.i:Int)+(Int.toNat (x1.l.length:Int)-Int.toNat (x7.i:Int))<=x1.l.length)/\((((0:Int)<=(0:Int))/\(((0:Int)<=(x7.i:Int))/\((x7.i:Int)<=(x1.l.length:Int))))/\(((0+Int.toNat (0:Int)=(0:Nat))/\(Int.toNat (x7.i:Int)-Int.toNat 0=(outL x1.l x1.c).length))/\((RW [.int .i64] (outL x1.l x1.c).length x1.l.length (cpyRows (encL encI x7.L) (0+Int.toNat (x7.i:Int)) (Int.toNat (x1.l.length:Int)-Int.toNat (x7.i:Int)) (fun(x j:Nat)=>zRow [.int .i64] j) 0) (encL encI (outL x1.l x1.c)))/\True))))))))))))))))))=(Keeps cfgDu Tryz.f40 duC dlI) by kernel_rfl) (fun x1=>fun h2=>⟨(x1),(by(try dsimp only at *);omega),⟨⟨rfl,rfl⟩,q76f1⟩,⟨⟨rl,rr⟩,⟨rfl,trivial⟩,trivial⟩,fun g4=>have h4:=dT g4;⟨⟨rfl,(by(try dsimp only at *);(rw[ix_out h4]))⟩,⟨⟨(by(try dsimp only at *);(rw[ix_out h4];exact Nat.le_refl _))⟩,(by(try dsimp only at *);(rw[ix_out h4];exact rr))⟩,trivial⟩,fun g5=>have h5:=dF g5;⟨⟨(by(try dsimp only at *);(have:=(dl_go h2 h5).1;omega)),(by(try dsimp only at *);(have:=(dl_go h2 h5).1;omega))⟩,({ i:=Int.toNat (ixF (DLx.l x1) (DLx.c x1)),j:=Int.toNat (ixF (DLx.l x1) (DLx.c x1))+(1:Nat),L:=DLx.l x1:DLs }),⟨(by(try dsimp only at *);exact(dl_go h2 h5).2),⟨(by(try dsimp only at *);(have:=(dl_go h2 h5).1;omega)),(by(try dsimp only at *);(have:=(dl_go h2 h5).1;omega)),q76f3⟩,⟨rl,rr⟩,⟨rfl,trivial⟩,trivial⟩,fun x7=>fun h8=>⟨fun g9=>have h9:=dT g9;⟨⟨(by(try dsimp only at *);omega),(by(try dsimp only at *);omega)⟩,(by(try dsimp only at *);omega),({ a:=List.getD (DLs.L x7) ((0:Nat)+Int.toNat (↑(DLs.j x7):Int)) default,b:=DLx.c x1:I2x }),trivial,⟨rfl,q76f0⟩,⟨⟨rfl,trivial⟩,trivial⟩,fun g11=>have h11:=nT g11;⟨⟨(by(try dsimp only at *);omega),(by(try dsimp only at *);(have:=h8.ij;have:=h8.j;omega))⟩,⟨(by(try dsimp only at *);(have:=h8.ij;have:=h8.j;omega)),trivial,trivial⟩,⟨(by(try dsimp only at *);omega),(by(try dsimp only at *);(have:=h8.ij;have:=h8.j;omega))⟩,⟨(by(try dsimp only at *);omega),(by(try dsimp only at *);omega)⟩,({ i:=DLs.i x7+(1:Nat),j:=DLs.j x7+(1:Nat),L:=List.set (DLs.L x7) (DLs.i x7) (List.getD (DLs.L x7) (DLs.j x7) default):DLs }),(by(try dsimp only at *);omega),(by(try dsimp only at *);(rw[nat0]at h11;exact dl_keep h8 h9 h11)),⟨(by(try dsimp only at *);omega),(by(try dsimp only at *);omega),q76f3⟩,⟨rl,(by(try dsimp only at *);(rw[nat0,nat0];exact rowsEq_set (v:=x7.L.getD x7.j default) (by have:=h8.len;have:=h8.ij;omega) ⟨rfl,trivial⟩))⟩,⟨rfl,trivial⟩,trivial⟩,fun g13=>have h13:=nF g13;⟨⟨(by(try dsimp only at *);omega),(by(try dsimp only at *);omega)⟩,({ i:=DLs.i x7,j:=DLs.j x7+(1:Nat),L:=DLs.L x7:DLs }),(by(try dsimp only at *);omega),(by(try dsimp only at *);(rw[nat0]at h13;exact dl_drop h8 h9 h13)),⟨rfl,(by(try dsimp only at *);omega),q76f3⟩,⟨rl,rr⟩,⟨rfl,trivial⟩,trivial⟩⟩,fun g15=>have h15:=dF g15;⟨⟨(by(try dsimp only at *);omega),(by(try dsimp only at *);(have:=h8.ij;have:=h8.j;omega)),(by(try dsimp only at *);omega)⟩,(by(try dsimp only at *);(have:=h8.ij;have:=h8.j;omega)),⟨(by(try dsimp only at *);omega),(by(try dsimp only at *);omega),(by(try dsimp only at *);(have:=h8.ij;have:=h8.j;omega))⟩,⟨(by(try dsimp only at *);omega),(by(try dsimp only at *);(have:=(dl_end h8 h15).1;have:Int.toNat 0=0:=rfl;omega))⟩,⟨⟨(by(try dsimp only at *);(have:=(dl_end h8 h15).1;have:=h8.ij;have:=h8.j;omega))⟩,(by(try dsimp only at *);(rw[nat0];exact dl_rows h8 h15))⟩,trivial⟩⟩⟩⟩)
theorem du_good:Good Tryz.prog 40 duC/\FnOk Tryz.prog 40:=good_of tok conDu (fn:=Tryz.f40) rfl (by decide+kernel) (fun _=>rfl) du_keeps
def ltJ (a b:Int):Bool:=decide (a<b)
set_option maxRecDepth 100000 in
theorem nanu_keeps:Keeps cfgN0 Tryz.f85 nanC noIv:=Eq.mp (show(∀ x1:Int,(True->((decide (x1≠x1)=false)/\True)))=(Keeps cfgN0 Tryz.f85 nanC noIv) by kernel_rfl) (fun x1=>fun h2=>⟨(by grind),trivial⟩)
theorem nanu_good:Good Tryz.prog 85 nanC/\FnOk Tryz.prog 85:=good_of tok conN0 (fn:=Tryz.f85) rfl (by decide+kernel) (fun _=>rfl) nanu_keeps
def cfgLeu:Cfg:=⟨T,[],[(85,.one nanC)],noInv,20,{}⟩
theorem conLeu:ConOk Tryz.prog cfgLeu:=ConL.ok (.cons (ConL.one nanu_good) .nil)
abbrev q78F0 (x1:I2x):Prop:=((decide (x1.a<x1.b)=decide (x1.a<x1.b))/\True)
theorem q78f0 {x1:I2x}:q78F0 x1:=⟨rfl,trivial⟩
set_option maxRecDepth 100000 in
theorem leu_keeps:Keeps cfgLeu Tryz.f55 leC noIv:=Eq.mp (show(∀ x1:I2x,(True->(∃ x3:Int,(True/\((x1.a=x3/\True)/\(True/\(CB false (∃ x5:Int,(True/\((x1.b=x5/\True)/\(True/\(CN true (q78F0 x1) ((true=decide (x1.a<x1.b))/\True)))))) (q78F0 x1))))))))=(Keeps cfgLeu Tryz.f55 leC noIv) by kernel_rfl) (fun x1=>fun h2=>⟨(I2x.a x1),trivial,⟨rfl,trivial⟩,trivial,fun h4=>⟨(I2x.b x1),trivial,⟨rfl,trivial⟩,trivial,fun h6=>q78f0,fun h7=>⟨(by(try dsimp only at *);grind),trivial⟩⟩,fun h8=>q78f0⟩)
theorem leu_good:Good Tryz.prog 55 leC/\FnOk Tryz.prog 55:=good_of tok conLeu (fn:=Tryz.f55) rfl (by decide+kernel) (fun _=>rfl) leu_keeps
theorem gAJ (d:Array Int) (i:Nat):d[i]! =d.toList.getD i default:=by
 rw[List.getD_eq_getElem?_getD,Array.getElem?_toList]
 by_cases h:i<d.size
 ·rw[getElem!_pos d i h,Array.getElem?_eq_getElem h];rfl
 ·rw[getElem!_neg d i h,Array.getElem?_eq_none (by omega)];rfl
theorem swpJ_size (d:Array Int) (i j:Nat):(Sort.swp d i j).size=d.size:=by simp[Sort.swp]
theorem swpJ_toList (d:Array Int) (i j:Nat):(Sort.swp d i j).toList=(d.toList.set i (d.toList.getD j default)).set j (d.toList.getD i default):=by
 unfold Sort.swp
 rw[Array.toList_setIfInBounds,Array.toList_setIfInBounds,gAJ,gAJ]
def aJ (d:Array Int):Nat->Nat->D:=encL encI d.toList
structure JNs where
 i:Nat
 d:Array Int
structure JNok (x:Array Int) (s:JNs):Prop where
 a:0<s.i
 i:s.i<=x.size∨s.i=1
 n:s.d.size=x.size
 eq:Sort.insOuter ltJ 0 x.size s.i s.d=Sort.insertionSort ltJ x 0 x.size
structure JNin (x:Array Int) (s t:JNs):Prop where
 i:t.i<=s.i
 n:t.d.size=x.size
 eq:Sort.insInner ltJ 0 t.i t.d=Sort.insInner ltJ 0 s.i s.d
theorem jn_step {x:Array Int} {s t:JNs} (h:JNin x s t) (h0:(0:Int)<t.i) (hc:t.d.toList.getD t.i default<t.d.toList.getD (t.i-1) default):JNin x s ⟨t.i-1,Sort.swp t.d t.i (t.i-1)⟩:=by
 have hi:=h.i
 refine⟨by show t.i-1<=s.i;omega,by show(Sort.swp _ _ _).size=_;rw[swpJ_size];exact h.n,?_⟩
 rw[<- h.eq]
 obtain⟨j,hj⟩:∃ j,t.i=j+1:=⟨t.i-1,by omega⟩
 show Sort.insInner ltJ 0 (t.i-1) (Sort.swp t.d t.i (t.i-1))=_
 rw[hj]at hc ⊢
 rw[Nat.add_sub_cancel]at hc ⊢
 conv=>rhs;unfold Sort.insInner
 have hl:ltJ t.d[j+1]! t.d[j]! =true:=by rw[gAJ,gAJ];exact decide_eq_true hc
 rw[hl,Bool.and_true,if_pos (by rw[decide_eq_true_iff];omega)]
theorem jn_stop {x:Array Int} {s t:JNs} (h:JNin x s t) (hn:¬ ((0:Int)<t.i/\t.d.toList.getD t.i default<t.d.toList.getD (t.i-1) default)):t.d=Sort.insInner ltJ 0 s.i s.d:=by
 rw[<- h.eq]
 cases hj:t.i with
 |zero=>rfl
 |succ j=>
  unfold Sort.insInner
  rw[hj,Nat.add_sub_cancel]at hn
  rw[if_neg]
  rw[Bool.and_eq_true,decide_eq_true_iff]
  rintro⟨a,b⟩
  refine hn ⟨by omega,?_⟩
  rw[gAJ,gAJ]at b
  exact of_decide_eq_true b
theorem jn_next {x:Array Int} {s t:JNs} (h:JNok x s) (k:JNin x s t) (hb:(s.i:Int)<x.size) (hn:¬ ((0:Int)<t.i/\t.d.toList.getD t.i default<t.d.toList.getD (t.i-1) default)):JNok x ⟨s.i+1,t.d⟩:=by
 refine⟨by show 0<s.i+1;omega,.inl (by show s.i+1<=x.size;omega),k.n,?_⟩
 rw[<- h.eq]
 conv=>rhs;unfold Sort.insOuter
 rw[if_pos (by omega)]
 show Sort.insOuter ltJ 0 x.size (s.i+1) t.d=_
 rw[jn_stop k hn]
theorem jn_end {x:Array Int} {s:JNs} (h:JNok x s) (hb:¬ (s.i:Int)<x.size):s.d=Sort.insertionSort ltJ x 0 x.size:=by
 rw[<- h.eq]
 unfold Sort.insOuter
 rw[if_neg (by omega)]
def jnsI (x:Array Int) (id:Nat):Option Inv:=match id with
 | 0 => some { X := JNs, ok := fun s => JNok x s, fr := fun s => [(6, .i .i64 s.i)], hp := fun s => [(100000, .rows .own k1 x.size (aJ s.d))], me := fun s => x.size - s.i,
               inn:=fun s id=>match id with
                |2=>some { X:=JNs,ok:=fun t=>JNin x s t,fr:=fun t=>[(7,.i .i64 t.i)],hp:=fun t=>[(100000,.rows .own k1 x.size (aJ t.d))],me:=fun t=>t.i }
                |_=>none }
 |_=>none
def srtJ (x:Array Int):Array Int:=Sort.insertionSort ltJ x 0 x.size
def jnsC:CT where
 X:=Array Int
 pre:=fun x=>x.size<=12
 args:=fun x=>[.sl 100000 0 x.size,.i .i64 0,.i .i64 x.size]
 g0:=fun x=>[(100000,.rows .own k1 x.size (aJ x))]
 res:=fun _=>.tup []
 g1:=fun x=>[(100000,.rows .own k1 x.size (aJ (srtJ x)))]
def cfgJns:Cfg:=⟨T,[],[(55,.one leC)],noInv,60,{}⟩
theorem conJns:ConOk Tryz.prog cfgJns:=ConL.ok (.cons (ConL.one leu_good) .nil)
theorem swp_rowsJ {d:Array Int} {n i j:Nat} (hn:d.size=n) (hi:i<n) (hj:j<n):
  RowsEq k1 n (setRow (setRow (aJ d) i 0 [.i (d.toList.getD j default)]) j 0 [.i (d.toList.getD i default)]) (aJ (Sort.swp d i j)):=by
 unfold aJ
 rw[swpJ_toList]
 have hl:d.toList.length=d.size:=Array.length_toList
 refine rowsEq_setOf ?_ hj (by rw[List.length_set];omega) ⟨rfl,trivial⟩
 exact rowsEq_set (ks:=k1) (e:=encI) (xs:=d.toList) (n:=n) (r:=i) (c:=0) (v:=d.toList.getD j default) (by omega) ⟨rfl,trivial⟩
abbrev q79F0 (x1:Array Int):Prop:=(((0:Int)+1=0+1)/\(((0:Int)=0)/\((0=0/\(Array.size x1=Array.size x1))/\(((0:Int)=0)/\(((↑(Array.size x1):Int)=(↑(Array.size x1):Int))/\True)))))
theorem q79f0 {x1:Array Int}:q79F0 x1:=⟨rfl,rfl,⟨rfl,rfl⟩,rfl,rfl,trivial⟩
abbrev q79F1 (x1:Array Int) (x4:JNs):Prop:=(((x4.i:Int)=(x4.i:Int))/\((decide ((x4.i:Int)<(↑(Array.size x1):Int))=decide ((x4.i:Int)<(↑(Array.size x1):Int)))/\(((↑(Array.size x1):Int)=(↑(Array.size x1):Int))/\(((x4.i:Int)=(x4.i:Int))/\(((x4.i:Int)=(x4.i:Int))/\(q79F0 x1))))))
theorem q79f1 {x1:Array Int} {x4:JNs}:q79F1 x1 x4:=⟨rfl,rfl,rfl,rfl,rfl,q79f0⟩
set_option maxRecDepth 100000 in
theorem jns_keeps:Keeps cfgJns Tryz.f75 jnsC jnsI:=Eq.mp (show(∀ x1:Array Int,((Array.size x1<=(12:Nat))->((R6 ((0:Int)+1))/\(∃ x3:JNs,(((JNok x1 x3)/\((((0:Int)+1=(x3.i:Int))/\(q79F0 x1))/\((RW [.int .i64] (Array.size x1) (Array.size x1) (aJ x1) (aJ x3.d))/\True)))/\(∀ x4:JNs,((JNok x1 x4)->(CB (decide ((x4.i:Int)<(↑(Array.size x1):Int))) (∃ x7:JNs,(((JNin x1 x4 x7)/\((((x4.i:Int)=(x7.i:Int))/\(q79F1 x1 x4))/\((RW [.int .i64] (Array.size x1) (Array.size x1) (aJ x4.d) (aJ x7.d))/\True)))/\(∀ x8:JNs,((JNin x1 x4 x8)->(CB (decide (0<(x8.i:Int))) ((Ix (x8.i:Int) (↑(Array.size x1):Int))/\((0+Int.toNat (x8.i:Int)<Array.size x1)/\((R6 ((x8.i:Int)-1))/\((Ix ((x8.i:Int)-1) (↑(Array.size x1):Int))/\((0+Int.toNat ((x8.i:Int)-1)<Array.size x1)/\(∃ x11:I2x,(True/\((((Array.toList x8.d).getD (0+Int.toNat (x8.i:Int)) default=x11.a)/\(((Array.toList x8.d).getD (0+Int.toNat ((x8.i:Int)-1)) default=x11.b)/\True))/\(True/\(CB (decide (x11.a<x11.b)) ((R6 ((x8.i:Int)-1))/\((R6 ((x8.i:Int)-1))/\((Ix ((x8.i:Int)-1) (↑(Array.size x1):Int))/\((0+Int.toNat ((x8.i:Int)-1)<Array.size x1)/\((Ix (x8.i:Int) (↑(Array.size x1):Int))/\((0+Int.toNat (x8.i:Int)<Array.size x1)/\((Ix (x8.i:Int) (↑(Array.size x1):Int))/\(((0+Int.toNat (x8.i:Int)<Array.size x1)/\(True/\True))/\((Ix ((x8.i:Int)-1) (↑(Array.size x1):Int))/\(((0+Int.toNat ((x8.i:Int)-1)<Array.size x1)/\(True/\True))/\((R6 ((x8.i:Int)-1))/\(∃ x13:JNs,((x13.i<x8.i)/\((JNin x1 x4 x13)/\((((x8.i:Int)-1=(x13.i:Int))/\(q79F1 x1 x4))/\((RW [.int .i64] (Array.size x1) (Array.size x1) (setRow (setRow (aJ x8.d) (0+Int.toNat (x8.i:Int)) 0 (D.i ((Array.toList x8.d).getD (0+Int.toNat ((x8.i:Int)-1)) default)::@List.nil D)) (0+Int.toNat ((x8.i:Int)-1)) 0 (D.i ((Array.toList x8.d).getD (0+Int.toNat (x8.i:Int)) default)::@List.nil D)) (aJ x13.d))/\True)))))))))))))))) ((R6 ((x4.i:Int)+1))/\(∃ x15:JNs,((Array.size x1-x15.i<Array.size x1-x4.i)/\((JNok x1 x15)/\((((x4.i:Int)+1=(x15.i:Int))/\(q79F0 x1))/\((RW [.int .i64] (Array.size x1) (Array.size x1) (aJ x8.d) (aJ x15.d))/\True)))))))))))))))) ((R6 ((x4.i:Int)+1))/\(∃ x17:JNs,((Array.size x1-x17.i<Array.size x1-x4.i)/\((JNok x1 x17)/\((((x4.i:Int)+1=(x17.i:Int))/\(q79F0 x1))/\((RW [.int .i64] (Array.size x1) (Array.size x1) (aJ x8.d) (aJ x17.d))/\True))))))))))) (True/\((RW [.int .i64] (Array.size x1) (Array.size x1) (aJ x4.d) (aJ (srtJ x1)))/\True))))))))))=(Keeps cfgJns Tryz.f75 jnsC jnsI) by kernel_rfl) (fun x1=>fun h2=>⟨⟨(by omega),(by omega)⟩,({ i:=(1:Nat),d:=x1:JNs }),⟨(by(try dsimp only at *);exact⟨by show 0<1;omega,.inr rfl,rfl,rfl⟩),⟨(by(try dsimp only at *);omega),q79f0⟩,⟨rl,rr⟩,trivial⟩,fun x4=>fun h5=>⟨fun g6=>have h6:=dT g6;⟨(x4),⟨(by(try dsimp only at *);exact⟨Nat.le_refl _,h5.n,rfl⟩),⟨rfl,q79f1⟩,⟨rl,rr⟩,trivial⟩,fun x8=>fun h9=>⟨fun g10=>have h10:=dT g10;⟨⟨(by(try dsimp only at *);omega),(by(try dsimp only at *);(have:=h9.i;have:=h9.n;omega))⟩,(by(try dsimp only at *);(have:=h9.i;have:=h9.n;omega)),⟨(by(try dsimp only at *);omega),(by(try dsimp only at *);(have:=h9.i;have:=h9.n;omega))⟩,⟨(by(try dsimp only at *);omega),(by(try dsimp only at *);(have:=h9.i;have:=h9.n;omega))⟩,(by(try dsimp only at *);(have:=h9.i;have:=h9.n;omega)),({ a:=List.getD (Array.toList (JNs.d x8)) ((0:Nat)+Int.toNat (↑(JNs.i x8):Int)) default,b:=List.getD (Array.toList (JNs.d x8)) ((0:Nat)+Int.toNat ((↑(JNs.i x8):Int)-(1:Int))) default:I2x }),trivial,⟨rfl,rfl,trivial⟩,trivial,fun g12=>have h12:=dT g12;⟨⟨(by(try dsimp only at *);omega),(by(try dsimp only at *);(have:=h9.i;have:=h9.n;omega))⟩,⟨(by(try dsimp only at *);omega),(by(try dsimp only at *);(have:=h9.i;have:=h9.n;omega))⟩,⟨(by(try dsimp only at *);omega),(by(try dsimp only at *);(have:=h9.i;have:=h9.n;omega))⟩,(by(try dsimp only at *);(have:=h9.i;have:=h9.n;omega)),⟨(by(try dsimp only at *);omega),(by(try dsimp only at *);(have:=h9.i;have:=h9.n;omega))⟩,(by(try dsimp only at *);(have:=h9.i;have:=h9.n;omega)),⟨(by(try dsimp only at *);omega),(by(try dsimp only at *);(have:=h9.i;have:=h9.n;omega))⟩,⟨(by(try dsimp only at *);(have:=h9.i;have:=h9.n;omega)),trivial,trivial⟩,⟨(by(try dsimp only at *);omega),(by(try dsimp only at *);(have:=h9.i;have:=h9.n;omega))⟩,⟨(by(try dsimp only at *);(have:=h9.i;have:=h9.n;omega)),trivial,trivial⟩,⟨(by(try dsimp only at *);omega),(by(try dsimp only at *);(have:=h9.i;have:=h9.n;omega))⟩,({ i:=JNs.i x8-(1:Nat),d:= Sort.swp (JNs.d x8) (JNs.i x8) (JNs.i x8-(1:Nat)):JNs }),(by(try dsimp only at *);omega),(by(try dsimp only at *);(rw[nat0,subK]at h12;exact jn_step h9 h10 h12)),⟨(by(try dsimp only at *);omega),q79f1⟩,⟨rl,(by(try dsimp only at *);(simp only[nat0,subK];have:=h9.i;exact swp_rowsJ h9.n (by omega) (by omega)))⟩,trivial⟩,fun g14=>have h14:=dF g14;⟨⟨(by(try dsimp only at *);omega),(by(try dsimp only at *);omega)⟩,({ i:=JNs.i x4+(1:Nat),d:=JNs.d x8:JNs }),(by(try dsimp only at *);omega),(by(try dsimp only at *);(rw[nat0,subK]at h14;exact jn_next h5 h9 h6 fun q=>h14 q.2)),⟨(by(try dsimp only at *);omega),q79f0⟩,⟨rl,rr⟩,trivial⟩⟩,fun g16=>have h16:=dF g16;⟨⟨(by(try dsimp only at *);omega),(by(try dsimp only at *);omega)⟩,({ i:=JNs.i x4+(1:Nat),d:=JNs.d x8:JNs }),(by(try dsimp only at *);omega),(by(try dsimp only at *);exact jn_next h5 h9 h6 fun q=>h16 q.1),⟨(by(try dsimp only at *);omega),q79f0⟩,⟨rl,rr⟩,trivial⟩⟩⟩,fun g18=>have h18:=dF g18;⟨trivial,⟨rl,(by(try dsimp only at *);(unfold srtJ;rw[<- jn_end h5 h18];exact rr))⟩,trivial⟩⟩⟩)
theorem jns_good:Good Tryz.prog 75 jnsC/\FnOk Tryz.prog 75:=good_of tok conJns (fn:=Tryz.f75) rfl (by decide+kernel) (fun _=>rfl) jns_keeps
def jpqC:CT:={ jnsC with args:=fun x=>[.sl 100000 0 x.size,.i .i64 0,.i .i64 x.size,.u]}
def jpqI (x:Array Int) (id:Nat):Option Inv:=match id with
 |0=>some { X:=Unit,ok:=fun _=>True,fr:=fun _=>[(1,.i .i64 0),(2,.i .i64 x.size),(0,.sl 100000 0 x.size)],hp:=fun _=>[],me:=fun _=>0,inn:=fun _ id=>match id with|100023=>some (cutT 23 true)|_=>none }
 |_=>none
def cfgJpq:Cfg:=⟨T,[],[(75,.one jnsC)],noInv,10,{}⟩
theorem conJpq:ConOk Tryz.prog cfgJpq:=ConL.ok (.cons (ConL.one jns_good) .nil)
set_option maxRecDepth 100000 in
theorem jpq_keeps:Keeps cfgJpq Tryz.f53 jpqC jpqI:=Eq.mp (show(∀ x1:Array Int,((Array.size x1<=(12:Nat))->(∃ x3:Unit,((True/\((((0:Int)=0)/\(((↑(Array.size x1):Int)=(↑(Array.size x1):Int))/\((0=0/\(Array.size x1=Array.size x1))/\True)))/\(((RLe (Array.size x1) (Array.size x1))/\(RowsEq [.int .i64] (Array.size x1) (aJ x1) (aJ x1)))/\True)))/\(∀ x4:Unit,(True->((R6 ((↑(Array.size x1):Int)-0))/\((∃ x6:Unit,(True/\((decide ((↑(Array.size x1):Int)-0<=(12:Int))=true)/\True)))/\(∀ x7:Unit,(True->(∃ x9:Array Int,((Array.size x9<=(12:Nat))/\(((0=0/\(Array.size x1=Array.size x9))/\(((0:Int)=0)/\(((↑(Array.size x1):Int)=(↑(Array.size x9):Int))/\True)))/\(((RW [.int .i64] (Array.size x9) (Array.size x1) (aJ x1) (aJ x9))/\True)/\(True/\((RW [.int .i64] (Array.size x1) (Array.size x9) (aJ (srtJ x9)) (aJ (srtJ x1)))/\True))))))))))))))))=(Keeps cfgJpq Tryz.f53 jpqC jpqI) by kernel_rfl) (fun x1=>fun h2=>⟨(default),⟨trivial,⟨rfl,rfl,⟨rfl,rfl⟩,trivial⟩,⟨rl,rr⟩,trivial⟩,fun x4=>fun h5=>⟨⟨(by(try dsimp only at *);omega),(by(try dsimp only at *);omega)⟩,⟨(default),trivial,(by(try dsimp only at *);grind),trivial⟩,fun x7=>fun h8=>⟨(x1),(by(try dsimp only at *);omega),⟨⟨rfl,rfl⟩,rfl,rfl,trivial⟩,⟨⟨rl,rr⟩,trivial⟩,trivial,⟨rl,rr⟩,trivial⟩⟩⟩)
theorem jpq_good:Good Tryz.prog 53 jpqC/\FnOk Tryz.prog 53:=good_of tok conJpq (fn:=Tryz.f53) rfl (by decide+kernel) (fun _=>rfl) jpq_keeps
def srtU (l:List Int):List Int:=(srtJ l.toArray).toList
def jsC:CT where
 X:=List Int
 pre:=fun l=>l.length<=12
 args:=fun l=>[.sl 100000 0 l.length]
 g0:=fun l=>[(100000,.rows .own k1 l.length (encL encI l))]
 res:=fun _=>.tup []
 g1:=fun l=>[(100000,.rows .own k1 l.length (encL encI (srtU l)))]
def cfgJs:Cfg:=⟨T,[],[(54,.one len64C),(53,.one jpqC)],noInv,20,{}⟩
theorem conJs:ConOk Tryz.prog cfgJs:=ConL.ok (.cons (ConL.one blen_good) (.cons (ConL.one jpq_good) .nil))
set_option maxRecDepth 100000 in
theorem js_keeps:Keeps cfgJs Tryz.f35 jsC noIv:=Eq.mp (show(∀ x1:List Int,((x1.length<=(12:Nat))->((((0:Int)<=(x1.length:Int))/\((x1.length:Int)<=(18446744073709551615:Int)))/\(∃ x3:Nat,((x3<=(12:Nat))/\((((x1.length:Int)=(x3:Int))/\True)/\(True/\(∃ x4:Array Int,((Array.size x4<=(12:Nat))/\(((0=0/\(x1.length=Array.size x4))/\(((0:Int)=0)/\(((x1.length:Int)=(↑(Array.size x4):Int))/\(True/\True))))/\(((RW [.int .i64] (Array.size x4) x1.length (encL encI x1) (aJ x4))/\True)/\(True/\((RW [.int .i64] x1.length (Array.size x4) (aJ (srtJ x4)) (encL encI (srtU x1)))/\True)))))))))))))=(Keeps cfgJs Tryz.f35 jsC noIv) by kernel_rfl) (fun x1=>fun h2=>⟨⟨(by omega),(by omega)⟩,(List.length x1),(by(try dsimp only at *);omega),⟨rfl,trivial⟩,trivial,(List.toArray x1),(by(try dsimp only at *);omega),⟨⟨rfl,(by(try dsimp only at *);grind)⟩,rfl,(by(try dsimp only at *);grind),trivial,trivial⟩,⟨⟨⟨(by(try dsimp only at *);grind)⟩,(by(try dsimp only at *);exact rr)⟩,trivial⟩,trivial,⟨⟨(by(try dsimp only at *);grind)⟩,(by(try dsimp only at *);exact rr)⟩,trivial⟩)
theorem js_good:Good Tryz.prog 35 jsC/\FnOk Tryz.prog 35:=good_of tok conJs (fn:=Tryz.f35) rfl (by decide+kernel) (fun _=>rfl) js_keeps
end Go.Sym