import Derived.Test.YtlldhkhmhgcpaaaGreatDoorC1
import Derived.Test.YtlldhkhmhgcpaaaGreatDoorXD
namespace Go.Sym
set_option linter.unusedVariables false
set_option linter.unusedSimpArgs false
open Go.Proofs
set_option maxRecDepth 100000
structure NewX where
 n:Int
 es:List Ed
def edVB (n:Int) (e:Ed):Bool:=decide (0<=e.f/\e.f<n/\0<=e.t/\e.t<n/\((1<=e.d/\e.d<=1048576)∨e.d=4611686018427387904))
def errN (x:NewX):Int:=if x.n<1∨4096<x.n then 1 else if 16384<x.es.length then 3 else if x.es.all (edVB x.n)then 0 else 1
def szN (x:NewX):Nat:=if errN x=0 then 1 else 0
def NewX.g (x:NewX):Gr:=⟨x.n.toNat,x.es⟩
def newC:CT where
 X:=NewX
 pre:=fun x=>x.es.length<=1073741824
 args:=fun x=>[.i .i64 x.n,.sl 100000 0 x.es.length]
 g0:=fun x=>[(100000,.rows .bor kE x.es.length (encL encE x.es))]
 res:=fun x=>.tup [.q 1 (szN x),.i .i64 (errN x)]
 g1:=fun x=>[(1,.rows .own kG (szN x) (encG x.g))]
def newI (x:NewX) (id:Nat):Option Inv:=match id with
 |0=>some { X:=Nat,ok:=fun k=>k<=x.es.length/\(x.es.take k).all (edVB x.n)=true,fr:=fun k=>[(19,.i .i64 k)],hp:=fun k=>[],me:=fun k=>x.es.length-k }
 |_=>none
def cfgNew:Cfg:=⟨T,[],[(46,.one (cloneC kE)),(45,.one buildC)],noInv,20,{}⟩
theorem conNew:ConOk Tryz.prog cfgNew:=ConL.ok (.cons (ConL.one cloneE_good) (.cons (ConL.one build_good) .nil))
theorem szN0 {x:NewX} (h:errN x≠0):szN x=0:=if_neg h
theorem szN_le (x:NewX):szN x<=1:=by unfold szN;split <;>omega
theorem err_range {x:NewX} (h:x.n<1∨4096<x.n):errN x=1:=if_pos h
theorem err_many {x:NewX} (h1:¬ x.n<1) (h2:¬ 4096<x.n) (h:16384<x.es.length):errN x=3:=by unfold errN;rw[if_neg (by omega),if_pos h]
theorem err_bad {x:NewX} {k:Nat} (h1:¬ x.n<1) (h2:¬ 4096<x.n) (h3:¬ 16384<x.es.length) (hk:k<x.es.length)
  (hb:¬ (0<=(x.es.getD k default).f/\(x.es.getD k default).f<x.n/\0<=(x.es.getD k default).t/\(x.es.getD k default).t<x.n/\((1<=(x.es.getD k default).d/\(x.es.getD k default).d<=1048576)∨(x.es.getD k default).d=4611686018427387904))):errN x=1:=by
 unfold errN
 rw[if_neg (by omega),if_neg h3,if_neg]
 intro h
 rw[List.all_eq_true]at h
 have:=h (x.es.getD k default) (by rw[List.getD_eq_getElem?_getD,List.getElem?_eq_getElem hk];exact List.getElem_mem hk)
 exact hb (of_decide_eq_true this)
theorem err_ok {x:NewX} (h1:¬ x.n<1) (h2:¬ 4096<x.n) (h3:¬ 16384<x.es.length) (h:x.es.all (edVB x.n)=true):errN x=0:=by
 unfold errN
 rw[if_neg (by omega),if_neg h3,if_pos h]
theorem all_succ {α:Type} {d:α} {xs:List α} {p:α->Bool} {k:Nat} (hk:k<xs.length) (h:(xs.take k).all p=true) (hb:p (xs.getD k d)=true):(xs.take (k+1)).all p=true:=by
 rw[take_succ_getD (d:=d) hk,List.all_append,h,List.all_cons,hb]
 rfl
theorem all_at {α:Type} {d:α} {xs:List α} {p:α->Bool} (h:xs.all p=true) {k:Nat} (hk:k<xs.length):p (xs.getD k d)=true:=by
 rw[List.all_eq_true]at h
 exact h _ (by rw[List.getD_eq_getElem?_getD,List.getElem?_eq_getElem hk];exact List.getElem_mem hk)
theorem gok {x:NewX} (h1:¬ x.n<1) (h2:¬ 4096<x.n) (h3:¬ 16384<x.es.length) (h:x.es.all (edVB x.n)=true):GOk x.g:=by
 refine⟨by show 1<=x.n.toNat;omega,by show x.n.toNat<=4096;omega,by show x.es.length<=16384;omega,fun k hk=>?_⟩
 have:=of_decide_eq_true (all_at (d:=default) h hk)
 have e:((x.g.n:Nat):Int)=x.n:=by show((x.n.toNat:Nat):Int)=x.n;omega
 unfold edOk
 rw[e]
 exact⟨this.1,this.2.1,this.2.2.1,this.2.2.2.1⟩
theorem take_all {α:Type} {xs:List α} {p:α->Bool} {k:Nat} (h1:k<=xs.length/\(xs.take k).all p=true) (h2:¬ (k:Int)<xs.length):xs.all p=true:=by
 have:=h1.2
 rwa [List.take_of_length_le (by omega)]at this
abbrev q13F0 (x1:NewX):Prop:=(0=0/\x1.es.length=x1.es.length)
theorem q13f0 {x1:NewX}:q13F0 x1:=⟨rfl,rfl⟩
abbrev q13F1 (x1:NewX):Prop:=(((x1.es.length:Int)=(x1.es.length:Int))/\((q13F0 x1)/\((decide (16384<(x1.es.length:Int))=decide (16384<(x1.es.length:Int)))/\(((x1.es.length:Int)=(x1.es.length:Int))/\((q13F0 x1)/\((decide (4096<x1.n)=decide (4096<x1.n))/\((decide (4096<x1.n)=decide (4096<x1.n))/\(x1.n=x1.n/\((decide (x1.n<(1:Int))=decide (x1.n<(1:Int)))/\((decide (x1.n<(1:Int))=decide (x1.n<(1:Int)))/\(x1.n=x1.n/\(x1.n=x1.n/\((q13F0 x1)/\True)))))))))))))
theorem q13f1 {x1:NewX}:q13F1 x1:=⟨rfl,q13f0,rfl,rfl,q13f0,rfl,rfl,rfl,rfl,rfl,rfl,rfl,q13f0,trivial⟩
abbrev q13F2 (x1:NewX):Prop:=(((RLe x1.es.length x1.es.length)/\(RowsEq [.int .i64,.int .i64,.int .i64] x1.es.length (encL encE x1.es) (encL encE x1.es)))/\True)
theorem q13f2 {x1:NewX}:q13F2 x1:=⟨⟨rl,rr⟩,trivial⟩
set_option maxRecDepth 100000 in
theorem new_keeps:Keeps cfgNew Tryz.f19 newC newI:=Eq.mp (show(∀ x1:NewX,((x1.es.length<=(1073741824:Nat))->(CN (decide (x1.n<(1:Int))) (CB (decide (4096<x1.n)) (((szN x1=(0:Nat))/\(((1:Int)=errN x1)/\True))/\((szN x1=(0:Nat))/\True)) (CB (decide (16384<(x1.es.length:Int))) (((szN x1=(0:Nat))/\(((3:Int)=errN x1)/\True))/\((szN x1=(0:Nat))/\True)) (∃ x8:Nat,((((x8<=x1.es.length)/\(List.all (List.take x8 x1.es) (edVB x1.n)=true))/\(((0=(x8:Int))/\(q13F1 x1))/\(q13F2 x1)))/\(∀ x9:Nat,(((x9<=x1.es.length)/\(List.all (List.take x9 x1.es) (edVB x1.n)=true))->(CB (decide ((x9:Int)<(x1.es.length:Int))) ((Ix (x9:Int) (x1.es.length:Int))/\((0+Int.toNat (x9:Int)<x1.es.length)/\(CN (decide ((x1.es.getD (0+Int.toNat (x9:Int)) default).f<(0:Int))) (CN (decide (x1.n<=(x1.es.getD (0+Int.toNat (x9:Int)) default).f)) (CN (decide ((x1.es.getD (0+Int.toNat (x9:Int)) default).t<(0:Int))) (CB (decide (x1.n<=(x1.es.getD (0+Int.toNat (x9:Int)) default).t)) (((szN x1=(0:Nat))/\(((1:Int)=errN x1)/\True))/\((szN x1=(0:Nat))/\True)) (CN (decide ((x1.es.getD (0+Int.toNat (x9:Int)) default).d<(1:Int))) (CB (decide (1048576<(x1.es.getD (0+Int.toNat (x9:Int)) default).d)) (CB (decide ((x1.es.getD (0+Int.toNat (x9:Int)) default).d≠(4611686018427387904:Int))) (((szN x1=(0:Nat))/\(((1:Int)=errN x1)/\True))/\((szN x1=(0:Nat))/\True)) ((R6 ((x9:Int)+1))/\(∃ x21:Nat,((x1.es.length-x21<x1.es.length-x9)/\(((x21<=x1.es.length)/\(List.all (List.take x21 x1.es) (edVB x1.n)=true))/\((((x9:Int)+1=(x21:Int))/\(q13F1 x1))/\(q13F2 x1))))))) ((R6 ((x9:Int)+1))/\(∃ x23:Nat,((x1.es.length-x23<x1.es.length-x9)/\(((x23<=x1.es.length)/\(List.all (List.take x23 x1.es) (edVB x1.n)=true))/\((((x9:Int)+1=(x23:Int))/\(q13F1 x1))/\(q13F2 x1))))))) (CB (decide ((x1.es.getD (0+Int.toNat (x9:Int)) default).d≠(4611686018427387904:Int))) (((szN x1=(0:Nat))/\(((1:Int)=errN x1)/\True))/\((szN x1=(0:Nat))/\True)) ((R6 ((x9:Int)+1))/\(∃ x27:Nat,((x1.es.length-x27<x1.es.length-x9)/\(((x27<=x1.es.length)/\(List.all (List.take x27 x1.es) (edVB x1.n)=true))/\((((x9:Int)+1=(x27:Int))/\(q13F1 x1))/\(q13F2 x1))))))))) (((szN x1=(0:Nat))/\(((1:Int)=errN x1)/\True))/\((szN x1=(0:Nat))/\True))) (((szN x1=(0:Nat))/\(((1:Int)=errN x1)/\True))/\((szN x1=(0:Nat))/\True))) (((szN x1=(0:Nat))/\(((1:Int)=errN x1)/\True))/\((szN x1=(0:Nat))/\True))))) (∃ x32:RX,((x32.n<=(1073741824:Nat))/\(((0=0/\x1.es.length=x32.n)/\True)/\(((RW [.int .i64,.int .i64,.int .i64] x32.n x1.es.length (encL encE x1.es) x32.f)/\True)/\(∃ x33:Gr,((GOk x33)/\(((x1.n=(x33.n:Int))/\((0=0/\x32.n=x33.es.length)/\True))/\(((RW [.int .i64,.int .i64,.int .i64] x33.es.length x32.n x32.f (encL encE x33.es))/\True)/\(((0=0/\(0=0/\(szN x1≠(0:Nat))))/\(((0:Int)=errN x1)/\True))/\((RW [.sl [.int .i64,.int .i64,.int .i64],.sl [.sl [.int .i64]],.sl [.sl [.int .i64]]] (szN x1) 1 (encG x33) (encG (NewX.g x1)))/\True))))))))))))))))) (((szN x1=(0:Nat))/\(((1:Int)=errN x1)/\True))/\((szN x1=(0:Nat))/\True)))))=(Keeps cfgNew Tryz.f19 newC newI) by kernel_rfl) (fun x1=>fun h2=>⟨fun g3=>have h3:=dF g3;⟨fun g4=>have h4:=dT g4;⟨⟨(by exact szN0 (by rw[err_range (by omega)];decide)),((err_range (by omega)).symm),trivial⟩,(by exact szN0 (by rw[err_range (by omega)];decide)),trivial⟩,fun g5=>have h5:=dF g5;⟨fun g6=>have h6:=dT g6;⟨⟨(by exact szN0 (by rw[err_many h3 h5 (by omega)];decide)),((err_many h3 h5 (by omega)).symm),trivial⟩,(by exact szN0 (by rw[err_many h3 h5 (by omega)];decide)),trivial⟩,fun g7=>have h7:=dF g7;⟨((0:Nat)),⟨⟨(by omega),(by grind)⟩,⟨(by omega),q13f1⟩,q13f2⟩,fun x9=>fun h10=>⟨fun g11=>have h11:=dT g11;⟨⟨(by omega),(by omega)⟩,(by omega),fun g12=>have h12:=dF g12;⟨fun g13=>have h13:=dF g13;⟨fun g14=>have h14:=dF g14;⟨fun g15=>have h15:=dT g15;⟨⟨(by simp only[nat0]at *;exact szN0 (by rw[err_bad (k:=x9) h3 h5 (by omega) (by omega) (by omega)];decide)),(by simp only[nat0]at *;exact(err_bad (k:=x9) h3 h5 (by omega) (by omega) (by omega)).symm),trivial⟩,(by simp only[nat0]at *;exact szN0 (by rw[err_bad (k:=x9) h3 h5 (by omega) (by omega) (by omega)];decide)),trivial⟩,fun g16=>have h16:=dF g16;⟨fun g17=>have h17:=dF g17;⟨fun g18=>have h18:=dT g18;⟨fun g19=>have h19:=dT g19;⟨⟨(by simp only[nat0]at *;exact szN0 (by rw[err_bad (k:=x9) h3 h5 (by omega) (by omega) (by omega)];decide)),(by simp only[nat0]at *;exact(err_bad (k:=x9) h3 h5 (by omega) (by omega) (by omega)).symm),trivial⟩,(by simp only[nat0]at *;exact szN0 (by rw[err_bad (k:=x9) h3 h5 (by omega) (by omega) (by omega)];decide)),trivial⟩,fun g20=>have h20:=dF g20;⟨⟨(by omega),(by omega)⟩,(x9+(1:Nat)),(by omega),⟨(by omega),(by simp only[nat0]at *;exact all_succ (d:=default) (by omega) h10.2 (decide_eq_true (by omega)))⟩,⟨(by omega),q13f1⟩,q13f2⟩⟩,fun g22=>have h22:=dF g22;⟨⟨(by omega),(by omega)⟩,(x9+(1:Nat)),(by omega),⟨(by omega),(by simp only[nat0]at *;exact all_succ (d:=default) (by omega) h10.2 (decide_eq_true (by omega)))⟩,⟨(by omega),q13f1⟩,q13f2⟩⟩,fun g24=>have h24:=dT g24;⟨fun g25=>have h25:=dT g25;⟨⟨(by simp only[nat0]at *;exact szN0 (by rw[err_bad (k:=x9) h3 h5 (by omega) (by omega) (by omega)];decide)),(by simp only[nat0]at *;exact(err_bad (k:=x9) h3 h5 (by omega) (by omega) (by omega)).symm),trivial⟩,(by simp only[nat0]at *;exact szN0 (by rw[err_bad (k:=x9) h3 h5 (by omega) (by omega) (by omega)];decide)),trivial⟩,fun g26=>have h26:=dF g26;⟨⟨(by omega),(by omega)⟩,(x9+(1:Nat)),(by omega),⟨(by omega),(by omega)⟩,⟨(by omega),q13f1⟩,q13f2⟩⟩⟩⟩,fun g28=>have h28:=dT g28;⟨⟨(by simp only[nat0]at *;exact szN0 (by rw[err_bad (k:=x9) h3 h5 (by omega) (by omega) (by omega)];decide)),(by simp only[nat0]at *;exact(err_bad (k:=x9) h3 h5 (by omega) (by omega) (by omega)).symm),trivial⟩,(by simp only[nat0]at *;exact szN0 (by rw[err_bad (k:=x9) h3 h5 (by omega) (by omega) (by omega)];decide)),trivial⟩⟩,fun g29=>have h29:=dT g29;⟨⟨(by simp only[nat0]at *;exact szN0 (by rw[err_bad (k:=x9) h3 h5 (by omega) (by omega) (by omega)];decide)),(by simp only[nat0]at *;exact(err_bad (k:=x9) h3 h5 (by omega) (by omega) (by omega)).symm),trivial⟩,(by simp only[nat0]at *;exact szN0 (by rw[err_bad (k:=x9) h3 h5 (by omega) (by omega) (by omega)];decide)),trivial⟩⟩,fun g30=>have h30:=dT g30;⟨⟨(by simp only[nat0]at *;exact szN0 (by rw[err_bad (k:=x9) h3 h5 (by omega) (by omega) (by omega)];decide)),(by simp only[nat0]at *;exact(err_bad (k:=x9) h3 h5 (by omega) (by omega) (by omega)).symm),trivial⟩,(by simp only[nat0]at *;exact szN0 (by rw[err_bad (k:=x9) h3 h5 (by omega) (by omega) (by omega)];decide)),trivial⟩⟩,fun g31=>have h31:=dF g31;⟨({ n:=List.length (NewX.es x1),f:=encL encE (NewX.es x1):RX }),(by omega),⟨⟨rfl,rfl⟩,trivial⟩,⟨⟨rl,rr⟩,trivial⟩,(NewX.g x1),(gok h3 h5 (by omega) (take_all h10 h31)),⟨(by show x1.n=((x1.n.toNat:Nat):Int);omega),⟨rfl,rfl⟩,trivial⟩,⟨⟨⟨(Nat.le_refl _)⟩,rr⟩,trivial⟩,⟨⟨rfl,rfl,(by unfold szN;rw[err_ok h3 h5 (by omega) (take_all h10 h31)];decide)⟩,((err_ok h3 h5 (by omega) (take_all h10 h31)).symm),trivial⟩,⟨⟨(szN_le _)⟩,rr⟩,trivial⟩⟩⟩⟩⟩,fun g34=>have h34:=dT g34;⟨⟨(by exact szN0 (by rw[err_range (by omega)];decide)),((err_range (by omega)).symm),trivial⟩,(by exact szN0 (by rw[err_range (by omega)];decide)),trivial⟩⟩)
theorem new_good:Good Tryz.prog 19 newC/\FnOk Tryz.prog 19:=good_of tok conNew (fn:=Tryz.f19) rfl (by decide+kernel) (fun _=>rfl) new_keeps
end Go.Sym
namespace Go.Sym
set_option linter.unusedVariables false
set_option linter.unusedSimpArgs false
open Go.Proofs
set_option maxRecDepth 100000
def graphH (g:Gr) (l:Nat):List (Nat × Blk):=[(l,.rows .bor kG 1 (encG g))]
def nodesC:CT where
 X:=Gr
 pre:=fun _=>True
 args:=fun g=>[.p 100000 0 0]
 g0:=fun g=>graphH g 100000
 res:=fun g=>.i .i64 g.n
 g1:=fun _=>[]
set_option maxRecDepth 100000 in
theorem nodes_keeps:Keeps cfgN0 Tryz.f27 nodesC noIv:=Eq.mp (show(∀ x1:Gr,(True->((0<(1:Nat))/\(((x1.n:Int)=(x1.n:Int))/\True))))=(Keeps cfgN0 Tryz.f27 nodesC noIv) by kernel_rfl) (fun x1=>fun h2=>⟨(by omega),rfl,trivial⟩)
def edgesC:CT where
 X:=Gr
 pre:=fun _=>True
 args:=fun g=>[.p 100000 0 0]
 g0:=fun g=>graphH g 100000
 res:=fun g=>.i .i64 g.es.length
 g1:=fun _=>[]
set_option maxRecDepth 100000 in
theorem edges_keeps:Keeps cfgN0 Tryz.f83 edgesC noIv:=Eq.mp (show(∀ x1:Gr,(True->((0<(1:Nat))/\(((x1.es.length:Int)=(x1.es.length:Int))/\True))))=(Keeps cfgN0 Tryz.f83 edgesC noIv) by kernel_rfl) (fun x1=>fun h2=>⟨(by omega),rfl,trivial⟩)
structure GIx where
 g:Gr
 i:Int
def edAt (x:GIx):Ed:=if 0<=x.i/\x.i<x.g.es.length then x.g.es.getD x.i.toNat default else default
def edgeC:CT where
 X:=GIx
 pre:=fun _=>True
 args:=fun x=>[.p 100000 0 0,.i .i64 x.i]
 g0:=fun x=>graphH x.g 100000
 res:=fun x=>.tup [.agg [.i .i64 (edAt x).f,.i .i64 (edAt x).t,.i .i64 (edAt x).d],.b (decide (0<=x.i/\x.i<x.g.es.length))]
 g1:=fun _=>[]
theorem edAt_no {x:GIx} (h:¬ (0<=x.i/\x.i<x.g.es.length)):edAt x=default:=if_neg h
theorem edAt_yes {x:GIx} (h:0<=x.i/\x.i<x.g.es.length):edAt x=x.g.es.getD x.i.toNat default:=if_pos h
set_option maxRecDepth 100000 in
theorem edge_keeps:Keeps cfgN0 Tryz.f82 edgeC noIv:=Eq.mp (show(∀ x1:GIx,(True->(CN (decide (x1.i<(0:Int))) ((0<(1:Nat))/\(CB (decide ((x1.g.es.length:Int)<=x1.i)) ((((0=(edAt x1).f)/\((0=(edAt x1).t)/\((0=(edAt x1).d)/\True)))/\((false=decide ((0:Int)<=x1.i/\x1.i<(x1.g.es.length:Int)))/\True))/\True) ((0<(1:Nat))/\((Ix x1.i (x1.g.es.length:Int))/\((0+Int.toNat x1.i<x1.g.es.length)/\(((((x1.g.es.getD (0+Int.toNat x1.i) default).f=(edAt x1).f)/\(((x1.g.es.getD (0+Int.toNat x1.i) default).t=(edAt x1).t)/\(((x1.g.es.getD (0+Int.toNat x1.i) default).d=(edAt x1).d)/\True)))/\((true=decide ((0:Int)<=x1.i/\x1.i<(x1.g.es.length:Int)))/\True))/\True)))))) ((((0=(edAt x1).f)/\((0=(edAt x1).t)/\((0=(edAt x1).d)/\True)))/\((false=decide ((0:Int)<=x1.i/\x1.i<(x1.g.es.length:Int)))/\True))/\True))))=(Keeps cfgN0 Tryz.f82 edgeC noIv) by kernel_rfl) (fun x1=>fun h2=>⟨fun g3=>have h3:=dF g3;⟨(by omega),fun g4=>have h4:=dT g4;⟨⟨⟨(by(rw[edAt_no (by omega)];rfl)),(by(rw[edAt_no (by omega)];rfl)),(by(rw[edAt_no (by omega)];rfl)),trivial⟩,(by grind),trivial⟩,trivial⟩,fun g5=>have h5:=dF g5;⟨(by omega),⟨(by omega),(by omega)⟩,(by omega),⟨⟨(by(rw[edAt_yes (by omega),Nat.zero_add])),(by(rw[edAt_yes (by omega),Nat.zero_add])),(by(rw[edAt_yes (by omega),Nat.zero_add])),trivial⟩,(by grind),trivial⟩,trivial⟩⟩,fun g6=>have h6:=dT g6;⟨⟨⟨(by(rw[edAt_no (by omega)];rfl)),(by(rw[edAt_no (by omega)];rfl)),(by(rw[edAt_no (by omega)];rfl)),trivial⟩,(by grind),trivial⟩,trivial⟩⟩)
structure LLx where
 n:Nat
 f:Nat->List Int
 i:Int
def enumC:CT where
 X:=LLx
 pre:=fun _=>True
 args:=fun x=>[.sl 100000 0 x.n,.i .i64 x.i]
 g0:=fun x=>[(100000,.rows .bor kLL x.n (encLL x.f))]
 res:=fun x=>.fn 120 [.p 1 0 0,.p 2 0 0]
 g1:=fun x=>[(1,.one .own [.i .i64 x.i]),(2,.one .own [.sl 100000 0 x.n])]
set_option maxRecDepth 100000 in
theorem enum_keeps:Keeps cfgN0 Tryz.f105 enumC noIv:=Eq.mp (show(∀ x1:LLx,(True->(((0=0/\0=0)/\((0=0/\0=0)/\True))/\((x1.i=x1.i/\True)/\(((0=0/\x1.n=x1.n)/\True)/\True)))))=(Keeps cfgN0 Tryz.f105 enumC noIv) by kernel_rfl) (fun x1=>fun h2=>⟨⟨⟨rfl,rfl⟩,⟨rfl,rfl⟩,trivial⟩,⟨rfl,trivial⟩,⟨⟨rfl,rfl⟩,trivial⟩,trivial⟩)
theorem nodes_good:Good Tryz.prog 27 nodesC/\FnOk Tryz.prog 27:=good_of tok conN0 (fn:=Tryz.f27) rfl (by decide+kernel) (fun _=>rfl) nodes_keeps
theorem edges_good:Good Tryz.prog 83 edgesC/\FnOk Tryz.prog 83:=good_of tok conN0 (fn:=Tryz.f83) rfl (by decide+kernel) (fun _=>rfl) edges_keeps
theorem edge_good:Good Tryz.prog 82 edgeC/\FnOk Tryz.prog 82:=good_of tok conN0 (fn:=Tryz.f82) rfl (by decide+kernel) (fun _=>rfl) edge_keeps
theorem enum_good:Good Tryz.prog 105 enumC/\FnOk Tryz.prog 105:=good_of tok conN0 (fn:=Tryz.f105) rfl (by decide+kernel) (fun _=>rfl) enum_keeps
def cfgOut:Cfg:=⟨T,[],[(105,.one enumC)],noInv,20,{}⟩
theorem conOut:ConOk Tryz.prog cfgOut:=ConL.ok (.cons (ConL.one enum_good) .nil)
def outC (s:Bool):CT where
 X:=GIx
 pre:=fun _=>True
 args:=fun x=>[.p 100000 0 0,.i .i64 x.i]
 g0:=fun x=>graphH x.g 100000
 res:=fun x=>.fn 120 [.p 1 0 0,.p 2 0 0]
 g1:=fun x=>[(1,.one .own [.i .i64 x.i]),(2,.one .own [.sl 3 0 x.g.n]),(3,.rows .fz kLL x.g.n (encLL (adjG x.g s)))]
set_option maxRecDepth 100000 in
theorem out_keeps:Keeps cfgOut Tryz.f80 (outC true) noIv:=Eq.mp (show(∀ x1:GIx,(True->((0<(1:Nat))/\(∃ x3:LLx,(True/\(((0=0/\x1.g.n=x3.n)/\(x1.i=x3.i/\True))/\(((RW [.sl [.int .i64]] x3.n x1.g.n (D.toF (D.l x1.g.n (encLL (adjG x1.g true)))) (encLL x3.f))/\True)/\(((0=0/\0=0)/\((0=0/\0=0)/\True))/\((x3.i=x1.i/\True)/\(((0=0/\x3.n=x1.g.n)/\True)/\((RW [.sl [.int .i64]] x1.g.n x1.g.n (D.toF (D.l x1.g.n (encLL (adjG x1.g true)))) (encLL (adjG x1.g true)))/\True)))))))))))=(Keeps cfgOut Tryz.f80 (outC true) noIv) by kernel_rfl) (fun x1=>fun h2=>⟨(by omega),({ n:=Gr.n (GIx.g x1),f:=adjG (GIx.g x1) true,i:=GIx.i x1:LLx }),trivial,⟨⟨rfl,rfl⟩,rfl,trivial⟩,⟨⟨rl,(by(try dsimp only at *);exact rr)⟩,trivial⟩,⟨⟨rfl,rfl⟩,⟨rfl,rfl⟩,trivial⟩,⟨rfl,trivial⟩,⟨⟨rfl,rfl⟩,trivial⟩,⟨rl,(by(try dsimp only at *);exact rr)⟩,trivial⟩)
set_option maxRecDepth 100000 in
theorem in_keeps:Keeps cfgOut Tryz.f79 (outC false) noIv:=Eq.mp (show(∀ x1:GIx,(True->((0<(1:Nat))/\(∃ x3:LLx,(True/\(((0=0/\x1.g.n=x3.n)/\(x1.i=x3.i/\True))/\(((RW [.sl [.int .i64]] x3.n x1.g.n (D.toF (D.l x1.g.n (encLL (adjG x1.g false)))) (encLL x3.f))/\True)/\(((0=0/\0=0)/\((0=0/\0=0)/\True))/\((x3.i=x1.i/\True)/\(((0=0/\x3.n=x1.g.n)/\True)/\((RW [.sl [.int .i64]] x1.g.n x1.g.n (D.toF (D.l x1.g.n (encLL (adjG x1.g false)))) (encLL (adjG x1.g false)))/\True)))))))))))=(Keeps cfgOut Tryz.f79 (outC false) noIv) by kernel_rfl) (fun x1=>fun h2=>⟨(by omega),({ n:=Gr.n (GIx.g x1),f:=adjG (GIx.g x1) false,i:=GIx.i x1:LLx }),trivial,⟨⟨rfl,rfl⟩,rfl,trivial⟩,⟨⟨rl,(by(try dsimp only at *);exact rr)⟩,trivial⟩,⟨⟨rfl,rfl⟩,⟨rfl,rfl⟩,trivial⟩,⟨rfl,trivial⟩,⟨⟨rfl,rfl⟩,trivial⟩,⟨rl,(by(try dsimp only at *);exact rr)⟩,trivial⟩)
theorem out_good:Good Tryz.prog 80 (outC true)/\FnOk Tryz.prog 80:=good_of tok conOut (fn:=Tryz.f80) rfl (by decide+kernel) (fun _=>rfl) out_keeps
theorem in_good:Good Tryz.prog 79 (outC false)/\FnOk Tryz.prog 79:=good_of tok conOut (fn:=Tryz.f79) rfl (by decide+kernel) (fun _=>rfl) in_keeps
end Go.Sym