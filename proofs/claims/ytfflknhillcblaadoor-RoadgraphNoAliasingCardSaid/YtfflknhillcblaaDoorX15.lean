import Derived.Test.YtfflknhillcblaaDoorX10
import Derived.Test.YtfflknhillcblaaDoorX11
import Derived.Test.YtfflknhillcblaaDoorXD
namespace Go.Sym
set_option linter.unusedVariables false
set_option linter.unusedSimpArgs false
open Go.Proofs
set_option maxRecDepth 100000
set_option maxHeartbeats 4000000
structure NAx where
 p:NewX
 k:Int
def NAx.i (x:NAx):Int:=x.k%((0+x.p.es.length:Nat):Int)
def naB (x:NAx):Bool:=decide (((x.p.n<=12/\x.p.es.length<=40)/\x.p.es.length≠0)/\errN x.p=0)
def naP (x:NAx):Prop:=(0<=x.k/\x.k<=255)/\x.p.es.length<=5864062014805
def lawNa (pre:NAx->Prop):CT:=⟨NAx,pre,fun x=>[nA7 x.p,.i .u8 x.k],fun x=>nH7 x.p,fun _=>.b true,fun _=>[]⟩
def naNI (_:NAx) (id:Nat):Option Inv:=match id with
 |100038=>some (cutT 38 true)
 |_=>none
theorem na_out {x:NAx} (h:naP x/\naB x=false):¬ (((x.p.n<=12/\x.p.es.length<=40)/\x.p.es.length≠0)/\errN x.p=0):=of_decide_eq_false h.2
theorem na_in {x:NAx} (h:naP x/\naB x=true):((x.p.n<=12/\x.p.es.length<=40)/\x.p.es.length≠0)/\errN x.p=0:=of_decide_eq_true h.2
theorem na_i {x:NAx} (h:naP x/\naB x=true):0<=x.k%((0+x.p.es.length:Nat):Int)/\x.k%((0+x.p.es.length:Nat):Int)<(x.p.es.length:Int):=by
 have a:=(na_in h).1.2
 exact⟨Int.emod_nonneg _ (by omega),by have:=Int.emod_lt_of_pos x.k (b:=((0+x.p.es.length:Nat):Int)) (by omega);omega⟩
theorem na_t {x:NAx} (h:naP x/\naB x=true) (i:Nat) (hi:i<x.p.es.length):0<=(x.p.es.getD i default).d/\(x.p.es.getD i default).d<=4611686018427387904:=by
 have e:=(na_in h).2
 have q:x.p.es.all (edVB x.p.n)=true:=by
  unfold errN at e
  split at e
  ·cases e
  ·split at e
   ·cases e
   ·split at e
    ·assumption
    ·cases e
 have:=List.all_eq_true.1 q (x.p.es.getD i default) (by rw[List.getD_eq_getElem?_getD,List.getElem?_eq_getElem hi];exact List.getElem_mem hi)
 have:=of_decide_eq_true this
 omega
theorem na_e {x:NAx} (h:naP x/\naB x=true):edAt ⟨x.p.g,x.k%((0+x.p.es.length:Nat):Int)⟩=x.p.es.getD (0+(x.k%((0+x.p.es.length:Nat):Int)).toNat) default:=by
 rw[edAt_yes (x:=⟨x.p.g,_⟩) (na_i h)]
 exact congrArg (fun j=>x.p.es.getD j default) (Nat.zero_add _).symm
set_option maxRecDepth 100000 in
theorem na_no:Keeps cfgMn7 Tryd.f6 (lawNa fun x=>naP x/\naB x=false) naNI:=Eq.mp (show((∀ x1:NAx,((naP x1/\naB x1=false)->(∃ x3:Unit,(True/\(True/\(True/\((false=true->(false=true/\True))/\(false=false->(True/\((0=0/\(((0:Nat)<=(0:Nat))/\(((0:Nat)+x1.p.es.length<=x1.p.es.length)/\((0:Nat)+x1.p.es.length<=(5864062014805:Nat)))))/\(∃ x6:NewX,(True/\(((x1.p.n=x6.n/\((0=0/\((0:Nat)+x1.p.es.length=x6.es.length))/\True))/\True)/\((((RLe x6.es.length ((0:Nat)+x1.p.es.length))/\(RowsEq [.int .i64,.int .i64,.int .i64] x6.es.length (appRows 0 (litRows (@List.nil (List D))) 0 (encL encE x1.p.es)) (encL encE x6.es)))/\True)/\((∃ x7:NewX,(True/\(((x1.p.n=x7.n/\((0=0/\x1.p.es.length=x7.es.length)/\True))/\True)/\((((RLe x7.es.length x1.p.es.length)/\(RowsEq [.int .i64,.int .i64,.int .i64] x7.es.length (encL encE x1.p.es) (encL encE x7.es)))/\True)/\((((!decide (x7.n<=(12:Int)/\x7.es.length<=(40:Nat)))=false)->((((!decide (errN x6=0))=false)->(∃ x10:Unit,(True/\((decide ((↑((0:Nat)+x1.p.es.length):Int)=0)=true)/\True))))/\(((!decide (errN x6=0))=true)->(∃ x12:Unit,(True/\(true=true/\True))))))/\(((!decide (x7.n<=(12:Int)/\x7.es.length<=(40:Nat)))=true)->(∃ x14:Unit,(True/\(true=true/\True)))))))))/\(∀ x15:Unit,(True->(true=true/\True)))))))))))))))))))=(Keeps cfgMn7 Tryd.f6 (lawNa fun x=>naP x/\naB x=false) naNI) by kernel_rfl) (fun x1=>fun h2=>⟨(default),trivial,trivial,trivial,
fun h4=>⟨(by(try dsimp only at *);omega),trivial⟩,
fun h5=>⟨trivial,
⟨rfl,
(by(try dsimp only at *);omega),
(by(try dsimp only at *);omega),
(by(try dsimp only at *);(have:=h2.1.2;omega))⟩,
(NAx.p x1),trivial,
⟨⟨rfl,
⟨rfl,
(by(try dsimp only at *);omega)⟩,trivial⟩,trivial⟩,
⟨⟨⟨(by(try dsimp only at *);omega)⟩,
(by(try dsimp only at *);exact app0)⟩,trivial⟩,
⟨(NAx.p x1),trivial,
⟨⟨rfl,
⟨rfl,rfl⟩,trivial⟩,trivial⟩,
⟨⟨rl,rr⟩,trivial⟩,
fun g8=>have h8:=nF g8;⟨fun g9=>have h9:=nF g9;⟨(default),trivial,
(by(try dsimp only at *);(have:=na_out h2;exact decide_eq_true (by omega))),trivial⟩,
fun g11=>have h11:=nT g11;⟨(default),trivial,rfl,trivial⟩⟩,
fun g13=>have h13:=nT g13;⟨(default),trivial,rfl,trivial⟩⟩,
fun x15=>fun h16=>⟨rfl,trivial⟩⟩⟩)
def naYI (_:NAx) (id:Nat):Option Inv:=match id with
 |100038=>some (cutT 38 false)
 |100063=>some (cutT 63 false)
 |_=>none
def cfgNa:Cfg:=⟨T,[],[(10,.one wkC),(11,.one madeYC),(12,.one smallC),(28,.one rtC),(29,.one edgeC)],noInv,14,{}⟩
theorem conNa:ConOk Tryd.prog cfgNa:=ConL.ok (.cons (ConL.one wk_good) (.cons (ConL.one madeY_good) (.cons (ConL.one small_good) (.cons (ConL.one rt_good) (.cons (ConL.one edge_good) .nil)))))
set_option maxRecDepth 100000 in
theorem na_yes:Keeps cfgNa Tryd.f6 (lawNa fun x=>naP x/\naB x=true) naYI:=Eq.mp (show((∀ x1:NAx,((naP x1/\naB x1=true)->(∃ x3:Unit,(True/\(True/\(True/\((false=true->(false=true/\True))/\(false=false->(True/\((0=0/\(((0:Nat)<=(0:Nat))/\(((0:Nat)+x1.p.es.length<=x1.p.es.length)/\((0:Nat)+x1.p.es.length<=(5864062014805:Nat)))))/\(∃ x6:NewX,((errN x6=0)/\(((x1.p.n=x6.n/\((0=0/\((0:Nat)+x1.p.es.length=x6.es.length))/\True))/\True)/\((((RLe x6.es.length ((0:Nat)+x1.p.es.length))/\(RowsEq [.int .i64,.int .i64,.int .i64] x6.es.length (appRows 0 (litRows (@List.nil (List D))) 0 (encL encE x1.p.es)) (encL encE x6.es)))/\True)/\((∃ x7:NewX,(True/\(((x1.p.n=x7.n/\((0=0/\x1.p.es.length=x7.es.length)/\True))/\True)/\((((RLe x7.es.length x1.p.es.length)/\(RowsEq [.int .i64,.int .i64,.int .i64] x7.es.length (encL encE x1.p.es) (encL encE x7.es)))/\True)/\((((!decide (x7.n<=(12:Int)/\x7.es.length<=(40:Nat)))=false)->((false=false->(∃ x10:Unit,(True/\((decide ((↑((0:Nat)+x1.p.es.length):Int)=0)=false)/\True))))/\(false=true->(∃ x12:Unit,(True/\(true=false/\True))))))/\(((!decide (x7.n<=(12:Int)/\x7.es.length<=(40:Nat)))=true)->(∃ x14:Unit,(True/\(true=false/\True)))))))))/\(∀ x15:Unit,(True->((((-9223372036854775808:Int)<=x1.k)/\(x1.k<=(9223372036854775807:Int)))/\((((0:Int)<=x1.k)/\(0<(↑((0:Nat)+x1.p.es.length):Int)))/\((((0:Int)<=x1.k%(↑((0:Nat)+x1.p.es.length):Int))/\(x1.k%(↑((0:Nat)+x1.p.es.length):Int)<(↑((0:Nat)+x1.p.es.length):Int)))/\((0+Int.toNat (x1.k%(↑((0:Nat)+x1.p.es.length):Int))<(0:Nat)+x1.p.es.length)/\((((-9223372036854775808:Int)<=(x1.p.es.getD ((0:Nat)+(0+Int.toNat (x1.k%(↑((0:Nat)+x1.p.es.length):Int))-(0:Nat))) default).d+1)/\((x1.p.es.getD ((0:Nat)+(0+Int.toNat (x1.k%(↑((0:Nat)+x1.p.es.length):Int))-(0:Nat))) default).d+1<=(9223372036854775807:Int)))/\((((0:Int)<=x1.k%(↑((0:Nat)+x1.p.es.length):Int))/\(x1.k%(↑((0:Nat)+x1.p.es.length):Int)<(↑((0:Nat)+x1.p.es.length):Int)))/\(((0+Int.toNat (x1.k%(↑((0:Nat)+x1.p.es.length):Int))<(0:Nat)+x1.p.es.length)/\(True/\True))/\((((0:Int)<=x1.k%(↑((0:Nat)+x1.p.es.length):Int))/\(x1.k%(↑((0:Nat)+x1.p.es.length):Int)<(↑((0:Nat)+x1.p.es.length):Int)))/\(((0+Int.toNat (x1.k%(↑((0:Nat)+x1.p.es.length):Int))<(0:Nat)+x1.p.es.length)/\(True/\True))/\(∃ x17:Gr,((x17.es.length<=(16384:Nat))/\(((0=0/\0=0)/\True)/\(((RLe 1 1/\(RowsEq [.sl [.int .i64,.int .i64,.int .i64],.sl [.sl [.int .i64]],.sl [.sl [.int .i64]]] 1 (encG (NewX.g x6)) (encG x17)))/\True)/\((∃ x18:Unit,(True/\((decide ((x17.es.length:Int)≠(x1.p.es.length:Int))=false)/\True)))/\(∀ x19:Unit,(True->((((0:Int)<=x1.k%(↑((0:Nat)+x1.p.es.length):Int))/\(x1.k%(↑((0:Nat)+x1.p.es.length):Int)<(x17.es.length:Int)))/\(((0+Int.toNat (x1.k%(↑((0:Nat)+x1.p.es.length):Int))<x17.es.length)/\(True/\True))/\(∃ x21:GIx,(True/\(((0=0/\0=0)/\((x1.k%(↑((0:Nat)+x1.p.es.length):Int)=x21.i)/\True))/\(((RLe 1 1/\(RowsEq [.sl [.int .i64,.int .i64,.int .i64],.sl [.sl [.int .i64]],.sl [.sl [.int .i64]]] 1 (encG (NewX.g x6)) (encG x21.g)))/\True)/\(∃ x22:Gr,((x22.es.length<=(16384:Nat))/\(((0=0/\0=0)/\True)/\(((RLe 1 1/\(RowsEq [.sl [.int .i64,.int .i64,.int .i64],.sl [.sl [.int .i64]],.sl [.sl [.int .i64]]] 1 (encG (NewX.g x6)) (encG x22)))/\True)/\(((decide ((0:Int)<=x21.i/\x21.i<(x21.g.es.length:Int))=true)->((((0:Int)<=x1.k%(↑((0:Nat)+x1.p.es.length):Int))/\(x1.k%(↑((0:Nat)+x1.p.es.length):Int)<(x1.p.es.length:Int)))/\((0+Int.toNat (x1.k%(↑((0:Nat)+x1.p.es.length):Int))<x1.p.es.length)/\((((decide ((edAt x21).f=(x1.p.es.getD (0+Int.toNat (x1.k%(↑((0:Nat)+x1.p.es.length):Int))) default).f)&&(decide ((edAt x21).t=(x1.p.es.getD (0+Int.toNat (x1.k%(↑((0:Nat)+x1.p.es.length):Int))) default).t)&&(decide ((edAt x21).d=(x1.p.es.getD (0+Int.toNat (x1.k%(↑((0:Nat)+x1.p.es.length):Int))) default).d)&&true)))=true)->(((decide ((x22.es.length:Int)=(x1.p.es.length:Int))=true)->((((0:Int)<=x1.k%(↑((0:Nat)+x1.p.es.length):Int))/\(x1.k%(↑((0:Nat)+x1.p.es.length):Int)<(x22.es.length:Int)))/\((0+Int.toNat (x1.k%(↑((0:Nat)+x1.p.es.length):Int))<x22.es.length)/\((((0:Int)<=x1.k%(↑((0:Nat)+x1.p.es.length):Int))/\(x1.k%(↑((0:Nat)+x1.p.es.length):Int)<(x1.p.es.length:Int)))/\((0+Int.toNat (x1.k%(↑((0:Nat)+x1.p.es.length):Int))<x1.p.es.length)/\((decide ((dL x22.es).getD (0+Int.toNat (x1.k%(↑((0:Nat)+x1.p.es.length):Int))) default=(x1.p.es.getD (0+Int.toNat (x1.k%(↑((0:Nat)+x1.p.es.length):Int))) default).d)=true)/\True))))))/\((decide ((x22.es.length:Int)=(x1.p.es.length:Int))=false)->(false=true/\True))))/\(((decide ((edAt x21).f=(x1.p.es.getD (0+Int.toNat (x1.k%(↑((0:Nat)+x1.p.es.length):Int))) default).f)&&(decide ((edAt x21).t=(x1.p.es.getD (0+Int.toNat (x1.k%(↑((0:Nat)+x1.p.es.length):Int))) default).t)&&(decide ((edAt x21).d=(x1.p.es.getD (0+Int.toNat (x1.k%(↑((0:Nat)+x1.p.es.length):Int))) default).d)&&true)))=false)->(false=true/\True))))))/\((decide ((0:Int)<=x21.i/\x21.i<(x21.g.es.length:Int))=false)->(false=true/\True)))))))))))))))))))))))))))))))))))))))))))))))=(Keeps cfgNa Tryd.f6 (lawNa fun x=>naP x/\naB x=true) naYI) by kernel_rfl) (fun x1=>fun h2=>⟨(default),
 trivial,trivial,trivial,
fun h4=>⟨(by(try dsimp only at *);omega),trivial⟩,
fun h5=>⟨trivial,
⟨rfl,
(by(try dsimp only at *);omega),
(by(try dsimp only at *);omega),
(by(try dsimp only at *);(have:=h2.1.2;omega))⟩,
(NAx.p x1),
(by(try dsimp only at *);exact(na_in h2).2),
⟨⟨rfl,
⟨rfl,
(by(try dsimp only at *);omega)⟩,trivial⟩,trivial⟩,
⟨⟨⟨(by(try dsimp only at *);omega)⟩,
(by(try dsimp only at *);exact app0)⟩,trivial⟩,
⟨(NAx.p x1),trivial,
⟨⟨rfl,
⟨rfl,rfl⟩,trivial⟩,trivial⟩,
⟨⟨rl,rr⟩,trivial⟩,
fun g8=>have h8:=nF g8;⟨fun h9=>⟨(default),trivial,
(by(try dsimp only at *);(have:=(na_in h2).1.2;exact decide_eq_false (by omega))),trivial⟩,
fun h11=>⟨(default),trivial,
(by(try dsimp only at *);grind),trivial⟩⟩,
fun g13=>have h13:=nT g13;⟨(default),trivial,
(by(try dsimp only at *);exact absurd (na_in h2).1.1 ‹_›),trivial⟩⟩,
fun x15=>fun h16=>⟨⟨(by(try dsimp only at *);(have:=h2.1.1;omega)),
(by(try dsimp only at *);(have:=h2.1.1;omega))⟩,
⟨(by(try dsimp only at *);(have:=h2.1.1;omega)),
(by(try dsimp only at *);(have:=(na_in h2).1.2;omega))⟩,
⟨(by(try dsimp only at *);(have:=na_i h2;omega)),
(by(try dsimp only at *);(have:=na_i h2;omega))⟩,
(by(try dsimp only at *);(have:=na_i h2;omega)),
⟨(by(try dsimp only at *);(have:=na_t h2 (0+(0+(x1.k%((0+x1.p.es.length:Nat):Int)).toNat-0)) (by have:=na_i h2;omega);omega)),
(by(try dsimp only at *);(have:=na_t h2 (0+(0+(x1.k%((0+x1.p.es.length:Nat):Int)).toNat-0)) (by have:=na_i h2;omega);omega))⟩,
⟨(by(try dsimp only at *);(have:=na_i h2;omega)),
(by(try dsimp only at *);(have:=na_i h2;omega))⟩,
⟨(by(try dsimp only at *);(have:=na_i h2;omega)),trivial,trivial⟩,
⟨(by(try dsimp only at *);(have:=na_i h2;omega)),
(by(try dsimp only at *);(have:=na_i h2;omega))⟩,
⟨(by(try dsimp only at *);(have:=na_i h2;omega)),trivial,trivial⟩,
(NewX.g (NAx.p x1)),
(by(try dsimp only at *);(have:=(na_in h2).1.1;show x1.p.es.length<=16384;omega)),
⟨⟨rfl,rfl⟩,trivial⟩,
⟨⟨rl,rr⟩,trivial⟩,
⟨(default),trivial,
(by(try dsimp only at *);exact decide_eq_false (fun q=>q rfl)),trivial⟩,
fun x19=>fun h20=>⟨⟨(by(try dsimp only at *);(have:=na_i h2;omega)),
(by(try dsimp only at *);exact(na_i h2).2)⟩,
⟨(by(try dsimp only at *);(have:=na_i h2;show _<x1.p.es.length;omega)),trivial,trivial⟩,
({ g:=NewX.g (NAx.p x1),i:=NAx.k x1%(↑((0:Nat)+List.length (NewX.es (NAx.p x1))):Int):GIx }),trivial,
⟨⟨rfl,rfl⟩,rfl,trivial⟩,
⟨⟨rl,rr⟩,trivial⟩,
(NewX.g (NAx.p x1)),
(by(try dsimp only at *);(have:=(na_in h2).1.1;show x1.p.es.length<=16384;omega)),
⟨⟨rfl,rfl⟩,trivial⟩,
⟨⟨rl,rr⟩,trivial⟩,
fun g23=>have h23:=dT g23;⟨⟨(by(try dsimp only at *);omega),
(by(try dsimp only at *);(have:=na_i h2;omega))⟩,
(by(try dsimp only at *);(have:=na_i h2;omega)),
fun h24=>⟨fun g25=>have h25:=dT g25;⟨⟨(by(try dsimp only at *);omega),
(by(try dsimp only at *);omega)⟩,
(by(try dsimp only at *);omega),
⟨(by(try dsimp only at *);omega),
(by(try dsimp only at *);omega)⟩,
(by(try dsimp only at *);omega),
(by(try dsimp only at *);exact decide_eq_true (dL_at (es:=x1.p.es) (by have:=na_i h2;omega))),trivial⟩,
fun g26=>have h26:=dF g26;⟨(by(try dsimp only at *);exact absurd rfl ‹_›),trivial⟩⟩,
fun h27=>⟨(by(try dsimp only at *);(rw[na_e h2]at h27;simp at h27)),trivial⟩⟩,
fun g28=>have h28:=dF g28;⟨(by(try dsimp only at *);exact absurd (na_i h2) ‹_›),trivial⟩⟩⟩⟩⟩)
theorem naN_good:Good Tryd.prog 6 (lawNa fun x=>naP x/\naB x=false)/\FnOk Tryd.prog 6:=good_of tok conMn7 (fn:=Tryd.f6) rfl (by decide+kernel) (fun _=>rfl) na_no
theorem naY_good:Good Tryd.prog 6 (lawNa fun x=>naP x/\naB x=true)/\FnOk Tryd.prog 6:=good_of tok conNa (fn:=Tryd.f6) rfl (by decide+kernel) (fun _=>rfl) na_yes
theorem na_good7:Good Tryd.prog 6 (lawNa naP):=both_b (X:=NAx) (pre:=naP) (t:=naB) naY_good.1 naN_good.1
end Go.Sym