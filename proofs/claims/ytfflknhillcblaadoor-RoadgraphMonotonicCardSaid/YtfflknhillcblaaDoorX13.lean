import Derived.Test.YtfflknhillcblaaDoorX12
import Derived.Test.YtfflknhillcblaaDoorX11
import Derived.Test.YtfflknhillcblaaDoorXD
namespace Go.Sym
set_option linter.unusedVariables false
set_option linter.unusedSimpArgs false
open Go.Proofs
set_option maxRecDepth 100000
set_option maxHeartbeats 4000000
structure MOx where
 p:NewX
 e:Ed
 k:Int
def MOx.more (x:MOx):NewX:=⟨x.p.n,x.p.es++[x.e]⟩
def MOx.i (x:MOx):Nat:=(x.k%((0+x.p.es.length:Nat):Int)).toNat
def shut (e:Ed):Ed:=⟨e.f,e.t,4611686018427387904⟩
def MOx.less (x:MOx):NewX:=⟨x.p.n,x.p.es.set x.i (shut (x.p.es.getD x.i default))⟩
def moA (x:MOx):Bool:=decide ((x.p.n<=12/\x.p.es.length<=40)/\x.p.es.length≠0)
def moB (x:MOx):Bool:=decide (errN x.p=0/\errN x.more=0)
def moP (x:MOx):Prop:=0<=x.k/\x.k<=255
def lawMo (pre:MOx->Prop):CT:=⟨MOx,pre,fun x=>[nA7 x.p,.agg [.i .i64 x.e.f,.i .i64 x.e.t,.i .i64 x.e.d],.i .u8 x.k],fun x=>nH7 x.p,fun _=>.b true,fun _=>[]⟩
def moAI (_:MOx) (id:Nat):Option Inv:=match id with
 |100026=>some (cutT 26 true)
 |_=>none
def cfgMoA:Cfg:=⟨T,[],[(10,.one wkC),(12,.one smallC)],noInv,8,{}⟩
theorem conMoA:ConOk Tryd.prog cfgMoA:=ConL.ok (.cons (ConL.one wk_good) (.cons (ConL.one small_good) .nil))
theorem moA_out {x:MOx} (h:moP x/\moA x=false):¬ ((x.p.n<=12/\x.p.es.length<=40)/\x.p.es.length≠0):=of_decide_eq_false h.2
set_option maxRecDepth 100000 in
theorem mo_a:Keeps cfgMoA Tryd.f7 (lawMo fun x=>moP x/\moA x=false) moAI:=Eq.mp (show((∀ x1:MOx,((moP x1/\moA x1=false)->(∃ x3:Unit,(True/\(True/\(True/\((false=true->(false=true/\True))/\(false=false->((∃ x6:NewX,(True/\(((x1.p.n=x6.n/\((0=0/\x1.p.es.length=x6.es.length)/\True))/\True)/\((((RLe x6.es.length x1.p.es.length)/\(RowsEq [.int .i64,.int .i64,.int .i64] x6.es.length (encL encE x1.p.es) (encL encE x6.es)))/\True)/\((((!decide (x6.n<=(12:Int)/\x6.es.length<=(40:Nat)))=false)->(∃ x8:Unit,(True/\((decide ((x1.p.es.length:Int)=0)=true)/\True))))/\(((!decide (x6.n<=(12:Int)/\x6.es.length<=(40:Nat)))=true)->(∃ x10:Unit,(True/\(true=true/\True)))))))))/\(∀ x11:Unit,(True->(true=true/\True)))))))))))))=(Keeps cfgMoA Tryd.f7 (lawMo fun x=>moP x/\moA x=false) moAI) by kernel_rfl) (fun x1=>fun h2=>⟨(default),trivial,trivial,trivial,
fun h4=>⟨(by(try dsimp only at *);omega),trivial⟩,
fun h5=>⟨⟨(MOx.p x1),trivial,
⟨⟨rfl,
⟨rfl,rfl⟩,trivial⟩,trivial⟩,
⟨⟨rl,rr⟩,trivial⟩,
fun g7=>have h7:=nF g7;⟨(default),trivial,
(by(try dsimp only at *);(have q:=moA_out h2;exact decide_eq_true (by omega))),trivial⟩,
fun g9=>have h9:=nT g9;⟨(default),trivial,rfl,trivial⟩⟩,
fun x11=>fun h12=>⟨rfl,trivial⟩⟩⟩)
def moBI (_:MOx) (id:Nat):Option Inv:=match id with
 |100026=>some (cutT 26 false)
 |100051=>some (cutT 51 true)
 |_=>none
def cfgMoB:Cfg:=⟨T,[],[(10,.one wkC),(12,.one smallC),(11,.one madeC)],noInv,16,{}⟩
theorem conMoB:ConOk Tryd.prog cfgMoB:=ConL.ok (.cons (ConL.one wk_good) (.cons (ConL.one small_good) (.cons (ConL.one made_good) .nil)))
theorem moB_out {x:MOx} (h:(moP x/\moA x=true)/\moB x=false):¬ (errN x.p=0/\errN x.more=0):=of_decide_eq_false h.2
theorem mo_in {x:MOx} (h:moA x=true):(x.p.n<=12/\x.p.es.length<=40)/\x.p.es.length≠0:=of_decide_eq_true h
theorem more_len (x:MOx):x.more.es.length=x.p.es.length+1:=by show(x.p.es++[x.e]).length=_;simp
theorem more_rows (x:MOx):RowsEq kE x.more.es.length (appRows (0+x.p.es.length) (appRows 0 (litRows []) 0 (encL encE x.p.es)) 0 (litRows [[.i x.e.f,.i x.e.t,.i x.e.d]])) (encL encE x.more.es):=by
 rw[more_len]
 exact rowsEq_pushOf (xs:=x.p.es) (v:=x.e) app0 (Nat.zero_add _) (Nat.le_refl _) ⟨rfl,rfl,rfl,trivial⟩
set_option maxRecDepth 100000 in
theorem mo_b:Keeps cfgMoB Tryd.f7 (lawMo fun x=>(moP x/\moA x=true)/\moB x=false) moBI:=Eq.mp (show((∀ x1:MOx,(((moP x1/\moA x1=true)/\moB x1=false)->(∃ x3:Unit,(True/\(True/\(True/\((false=true->(false=true/\True))/\(false=false->((∃ x6:NewX,(True/\(((x1.p.n=x6.n/\((0=0/\x1.p.es.length=x6.es.length)/\True))/\True)/\((((RLe x6.es.length x1.p.es.length)/\(RowsEq [.int .i64,.int .i64,.int .i64] x6.es.length (encL encE x1.p.es) (encL encE x6.es)))/\True)/\((((!decide (x6.n<=(12:Int)/\x6.es.length<=(40:Nat)))=false)->(∃ x8:Unit,(True/\((decide ((x1.p.es.length:Int)=0)=false)/\True))))/\(((!decide (x6.n<=(12:Int)/\x6.es.length<=(40:Nat)))=true)->(∃ x10:Unit,(True/\(true=false/\True)))))))))/\(∀ x11:Unit,(True->(∃ x13:NewX,(True/\(((x1.p.n=x13.n/\((0=0/\x1.p.es.length=x13.es.length)/\True))/\True)/\((((RLe x13.es.length x1.p.es.length)/\(RowsEq [.int .i64,.int .i64,.int .i64] x13.es.length (encL encE x1.p.es) (encL encE x13.es)))/\True)/\(True/\((0=0/\(((0:Nat)<=(0:Nat))/\(((0:Nat)+x1.p.es.length<=x1.p.es.length)/\((0:Nat)+x1.p.es.length<=(1073741824:Nat)))))/\(((True/\(True/\(True/\True)))/\True)/\((0=0/\(((0:Nat)+x1.p.es.length<=(0:Nat)+x1.p.es.length)/\(((1:Nat)<=(1:Nat))/\((0:Nat)+x1.p.es.length+(1:Nat)<=(1073741824:Nat)))))/\(∃ x14:NewX,(True/\(((x1.p.n=x14.n/\((0=0/\((0:Nat)+x1.p.es.length+(1:Nat)=x14.es.length))/\True))/\True)/\((((RLe x14.es.length ((0:Nat)+x1.p.es.length+(1:Nat)))/\(RowsEq [.int .i64,.int .i64,.int .i64] x14.es.length (appRows ((0:Nat)+x1.p.es.length) (appRows 0 (litRows (@List.nil (List D))) 0 (encL encE x1.p.es)) 0 (litRows ((D.i x1.e.f::D.i x1.e.t::D.i x1.e.d::@List.nil D)::@List.nil (List D)))) (encL encE x14.es)))/\True)/\(((((!decide (errN x13=0))=false)->(∃ x16:Unit,(True/\(((!decide (errN x14=0))=true)/\True))))/\(((!decide (errN x13=0))=true)->(∃ x18:Unit,(True/\(true=true/\True)))))/\(∀ x19:Unit,(True->(true=true/\True))))))))))))))))))))))))))))=(Keeps cfgMoB Tryd.f7 (lawMo fun x=>(moP x/\moA x=true)/\moB x=false) moBI) by kernel_rfl) (fun x1=>fun h2=>⟨(default),trivial,trivial,trivial,
fun h4=>⟨(by(try dsimp only at *);omega),trivial⟩,
fun h5=>⟨⟨(MOx.p x1),trivial,
⟨⟨rfl,
⟨rfl,rfl⟩,trivial⟩,trivial⟩,
⟨⟨rl,rr⟩,trivial⟩,
fun g7=>have h7:=nF g7;⟨(default),trivial,
(by(try dsimp only at *);exact decide_eq_false (fun q=>(mo_in h2.1.2).2 (by omega))),trivial⟩,
fun g9=>have h9:=nT g9;⟨(default),trivial,
(by(try dsimp only at *);exact absurd (mo_in h2.1.2).1 ‹_›),trivial⟩⟩,
fun x11=>fun h12=>⟨(MOx.p x1),trivial,
⟨⟨rfl,
⟨rfl,rfl⟩,trivial⟩,trivial⟩,
⟨⟨rl,rr⟩,trivial⟩,trivial,
⟨rfl,
(by(try dsimp only at *);omega),
(by(try dsimp only at *);omega),
(by(try dsimp only at *);(have:=(mo_in h2.1.2).1.2;omega))⟩,
⟨⟨trivial,trivial,trivial,trivial⟩,trivial⟩,
⟨rfl,
(by(try dsimp only at *);omega),
(by(try dsimp only at *);omega),
(by(try dsimp only at *);(have:=(mo_in h2.1.2).1.2;omega))⟩,
(MOx.more x1),trivial,
⟨⟨(by(try dsimp only at *);rfl),
⟨rfl,
(by(try dsimp only at *);(rw[more_len];omega))⟩,trivial⟩,trivial⟩,
⟨⟨⟨(by(try dsimp only at *);(rw[more_len];omega))⟩,
(by(try dsimp only at *);exact more_rows x1)⟩,trivial⟩,
⟨fun g15=>have h15:=nF g15;⟨(default),trivial,
(by(try dsimp only at *);(have q:=moB_out h2;rw[decide_eq_false (fun e=>q ⟨‹_›,e⟩)];rfl)),trivial⟩,
fun g17=>have h17:=nT g17;⟨(default),trivial,rfl,trivial⟩⟩,
fun x19=>fun h20=>⟨rfl,trivial⟩⟩⟩⟩)
def moCI (x:MOx) (id:Nat):Option Inv:=match id with
 |100026=>some (cutT 26 false)
 |100051=>some (cutT 51 false)
 |0=>some { X:=Nat,ok:=fun k=>k<=x.p.g.n,fr:=fun k=>[(76,.i .i64 k)],hp:=fun _=>[],me:=fun k=>x.p.g.n-k }
 |_=>none
def cfgMoC:Cfg:=⟨T,[],[(10,.one wkC),(12,.one smallC),(11,.one madeYC),(20,.one ofC),(19,.one reachC),(30,.one diffC),(26,.one lenC)],noInv,16,{}⟩
theorem conMoC:ConOk Tryd.prog cfgMoC:=ConL.ok (.cons (ConL.one wk_good) (.cons (ConL.one small_good) (.cons (ConL.one madeY_good) (.cons (ConL.one of_good) (.cons (ConL.one reach_good) (.cons (ConL.one diff_good) (.cons (ConL.one len_good) .nil)))))))
theorem moB_in {x:MOx} (h:(moP x/\moA x=true)/\moB x=true):errN x.p=0/\errN x.more=0:=of_decide_eq_true h.2
theorem Rch.sub {g g':Gr} (hn:g'.n=g.n) (h:∀ i,i<g.es.length->opn g i=true->∃ j,j<g'.es.length/\opn g' j=true/\frN g' j=frN g i/\toN g' j=toN g i) {S:Int->Prop} {v:Nat} (r:Rch g S v):Rch g' S v:=by
 induction r with
 |src a b=>exact .src (by rw[hn];exact a) b
 |@step i a b _ ih=>
  obtain⟨j,h1,h2,h3,h4⟩:=h i a b
  rw[<- h4]
  exact .step h1 h2 (by rw[h3];exact ih)
theorem rW_sub {g g':Gr} (hg:GOk g) (hg':GOk g') (hn:g'.n=g.n) (h:∀ i,i<g.es.length->opn g i=true->∃ j,j<g'.es.length/\opn g' j=true/\frN g' j=frN g i/\toN g' j=toN g i) (ws:List Nat):lenW (diffW (rW g ws) (rW g' ws))=0:=by
 refine diff_none (rW_ok _ _) (rW_ok _ _) fun z hz=>?_
 have q:=(rW_mem hg).1 hz
 exact(rW_mem hg').2 ⟨q.1,q.2.sub hn h⟩
theorem mo_i {x:MOx} (h:moP x) (h2:moA x=true):x.i<x.p.es.length/\0<=x.k%((0+x.p.es.length:Nat):Int)/\x.k%((0+x.p.es.length:Nat):Int)<((0+x.p.es.length:Nat):Int):=by
 have a:=mo_in h2
 have b:=Int.emod_nonneg x.k (b:=((0+x.p.es.length:Nat):Int)) (by omega)
 have c:=Int.emod_lt_of_pos x.k (show(0:Int)<((0+x.p.es.length:Nat):Int) by omega)
 refine⟨?_,b,c⟩
 unfold MOx.i
 omega
theorem less_len (x:MOx):x.less.es.length=x.p.es.length:=by show(x.p.es.set _ _).length=_;rw[List.length_set]
theorem less_at {x:MOx} {i:Nat} (h:x.i<x.p.es.length):x.less.es.getD i default=if i=x.i then shut (x.p.es.getD i default)else x.p.es.getD i default:=by
 show(x.p.es.set x.i _).getD i default=_
 by_cases e:i=x.i
 ·subst e
  rw[if_pos rfl,List.getD_eq_getElem?_getD,List.getElem?_set_self h];rfl
 ·rw[if_neg e,List.getD_eq_getElem?_getD,List.getElem?_set_ne (fun q=>e q.symm),List.getD_eq_getElem?_getD]
theorem err_iff {x:NewX} (h1:1<=x.n/\x.n<=4096) (h2:x.es.length<=16384):errN x=0↔x.es.all (edVB x.n)=true:=by
 unfold errN
 rw[if_neg (by omega),if_neg (by omega)]
 by_cases q:x.es.all (edVB x.n)=true
 ·rw[if_pos q];exact⟨fun _=>q,fun _=>rfl⟩
 ·rw[if_neg q];exact⟨fun h=>(by cases h),fun h=>absurd h q⟩
theorem less_ok {x:MOx} (h2:moA x=true) (h:errN x.p=0) (hi:x.i<x.p.es.length):errN x.less=0:=by
 have a:=mo_in h2
 have g:=err_g h
 have v:=(err_iff (x:=x.p) (by omega) (by omega)).1 h
 refine(err_iff (x:=x.less) (by show 1<=x.p.n/\x.p.n<=4096;omega) (by rw[less_len];omega)).2 ?_
 rw[List.all_eq_true]at v ⊢
 intro e he
 rcases List.mem_or_eq_of_mem_set he with q|q
 ·exact v e q
 ·subst q
  have w:=of_decide_eq_true (v (x.p.es.getD x.i default) (by rw[List.getD_eq_getElem?_getD,List.getElem?_eq_getElem hi];exact List.getElem_mem hi))
  exact decide_eq_true ⟨w.1,w.2.1,w.2.2.1,w.2.2.2.1,.inr rfl⟩
theorem mo_more {x:MOx} (h:errN x.p=0) (h':errN x.more=0) (ws:List Nat):lenW (diffW (rW x.p.g ws) (rW x.more.g ws))=0:=by
 refine rW_sub (err_g h).1 (err_g h').1 rfl (fun i hi ho=>⟨i,?_,?_,?_,?_⟩) ws
 ·have hi:i<x.p.es.length:=hi
  show i<x.more.es.length;rw[more_len];omega
 all_goals
  have hi:i<x.p.es.length:=hi
  have e:x.more.g.es.getD i default=x.p.g.es.getD i default:=by
   show(x.p.es++[x.e]).getD i default=x.p.es.getD i default
   rw[List.getD_eq_getElem?_getD,List.getElem?_append_left hi,List.getD_eq_getElem?_getD]
  first
   |(unfold opn at *;rw[e];exact ho)
   |(unfold frN;rw[e])
   |(unfold toN;rw[e])
theorem mo_less {x:MOx} (h:errN x.p=0) (h':errN x.less=0) (hi:x.i<x.p.es.length) (ws:List Nat):lenW (diffW (rW x.less.g ws) (rW x.p.g ws))=0:=by
 refine rW_sub (err_g h').1 (err_g h).1 rfl (fun i hii ho=>?_) ws
 have hii:i<x.less.es.length:=hii
 rw[less_len]at hii
 have e:x.less.g.es.getD i default=if i=x.i then shut (x.p.es.getD i default)else x.p.es.getD i default:=less_at hi
 by_cases q:i=x.i
 ·rw[if_pos q]at e
  unfold opn at ho;rw[e]at ho
  exact absurd rfl (of_decide_eq_true ho)
 ·rw[if_neg q]at e
  have e':x.less.g.es.getD i default=x.p.g.es.getD i default:=e
  exact⟨i,hii,by unfold opn at *;rw[<- e'];exact ho,by unfold frN;rw[e'],by unfold toN;rw[e']⟩
theorem less_rows {x:MOx} (h:moP x) (h2:moA x=true):RowsEq kE x.less.es.length (setRow (appRows 0 (litRows []) 0 (encL encE x.p.es)) (0+(x.k%((0+x.p.es.length:Nat):Int)).toNat) 2 [.i 4611686018427387904]) (encL encE x.less.es):=by
 rw[less_len,Nat.zero_add]
 have hi:=(mo_i h h2).1
 exact rowsEq_setOf (xs:=x.p.es) app0 hi hi ⟨rfl,rfl,rfl,trivial⟩
set_option maxRecDepth 100000 in
theorem mo_c:Keeps cfgMoC Tryd.f7 (lawMo fun x=>(moP x/\moA x=true)/\moB x=true) moCI:=Eq.mp (show((∀ x1:MOx,(((moP x1/\moA x1=true)/\moB x1=true)->(∃ x3:Unit,(True/\(True/\(True/\((false=true->(false=true/\True))/\(false=false->((∃ x6:NewX,(True/\(((x1.p.n=x6.n/\((0=0/\x1.p.es.length=x6.es.length)/\True))/\True)/\((((RLe x6.es.length x1.p.es.length)/\(RowsEq [.int .i64,.int .i64,.int .i64] x6.es.length (encL encE x1.p.es) (encL encE x6.es)))/\True)/\((((!decide (x6.n<=(12:Int)/\x6.es.length<=(40:Nat)))=false)->(∃ x8:Unit,(True/\((decide ((x1.p.es.length:Int)=0)=false)/\True))))/\(((!decide (x6.n<=(12:Int)/\x6.es.length<=(40:Nat)))=true)->(∃ x10:Unit,(True/\(true=false/\True)))))))))/\(∀ x11:Unit,(True->(∃ x13:NewX,((errN x13=0)/\(((x1.p.n=x13.n/\((0=0/\x1.p.es.length=x13.es.length)/\True))/\True)/\((((RLe x13.es.length x1.p.es.length)/\(RowsEq [.int .i64,.int .i64,.int .i64] x13.es.length (encL encE x1.p.es) (encL encE x13.es)))/\True)/\(True/\((0=0/\(((0:Nat)<=(0:Nat))/\(((0:Nat)+x1.p.es.length<=x1.p.es.length)/\((0:Nat)+x1.p.es.length<=(1073741824:Nat)))))/\(((True/\(True/\(True/\True)))/\True)/\((0=0/\(((0:Nat)+x1.p.es.length<=(0:Nat)+x1.p.es.length)/\(((1:Nat)<=(1:Nat))/\((0:Nat)+x1.p.es.length+(1:Nat)<=(1073741824:Nat)))))/\(∃ x14:NewX,((errN x14=0)/\(((x1.p.n=x14.n/\((0=0/\((0:Nat)+x1.p.es.length+(1:Nat)=x14.es.length))/\True))/\True)/\((((RLe x14.es.length ((0:Nat)+x1.p.es.length+(1:Nat)))/\(RowsEq [.int .i64,.int .i64,.int .i64] x14.es.length (appRows ((0:Nat)+x1.p.es.length) (appRows 0 (litRows (@List.nil (List D))) 0 (encL encE x1.p.es)) 0 (litRows ((D.i x1.e.f::D.i x1.e.t::D.i x1.e.d::@List.nil D)::@List.nil (List D)))) (encL encE x14.es)))/\True)/\(((false=false->(∃ x16:Unit,(True/\(false=false/\True))))/\(false=true->(∃ x18:Unit,(True/\(true=false/\True)))))/\(∀ x19:Unit,(True->(True/\((0=0/\(((0:Nat)<=(0:Nat))/\(((0:Nat)+x1.p.es.length<=x1.p.es.length)/\((0:Nat)+x1.p.es.length<=(1073741824:Nat)))))/\((((-9223372036854775808:Int)<=x1.k)/\(x1.k<=(9223372036854775807:Int)))/\((((0:Int)<=x1.k)/\(0<(↑((0:Nat)+x1.p.es.length):Int)))/\((((0:Int)<=x1.k%(↑((0:Nat)+x1.p.es.length):Int))/\(x1.k%(↑((0:Nat)+x1.p.es.length):Int)<(↑((0:Nat)+x1.p.es.length):Int)))/\(((0+Int.toNat (x1.k%(↑((0:Nat)+x1.p.es.length):Int))<(0:Nat)+x1.p.es.length)/\(True/\True))/\(∃ x21:NewX,((errN x21=0)/\(((x1.p.n=x21.n/\((0=0/\((0:Nat)+x1.p.es.length=x21.es.length))/\True))/\True)/\((((RLe x21.es.length ((0:Nat)+x1.p.es.length))/\(RowsEq [.int .i64,.int .i64,.int .i64] x21.es.length (setRow (appRows 0 (litRows (@List.nil (List D))) 0 (encL encE x1.p.es)) (0+Int.toNat (x1.k%(↑((0:Nat)+x1.p.es.length):Int))) 2 (D.i 4611686018427387904::@List.nil D)) (encL encE x21.es)))/\True)/\((false=true->(false=true/\True))/\(false=false->(∃ x24:Nat,(((x24<=(NewX.g x1.p).n)/\(((0=(x24:Int))/\(x1.p.n=x1.p.n/\(true=true/\((0=0/\0=0)/\((0=0/\((0:Nat)+x1.p.es.length=(0:Nat)+x1.p.es.length))/\(true=true/\((0=0/\0=0)/\(true=true/\((0=0/\0=0)/\((0=0/\0=0)/\((0=0/\0=0)/\((x1.p.n=x1.p.n/\((0=0/\x1.p.es.length=x1.p.es.length)/\True))/\((x1.e.f=x1.e.f/\(x1.e.t=x1.e.t/\(x1.e.d=x1.e.d/\True)))/\(x1.k=x1.k/\True))))))))))))))/\((RLe 1 1/\(RowsEq [.sl [.int .i64,.int .i64,.int .i64],.sl [.sl [.int .i64]],.sl [.sl [.int .i64]]] 1 (encG (NewX.g x21)) (encG (NewX.g x21))))/\(((RLe ((0:Nat)+x1.p.es.length) ((0:Nat)+x1.p.es.length))/\(RowsEq [.int .i64,.int .i64,.int .i64] ((0:Nat)+x1.p.es.length) (setRow (appRows 0 (litRows (@List.nil (List D))) 0 (encL encE x1.p.es)) (0+Int.toNat (x1.k%(↑((0:Nat)+x1.p.es.length):Int))) 2 (D.i 4611686018427387904::@List.nil D)) (setRow (appRows 0 (litRows (@List.nil (List D))) 0 (encL encE x1.p.es)) (0+Int.toNat (x1.k%(↑((0:Nat)+x1.p.es.length):Int))) 2 (D.i 4611686018427387904::@List.nil D))))/\((RLe 1 1/\(RowsEq [.sl [.int .i64,.int .i64,.int .i64],.sl [.sl [.int .i64]],.sl [.sl [.int .i64]]] 1 (encG (NewX.g x14)) (encG (NewX.g x14))))/\(((RLe ((0:Nat)+x1.p.es.length+(1:Nat)) ((0:Nat)+x1.p.es.length+(1:Nat)))/\(RowsEq [.int .i64,.int .i64,.int .i64] ((0:Nat)+x1.p.es.length+(1:Nat)) (appRows ((0:Nat)+x1.p.es.length) (appRows 0 (litRows (@List.nil (List D))) 0 (encL encE x1.p.es)) 0 (litRows ((D.i x1.e.f::D.i x1.e.t::D.i x1.e.d::@List.nil D)::@List.nil (List D)))) (appRows ((0:Nat)+x1.p.es.length) (appRows 0 (litRows (@List.nil (List D))) 0 (encL encE x1.p.es)) 0 (litRows ((D.i x1.e.f::D.i x1.e.t::D.i x1.e.d::@List.nil D)::@List.nil (List D))))))/\((RLe 1 1/\(RowsEq [.int .i64,.int .i64,.int .i64] 1 (litRows ((D.i x1.e.f::D.i x1.e.t::D.i x1.e.d::@List.nil D)::@List.nil (List D))) (litRows ((D.i x1.e.f::D.i x1.e.t::D.i x1.e.d::@List.nil D)::@List.nil (List D)))))/\((RLe 1 1/\(RowsEq [.sl [.int .i64,.int .i64,.int .i64],.sl [.sl [.int .i64]],.sl [.sl [.int .i64]]] 1 (encG (NewX.g x13)) (encG (NewX.g x13))))/\((x1.e.f=x1.e.f/\(x1.e.t=x1.e.t/\(x1.e.d=x1.e.d/\True)))/\((x1.p.n=x1.p.n/\((0=0/\x1.p.es.length=x1.p.es.length)/\True))/\(((RLe x1.p.es.length x1.p.es.length)/\(RowsEq [.int .i64,.int .i64,.int .i64] x1.p.es.length (encL encE x1.p.es) (encL encE x1.p.es)))/\True)))))))))))/\(∀ x25:Nat,((x25<=(NewX.g x1.p).n)->(((decide ((x25:Int)<x1.p.n)=true)->(((True/\True)/\True)/\(∃ x28:List Int,((x28.length<=(1048576:Nat))/\(((0=0/\((1:Nat)=x28.length))/\True)/\((((RLe x28.length 1)/\(RowsEq [.int .i64] x28.length (litRows ((D.i (x25:Int)::@List.nil D)::@List.nil (List D))) (encL encI x28)))/\True)/\(∃ x29:RLx,((RLok x29)/\(((0=0/\0=0)/\(((szW (ofW x28 x28.length)=szW x29.ws)/\True)/\True))/\(((RLe 1 1/\(RowsEq [.sl [.int .i64,.int .i64,.int .i64],.sl [.sl [.int .i64]],.sl [.sl [.int .i64]]] 1 (encG (NewX.g x13)) (encG x29.g)))/\(((RLe (szW x29.ws) (szW (ofW x28 x28.length)))/\(RowsEq [.int .u64] (szW x29.ws) (encL encW (ofW x28 x28.length)) (encL encW x29.ws)))/\True))/\(((True/\True)/\True)/\(∃ x30:List Int,((x30.length<=(1048576:Nat))/\(((0=0/\((1:Nat)=x30.length))/\True)/\((((RLe x30.length 1)/\(RowsEq [.int .i64] x30.length (litRows ((D.i (x25:Int)::@List.nil D)::@List.nil (List D))) (encL encI x30)))/\True)/\(∃ x31:RLx,((RLok x31)/\(((0=0/\0=0)/\(((szW (ofW x30 x30.length)=szW x31.ws)/\True)/\True))/\(((RLe 1 1/\(RowsEq [.sl [.int .i64,.int .i64,.int .i64],.sl [.sl [.int .i64]],.sl [.sl [.int .i64]]] 1 (encG (NewX.g x14)) (encG x31.g)))/\(((RLe (szW x31.ws) (szW (ofW x30 x30.length)))/\(RowsEq [.int .u64] (szW x31.ws) (encL encW (ofW x30 x30.length)) (encL encW x31.ws)))/\True))/\(∃ x32:TwoX,(((WOk x32.a)/\(WOk x32.b))/\((((szW (ofW (reachQ x29.g (elemsZ x29.ws)) (reachQ x29.g (elemsZ x29.ws)).length)=szW x32.a)/\True)/\(((szW (ofW (reachQ x31.g (elemsZ x31.ws)) (reachQ x31.g (elemsZ x31.ws)).length)=szW x32.b)/\True)/\True))/\((((RLe (szW x32.a) (szW (ofW (reachQ x29.g (elemsZ x29.ws)) (reachQ x29.g (elemsZ x29.ws)).length)))/\(RowsEq [.int .u64] (szW x32.a) (encL encW (ofW (reachQ x29.g (elemsZ x29.ws)) (reachQ x29.g (elemsZ x29.ws)).length)) (encL encW x32.a)))/\(((RLe (szW x32.b) (szW (ofW (reachQ x31.g (elemsZ x31.ws)) (reachQ x31.g (elemsZ x31.ws)).length)))/\(RowsEq [.int .u64] (szW x32.b) (encL encW (ofW (reachQ x31.g (elemsZ x31.ws)) (reachQ x31.g (elemsZ x31.ws)).length)) (encL encW x32.b)))/\True))/\(∃ x33:List Nat,((WOk x33)/\((((szW (diffW x32.a x32.b)=szW x33)/\True)/\True)/\((((RLe (szW x33) (szW (diffW x32.a x32.b)))/\(RowsEq [.int .u64] (szW x33) (encL encW (diffW x32.a x32.b)) (encL encW x33)))/\True)/\(((decide (lenW x33≠(0:Int))=false)->(((True/\True)/\True)/\(∃ x35:List Int,((x35.length<=(1048576:Nat))/\(((0=0/\((1:Nat)=x35.length))/\True)/\((((RLe x35.length 1)/\(RowsEq [.int .i64] x35.length (litRows ((D.i (x25:Int)::@List.nil D)::@List.nil (List D))) (encL encI x35)))/\True)/\(∃ x36:RLx,((RLok x36)/\(((0=0/\0=0)/\(((szW (ofW x35 x35.length)=szW x36.ws)/\True)/\True))/\(((RLe 1 1/\(RowsEq [.sl [.int .i64,.int .i64,.int .i64],.sl [.sl [.int .i64]],.sl [.sl [.int .i64]]] 1 (encG (NewX.g x21)) (encG x36.g)))/\(((RLe (szW x36.ws) (szW (ofW x35 x35.length)))/\(RowsEq [.int .u64] (szW x36.ws) (encL encW (ofW x35 x35.length)) (encL encW x36.ws)))/\True))/\(∃ x37:TwoX,(((WOk x37.a)/\(WOk x37.b))/\((((szW (ofW (reachQ x36.g (elemsZ x36.ws)) (reachQ x36.g (elemsZ x36.ws)).length)=szW x37.a)/\True)/\(((szW (ofW (reachQ x29.g (elemsZ x29.ws)) (reachQ x29.g (elemsZ x29.ws)).length)=szW x37.b)/\True)/\True))/\((((RLe (szW x37.a) (szW (ofW (reachQ x36.g (elemsZ x36.ws)) (reachQ x36.g (elemsZ x36.ws)).length)))/\(RowsEq [.int .u64] (szW x37.a) (encL encW (ofW (reachQ x36.g (elemsZ x36.ws)) (reachQ x36.g (elemsZ x36.ws)).length)) (encL encW x37.a)))/\(((RLe (szW x37.b) (szW (ofW (reachQ x29.g (elemsZ x29.ws)) (reachQ x29.g (elemsZ x29.ws)).length)))/\(RowsEq [.int .u64] (szW x37.b) (encL encW (ofW (reachQ x29.g (elemsZ x29.ws)) (reachQ x29.g (elemsZ x29.ws)).length)) (encL encW x37.b)))/\True))/\(∃ x38:List Nat,((WOk x38)/\((((szW (diffW x37.a x37.b)=szW x38)/\True)/\True)/\((((RLe (szW x38) (szW (diffW x37.a x37.b)))/\(RowsEq [.int .u64] (szW x38) (encL encW (diffW x37.a x37.b)) (encL encW x38)))/\True)/\(((decide (lenW x38≠(0:Int))=true)->(false=true/\True))/\((decide (lenW x38≠(0:Int))=false)->((((-9223372036854775808:Int)<=(x25:Int)+1)/\((x25:Int)+1<=(9223372036854775807:Int)))/\(∃ x41:Nat,(((NewX.g x1.p).n-x41<(NewX.g x1.p).n-x25)/\((x41<=(NewX.g x1.p).n)/\((((x25:Int)+1=(x41:Int))/\(x1.p.n=x1.p.n/\(true=true/\((0=0/\0=0)/\((0=0/\((0:Nat)+x1.p.es.length=(0:Nat)+x1.p.es.length))/\(true=true/\((0=0/\0=0)/\(true=true/\((0=0/\0=0)/\((0=0/\0=0)/\((0=0/\0=0)/\((x1.p.n=x1.p.n/\((0=0/\x1.p.es.length=x1.p.es.length)/\True))/\((x1.e.f=x1.e.f/\(x1.e.t=x1.e.t/\(x1.e.d=x1.e.d/\True)))/\(x1.k=x1.k/\True))))))))))))))/\((RLe 1 1/\(RowsEq [.sl [.int .i64,.int .i64,.int .i64],.sl [.sl [.int .i64]],.sl [.sl [.int .i64]]] 1 (encG (NewX.g x21)) (encG (NewX.g x21))))/\(((RLe ((0:Nat)+x1.p.es.length) ((0:Nat)+x1.p.es.length))/\(RowsEq [.int .i64,.int .i64,.int .i64] ((0:Nat)+x1.p.es.length) (setRow (appRows 0 (litRows (@List.nil (List D))) 0 (encL encE x1.p.es)) (0+Int.toNat (x1.k%(↑((0:Nat)+x1.p.es.length):Int))) 2 (D.i 4611686018427387904::@List.nil D)) (setRow (appRows 0 (litRows (@List.nil (List D))) 0 (encL encE x1.p.es)) (0+Int.toNat (x1.k%(↑((0:Nat)+x1.p.es.length):Int))) 2 (D.i 4611686018427387904::@List.nil D))))/\((RLe 1 1/\(RowsEq [.sl [.int .i64,.int .i64,.int .i64],.sl [.sl [.int .i64]],.sl [.sl [.int .i64]]] 1 (encG (NewX.g x14)) (encG (NewX.g x14))))/\(((RLe ((0:Nat)+x1.p.es.length+(1:Nat)) ((0:Nat)+x1.p.es.length+(1:Nat)))/\(RowsEq [.int .i64,.int .i64,.int .i64] ((0:Nat)+x1.p.es.length+(1:Nat)) (appRows ((0:Nat)+x1.p.es.length) (appRows 0 (litRows (@List.nil (List D))) 0 (encL encE x1.p.es)) 0 (litRows ((D.i x1.e.f::D.i x1.e.t::D.i x1.e.d::@List.nil D)::@List.nil (List D)))) (appRows ((0:Nat)+x1.p.es.length) (appRows 0 (litRows (@List.nil (List D))) 0 (encL encE x1.p.es)) 0 (litRows ((D.i x1.e.f::D.i x1.e.t::D.i x1.e.d::@List.nil D)::@List.nil (List D))))))/\((RLe 1 1/\(RowsEq [.int .i64,.int .i64,.int .i64] 1 (litRows ((D.i x1.e.f::D.i x1.e.t::D.i x1.e.d::@List.nil D)::@List.nil (List D))) (litRows ((D.i x1.e.f::D.i x1.e.t::D.i x1.e.d::@List.nil D)::@List.nil (List D)))))/\((RLe 1 1/\(RowsEq [.sl [.int .i64,.int .i64,.int .i64],.sl [.sl [.int .i64]],.sl [.sl [.int .i64]]] 1 (encG (NewX.g x13)) (encG (NewX.g x13))))/\((x1.e.f=x1.e.f/\(x1.e.t=x1.e.t/\(x1.e.d=x1.e.d/\True)))/\((x1.p.n=x1.p.n/\((0=0/\x1.p.es.length=x1.p.es.length)/\True))/\(((RLe x1.p.es.length x1.p.es.length)/\(RowsEq [.int .i64,.int .i64,.int .i64] x1.p.es.length (encL encE x1.p.es) (encL encE x1.p.es)))/\True))))))))))))))))))))))))))))))))))/\((decide (lenW x33≠(0:Int))=true)->(false=true/\True))))))))))))))))))))))))))))))/\((decide ((x25:Int)<x1.p.n)=false)->(true=true/\True))))))))))))))))))))))))))))))))))))))))))))))=(Keeps cfgMoC Tryd.f7 (lawMo fun x=>(moP x/\moA x=true)/\moB x=true) moCI) by kernel_rfl) (fun x1=>fun h2=>⟨(default),
 trivial,trivial,trivial,
fun h4=>⟨(by(try dsimp only at *);omega),trivial⟩,
fun h5=>⟨⟨(MOx.p x1),trivial,
⟨⟨rfl,
⟨rfl,rfl⟩,trivial⟩,trivial⟩,
⟨⟨rl,rr⟩,trivial⟩,
fun g7=>have h7:=nF g7;⟨(default),trivial,
(by(try dsimp only at *);exact decide_eq_false (fun q=>(mo_in h2.1.2).2 (by omega))),trivial⟩,
fun g9=>have h9:=nT g9;⟨(default),trivial,
(by(try dsimp only at *);exact absurd (mo_in h2.1.2).1 ‹_›),trivial⟩⟩,
fun x11=>fun h12=>⟨(MOx.p x1),
(by(try dsimp only at *);exact(moB_in h2).1),
⟨⟨rfl,
⟨rfl,rfl⟩,trivial⟩,trivial⟩,
⟨⟨rl,rr⟩,trivial⟩,trivial,
⟨rfl,
(by(try dsimp only at *);omega),
(by(try dsimp only at *);omega),
(by(try dsimp only at *);(have:=(mo_in h2.1.2).1.2;omega))⟩,
⟨⟨trivial,trivial,trivial,trivial⟩,trivial⟩,
⟨rfl,
(by(try dsimp only at *);omega),
(by(try dsimp only at *);omega),
(by(try dsimp only at *);(have:=(mo_in h2.1.2).1.2;omega))⟩,
(MOx.more x1),
(by(try dsimp only at *);exact(moB_in h2).2),
⟨⟨(by(try dsimp only at *);rfl),
⟨rfl,
(by(try dsimp only at *);(rw[more_len];omega))⟩,trivial⟩,trivial⟩,
⟨⟨⟨(by(try dsimp only at *);(rw[more_len];omega))⟩,
(by(try dsimp only at *);exact more_rows x1)⟩,trivial⟩,
⟨fun h15=>⟨(default),trivial,rfl,trivial⟩,
fun h17=>⟨(default),trivial,
(by(try dsimp only at *);grind),trivial⟩⟩,
fun x19=>fun h20=>⟨trivial,
⟨rfl,
(by(try dsimp only at *);omega),
(by(try dsimp only at *);omega),
(by(try dsimp only at *);(have:=(mo_in h2.1.2).1.2;omega))⟩,
⟨(by(try dsimp only at *);(have:=h2.1.1.1;have:=h2.1.1.2;omega)),
(by(try dsimp only at *);(have:=h2.1.1.1;have:=h2.1.1.2;omega))⟩,
⟨(by(try dsimp only at *);(have:=h2.1.1.1;have:=h2.1.1.2;omega)),
(by(try dsimp only at *);(have:=(mo_in h2.1.2).2;omega))⟩,
⟨(by(try dsimp only at *);exact(mo_i h2.1.1 h2.1.2).2.1),
(by(try dsimp only at *);exact(mo_i h2.1.1 h2.1.2).2.2)⟩,
⟨(by(try dsimp only at *);(have:=mo_i h2.1.1 h2.1.2;omega)),trivial,trivial⟩,
(MOx.less x1),
(by(try dsimp only at *);exact less_ok h2.1.2 (moB_in h2).1 (mo_i h2.1.1 h2.1.2).1),
⟨⟨(by(try dsimp only at *);rfl),
⟨rfl,
(by(try dsimp only at *);(rw[less_len];omega))⟩,trivial⟩,trivial⟩,
⟨⟨⟨(by(try dsimp only at *);(rw[less_len];omega))⟩,
(by(try dsimp only at *);exact less_rows h2.1.1 h2.1.2)⟩,trivial⟩,
fun h22=>⟨(by(try dsimp only at *);omega),trivial⟩,
fun h23=>⟨((0:Nat)),
⟨(by(try dsimp only at *);omega),
⟨(by(try dsimp only at *);omega),rfl,rfl,
⟨rfl,rfl⟩,
⟨rfl,rfl⟩,rfl,
⟨rfl,rfl⟩,rfl,
⟨rfl,rfl⟩,
⟨rfl,rfl⟩,
⟨rfl,rfl⟩,
⟨rfl,
⟨rfl,rfl⟩,trivial⟩,
⟨rfl,rfl,rfl,trivial⟩,rfl,trivial⟩,
⟨rl,rr⟩,
⟨rl,rr⟩,
⟨rl,rr⟩,
⟨rl,rr⟩,
⟨rl,rr⟩,
⟨rl,rr⟩,
⟨rfl,rfl,rfl,trivial⟩,
⟨rfl,
⟨rfl,rfl⟩,trivial⟩,
⟨rl,rr⟩,trivial⟩,
fun x25=>fun h26=>⟨fun g27=>have h27:=dT g27;⟨⟨⟨trivial,trivial⟩,trivial⟩,
((↑x25:Int)::@List.nil Int),
(by(try dsimp only at *);grind),
⟨⟨rfl,
(by(try dsimp only at *);grind)⟩,trivial⟩,
⟨⟨⟨(by(try dsimp only at *);grind)⟩,
(by(try dsimp only at *);exact⟨fun r hr=>by have hr:r<1:=hr;rw[show r=0 by omega];exact⟨rfl,trivial⟩⟩)⟩,trivial⟩,
({ g:=NewX.g (MOx.p x1),ws:=aW (↑x25:Int):RLx }),
(by
       exact RLok.mk (err_g (moB_in h2).1).1 (ofW_ok _ _)),
⟨⟨rfl,rfl⟩,
⟨(by(try dsimp only at *);rfl),trivial⟩,trivial⟩,
⟨⟨rl,rr⟩,
⟨⟨(by(try dsimp only at *);exact Nat.le_refl _)⟩,
(by(try dsimp only at *);exact rr)⟩,trivial⟩,
⟨⟨trivial,trivial⟩,trivial⟩,
((↑x25:Int)::@List.nil Int),
(by(try dsimp only at *);grind),
⟨⟨rfl,
(by(try dsimp only at *);grind)⟩,trivial⟩,
⟨⟨⟨(by(try dsimp only at *);grind)⟩,
(by(try dsimp only at *);exact⟨fun r hr=>by have hr:r<1:=hr;rw[show r=0 by omega];exact⟨rfl,trivial⟩⟩)⟩,trivial⟩,
({ g:=NewX.g (MOx.more x1),ws:=aW (↑x25:Int):RLx }),
(by
       exact RLok.mk (err_g (moB_in h2).2).1 (ofW_ok _ _)),
⟨⟨rfl,rfl⟩,
⟨(by(try dsimp only at *);rfl),trivial⟩,trivial⟩,
⟨⟨rl,rr⟩,
⟨⟨(by(try dsimp only at *);exact Nat.le_refl _)⟩,
(by(try dsimp only at *);exact rr)⟩,trivial⟩,
({ a:=rW (NewX.g (MOx.p x1)) (aW (↑x25:Int)),b:=rW (NewX.g (MOx.more x1)) (aW (↑x25:Int)):TwoX }),
⟨(by(try dsimp only at *);exact rW_ok _ _),
(by(try dsimp only at *);exact rW_ok _ _)⟩,
⟨⟨(by(try dsimp only at *);rfl),trivial⟩,
⟨(by(try dsimp only at *);rfl),trivial⟩,trivial⟩,
⟨⟨⟨(by(try dsimp only at *);exact Nat.le_refl _)⟩,
(by(try dsimp only at *);exact rr)⟩,
⟨⟨(by(try dsimp only at *);exact Nat.le_refl _)⟩,
(by(try dsimp only at *);exact rr)⟩,trivial⟩,
(diffW (rW (NewX.g (MOx.p x1)) (aW (↑x25:Int))) (rW (NewX.g (MOx.more x1)) (aW (↑x25:Int)))),
(by(try dsimp only at *);exact diffAt_ok (rW_ok _ _) 64),
⟨⟨rfl,trivial⟩,trivial⟩,
⟨⟨rl,rr⟩,trivial⟩,
fun g34=>have h34:=dF g34;⟨⟨⟨trivial,trivial⟩,trivial⟩,
((↑x25:Int)::@List.nil Int),
(by(try dsimp only at *);grind),
⟨⟨rfl,
(by(try dsimp only at *);grind)⟩,trivial⟩,
⟨⟨⟨(by(try dsimp only at *);grind)⟩,
(by(try dsimp only at *);exact⟨fun r hr=>by have hr:r<1:=hr;rw[show r=0 by omega];exact⟨rfl,trivial⟩⟩)⟩,trivial⟩,
({ g:=NewX.g (MOx.less x1),ws:=aW (↑x25:Int):RLx }),
(by
       exact RLok.mk (err_g (less_ok h2.1.2 (moB_in h2).1 (mo_i h2.1.1 h2.1.2).1)).1 (ofW_ok _ _)),
⟨⟨rfl,rfl⟩,
⟨(by(try dsimp only at *);rfl),trivial⟩,trivial⟩,
⟨⟨rl,rr⟩,
⟨⟨(by(try dsimp only at *);exact Nat.le_refl _)⟩,
(by(try dsimp only at *);exact rr)⟩,trivial⟩,
({ a:=rW (NewX.g (MOx.less x1)) (aW (↑x25:Int)),b:=rW (NewX.g (MOx.p x1)) (aW (↑x25:Int)):TwoX }),
⟨(by(try dsimp only at *);exact rW_ok _ _),
(by(try dsimp only at *);exact rW_ok _ _)⟩,
⟨⟨(by(try dsimp only at *);rfl),trivial⟩,
⟨(by(try dsimp only at *);rfl),trivial⟩,trivial⟩,
⟨⟨⟨(by(try dsimp only at *);exact Nat.le_refl _)⟩,
(by(try dsimp only at *);exact rr)⟩,
⟨⟨(by(try dsimp only at *);exact Nat.le_refl _)⟩,
(by(try dsimp only at *);exact rr)⟩,trivial⟩,
(diffW (rW (NewX.g (MOx.less x1)) (aW (↑x25:Int))) (rW (NewX.g (MOx.p x1)) (aW (↑x25:Int)))),
(by(try dsimp only at *);exact diffAt_ok (rW_ok _ _) 64),
⟨⟨rfl,trivial⟩,trivial⟩,
⟨⟨rl,rr⟩,trivial⟩,
fun g39=>have h39:=dT g39;⟨(by(try dsimp only at *);exact absurd (mo_less (moB_in h2).1 (less_ok h2.1.2 (moB_in h2).1 (mo_i h2.1.1 h2.1.2).1) (mo_i h2.1.1 h2.1.2).1 _) ‹_›),trivial⟩,
fun g40=>have h40:=dF g40;⟨⟨(by(try dsimp only at *);omega),
(by(try dsimp only at *);(have:=(err_g (moB_in h2).1).2.2;have:=(mo_in h2.1.2).1.1;omega))⟩,
(x25+(1:Nat)),
(by(try dsimp only at *);(have:=(err_g (moB_in h2).1).2.2;have:=(mo_in h2.1.2).1.1;omega)),
(by(try dsimp only at *);(have:=(err_g (moB_in h2).1).2.2;have:=(mo_in h2.1.2).1.1;omega)),
⟨(by(try dsimp only at *);omega),rfl,rfl,
⟨rfl,rfl⟩,
⟨rfl,rfl⟩,rfl,
⟨rfl,rfl⟩,rfl,
⟨rfl,rfl⟩,
⟨rfl,rfl⟩,
⟨rfl,rfl⟩,
⟨rfl,
⟨rfl,rfl⟩,trivial⟩,
⟨rfl,rfl,rfl,trivial⟩,rfl,trivial⟩,
⟨rl,rr⟩,
⟨rl,rr⟩,
⟨rl,rr⟩,
⟨rl,rr⟩,
⟨rl,rr⟩,
⟨rl,rr⟩,
⟨rfl,rfl,rfl,trivial⟩,
⟨rfl,
⟨rfl,rfl⟩,trivial⟩,
⟨rl,rr⟩,trivial⟩⟩,
fun g42=>have h42:=dT g42;⟨(by(try dsimp only at *);exact absurd (mo_more (moB_in h2).1 (moB_in h2).2 _) ‹_›),trivial⟩⟩,
fun g43=>have h43:=dF g43;⟨rfl,trivial⟩⟩⟩⟩⟩⟩⟩)
theorem moA_good7:Good Tryd.prog 7 (lawMo fun x=>moP x/\moA x=false)/\FnOk Tryd.prog 7:=good_of tok conMoA (fn:=Tryd.f7) rfl (by decide+kernel) (fun _=>rfl) mo_a
theorem moB_good7:Good Tryd.prog 7 (lawMo fun x=>(moP x/\moA x=true)/\moB x=false)/\FnOk Tryd.prog 7:=good_of tok conMoB (fn:=Tryd.f7) rfl (by decide+kernel) (fun _=>rfl) mo_b
theorem moC_good7:Good Tryd.prog 7 (lawMo fun x=>(moP x/\moA x=true)/\moB x=true)/\FnOk Tryd.prog 7:=good_of tok conMoC (fn:=Tryd.f7) rfl (by decide+kernel) (fun _=>rfl) mo_c
theorem mo_good7:Good Tryd.prog 7 (lawMo moP):=both_b (X:=MOx) (pre:=moP) (t:=moA) (both_b (X:=MOx) (pre:=fun x=>moP x/\moA x=true) (t:=moB) moC_good7.1 moB_good7.1) moA_good7.1
end Go.Sym