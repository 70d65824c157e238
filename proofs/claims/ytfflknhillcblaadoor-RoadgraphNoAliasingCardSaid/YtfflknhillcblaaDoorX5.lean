import Derived.Test.YtfflknhillcblaaDoorX2
import Derived.Test.YtfflknhillcblaaDoorX3
import Derived.Test.YtfflknhillcblaaDoorX4
import Derived.Test.YtfflknhillcblaaDoorXD
namespace Go.Sym
set_option linter.unusedVariables false
set_option linter.unusedSimpArgs false
open Go.Proofs
set_option maxRecDepth 100000
set_option maxHeartbeats 4000000
def revE (e:Ed):Ed:=⟨e.t,e.f,e.d⟩
def revG (g:Gr):Gr:=⟨g.n,g.es.map revE⟩
def revAt (es:List Ed):Nat->List Ed
 |0=>List.replicate es.length ⟨0,0,0⟩
 |k+1=>(revAt es k).set k (revE (es.getD k default))
theorem revAt_len (es:List Ed):∀ k,(revAt es k).length=es.length
 |0=>by simp[revAt]
 |k+1=>by show((revAt es k).set _ _).length=_;rw[List.length_set,revAt_len es k]
theorem revAt_at {es:List Ed} {i:Nat} (hi:i<es.length):∀ k,k<=es.length->i<k->(revAt es k).getD i default=revE (es.getD i default)
 |0,_,h=>absurd h (by omega)
 |k+1,hk,h=>by
  show((revAt es k).set k _).getD i default=_
  by_cases e:k=i
  ·subst e
   rw[List.getD_eq_getElem?_getD,List.getElem?_set_self (by rw[revAt_len];exact hi)];rfl
  ·rw[List.getD_eq_getElem?_getD,List.getElem?_set_ne e,<- List.getD_eq_getElem?_getD]
   exact revAt_at hi k (by omega) (by omega)
theorem revAt_full {es:List Ed} {k:Nat} (h1:k<=es.length) (h2:¬ (k:Int)<es.length):revAt es k=es.map revE:=by
 obtain rfl:k=es.length:=by omega
 apply List.ext_getElem (by rw[revAt_len,List.length_map])
 intro i a b
 have a':=a
 rw[revAt_len]at a'
 have q:=revAt_at a' es.length (Nat.le_refl _) a'
 rw[List.getD_eq_getElem?_getD,List.getElem?_eq_getElem a,List.getD_eq_getElem?_getD,List.getElem?_eq_getElem a']at q
 rw[List.getElem_map];exact q
theorem revG_ok {g:Gr} (h:GOk g):GOk (revG g):=by
 refine⟨h.n1,h.n,by show(g.es.map revE).length<=_;rw[List.length_map];exact h.m,fun k hk=>?_⟩
 have hk:k<g.es.length:=by have hk:k<(g.es.map revE).length:=hk;rwa [List.length_map]at hk
 have e:=h.e k hk
 have q:(revG g).es.getD k default=revE (g.es.getD k default):=by
  show(g.es.map revE).getD k default=_
  rw[List.getD_eq_getElem?_getD,List.getElem?_map,List.getElem?_eq_getElem hk,List.getD_eq_getElem?_getD,List.getElem?_eq_getElem hk];rfl
 rw[q]
 unfold edOk at*
 exact⟨e.2.2.1,e.2.2.2,e.1,e.2.1⟩
def revC:CT where
 X:=Gr
 pre:=GOk
 args:=fun _=>[.p 100000 0 0]
 g0:=fun g=>graphH g 100000
 res:=fun _=>.p 1 0 0
 g1:=fun g=>[(1,.rows .own kG 1 (encG (revG g)))]
def revI (g:Gr) (id:Nat):Option Inv:=match id with
 |0=>some { X:=Nat,ok:=fun k=>k<=g.es.length,fr:=fun k=>[(17,.i .i64 k)],hp:=fun k=>[(11,.rows .own kE g.es.length (encL encE (revAt g.es k)))],me:=fun k=>g.es.length-k }
 |_=>none
def cfgRv:Cfg:=⟨T,[],[(32,.one nodesC),(51,.one buildC)],noInv,16,{}⟩
theorem conRv:ConOk Tryd.prog cfgRv:=ConL.ok (.cons (ConL.one nodes_good) (.cons (ConL.one build_good) .nil))
theorem rows_zeroE {n:Nat} {ks:List Kd} (hk:ks=kE):RowsEq kE n (fun _ j=>zRow ks j) (encL encE (List.replicate n ⟨0,0,0⟩)):=by
 subst hk
 exact rowsEq_zero (α:=Ed) (e:=encE) (by simp only[rowEq,Kd.eqv,kE];exact⟨rfl,rfl,rfl,trivial⟩)
set_option maxRecDepth 100000 in
theorem rev_keeps:Keeps cfgRv Tryd.f31 revC revI:=Eq.mp (show((∀ x1:Gr,((GOk x1)->((0<(1:Nat))/\((((0:Int)<=(x1.es.length:Int))/\(((x1.es.length:Int)<=(x1.es.length:Int))/\((x1.es.length:Int)<=(↑(1073741824:Nat):Int))))/\((0<(1:Nat))/\(∃ x3:Nat,(((x3<=x1.es.length)/\(((0=(x3:Int))/\(((x1.es.length:Int)=(x1.es.length:Int))/\((0=0/\x1.es.length=x1.es.length)/\((0=0/\0=0)/\((0=0/\0=0)/\((0=0/\0=0)/\((0=0/\(Int.toNat (x1.es.length:Int)=Int.toNat (x1.es.length:Int)))/\((0=0/\(Int.toNat (x1.es.length:Int)=Int.toNat (x1.es.length:Int)))/\(((x1.es.length:Int)=(x1.es.length:Int))/\((0=0/\x1.es.length=x1.es.length)/\((0=0/\0=0)/\((0=0/\0=0)/\((0=0/\0=0)/\(True/\((0=0/\0=0)/\True)))))))))))))))/\(((RLe x1.es.length (Int.toNat (x1.es.length:Int)))/\(RowsEq [.int .i64,.int .i64,.int .i64] x1.es.length (fun(x j:Nat)=>zRow [.int .i64,.int .i64,.int .i64] j) (encL encE (revAt x1.es x3))))/\(((RLe x1.es.length x1.es.length)/\(RowsEq [.int .i64,.int .i64,.int .i64] x1.es.length (D.toF (D.l x1.es.length (encL encE x1.es))) (D.toF (D.l x1.es.length (encL encE x1.es)))))/\(((RLe x1.es.length x1.es.length)/\(RowsEq [.int .i64,.int .i64,.int .i64] x1.es.length (D.toF (D.l x1.es.length (encL encE x1.es))) (D.toF (D.l x1.es.length (encL encE x1.es)))))/\((RLe 1 1/\(RowsEq [.sl [.int .i64,.int .i64,.int .i64],.sl [.sl [.int .i64]],.sl [.sl [.int .i64]]] 1 (encG x1) (encG x1)))/\True))))))/\(∀ x4:Nat,((x4<=x1.es.length)->(((decide ((x4:Int)<(x1.es.length:Int))=true)->((((0:Int)<=(x4:Int))/\((x4:Int)<(x1.es.length:Int)))/\((0+Int.toNat (x4:Int)<x1.es.length)/\((((0:Int)<=(x4:Int))/\((x4:Int)<(↑(Int.toNat (x1.es.length:Int)):Int)))/\(((0+Int.toNat (x4:Int)<x1.es.length)/\(True/\(True/\(True/\True))))/\((((-9223372036854775808:Int)<=(x4:Int)+1)/\((x4:Int)+1<=(9223372036854775807:Int)))/\(∃ x7:Nat,((x1.es.length-x7<x1.es.length-x4)/\((x7<=x1.es.length)/\((((x4:Int)+1=(x7:Int))/\(((x1.es.length:Int)=(x1.es.length:Int))/\((0=0/\x1.es.length=x1.es.length)/\((0=0/\0=0)/\((0=0/\0=0)/\((0=0/\0=0)/\((0=0/\(Int.toNat (x1.es.length:Int)=Int.toNat (x1.es.length:Int)))/\((0=0/\(Int.toNat (x1.es.length:Int)=Int.toNat (x1.es.length:Int)))/\(((x1.es.length:Int)=(x1.es.length:Int))/\((0=0/\x1.es.length=x1.es.length)/\((0=0/\0=0)/\((0=0/\0=0)/\((0=0/\0=0)/\(True/\((0=0/\0=0)/\True)))))))))))))))/\(((RLe x1.es.length x1.es.length)/\(RowsEq [.int .i64,.int .i64,.int .i64] x1.es.length (setRow (encL encE (revAt x1.es x4)) (0+Int.toNat (x4:Int)) 0 (D.i (x1.es.getD (0+Int.toNat (x4:Int)) default).t::D.i (x1.es.getD (0+Int.toNat (x4:Int)) default).f::D.i (x1.es.getD (0+Int.toNat (x4:Int)) default).d::@List.nil D)) (encL encE (revAt x1.es x7))))/\(((RLe x1.es.length x1.es.length)/\(RowsEq [.int .i64,.int .i64,.int .i64] x1.es.length (D.toF (D.l x1.es.length (encL encE x1.es))) (D.toF (D.l x1.es.length (encL encE x1.es)))))/\(((RLe x1.es.length x1.es.length)/\(RowsEq [.int .i64,.int .i64,.int .i64] x1.es.length (D.toF (D.l x1.es.length (encL encE x1.es))) (D.toF (D.l x1.es.length (encL encE x1.es)))))/\((RLe 1 1/\(RowsEq [.sl [.int .i64,.int .i64,.int .i64],.sl [.sl [.int .i64]],.sl [.sl [.int .i64]]] 1 (encG x1) (encG x1)))/\True))))))))))))))/\((decide ((x4:Int)<(x1.es.length:Int))=false)->(∃ x9:Gr,(True/\(((0=0/\0=0)/\True)/\(((RLe 1 1/\(RowsEq [.sl [.int .i64,.int .i64,.int .i64],.sl [.sl [.int .i64]],.sl [.sl [.int .i64]]] 1 (encG x1) (encG x9)))/\True)/\(∃ x10:Gr,((GOk x10)/\((((x9.n:Int)=(x10.n:Int))/\((0=0/\(Int.toNat (x1.es.length:Int)=x10.es.length))/\True))/\((((RLe x10.es.length x1.es.length)/\(RowsEq [.int .i64,.int .i64,.int .i64] x10.es.length (encL encE (revAt x1.es x4)) (encL encE x10.es)))/\True)/\((0=0/\0=0)/\((RLe 1 1/\(RowsEq [.sl [.int .i64,.int .i64,.int .i64],.sl [.sl [.int .i64]],.sl [.sl [.int .i64]]] 1 (encG x10) (encG (revG x1))))/\True))))))))))))))))))))))=(Keeps cfgRv Tryd.f31 revC revI) by kernel_rfl) (fun x1=>fun h2=>⟨(by omega),
⟨(by omega),
(by omega),
(by(have:=h2.m;omega))⟩,
(by omega),
((0:Nat)),
⟨(by(try dsimp only at *);omega),
⟨(by(try dsimp only at *);omega),rfl,
⟨rfl,rfl⟩,
⟨rfl,rfl⟩,
⟨rfl,rfl⟩,
⟨rfl,rfl⟩,
⟨rfl,rfl⟩,
⟨rfl,rfl⟩,rfl,
⟨rfl,rfl⟩,
⟨rfl,rfl⟩,
⟨rfl,rfl⟩,
⟨rfl,rfl⟩,trivial,
⟨rfl,rfl⟩,trivial⟩,
⟨⟨(by(try dsimp only at *);omega)⟩,
(by(try dsimp only at *);exact rows_zeroE rfl)⟩,
⟨rl,rr⟩,
⟨rl,rr⟩,
⟨rl,rr⟩,trivial⟩,
fun x4=>fun h5=>⟨fun g6=>have h6:=dT g6;⟨⟨(by(try dsimp only at *);omega),
(by(try dsimp only at *);omega)⟩,
(by(try dsimp only at *);omega),
⟨(by(try dsimp only at *);omega),
(by(try dsimp only at *);omega)⟩,
⟨(by(try dsimp only at *);omega),trivial,trivial,trivial,trivial⟩,
⟨(by(try dsimp only at *);omega),
(by(try dsimp only at *);(have:=h2.m;omega))⟩,
(x4+(1:Nat)),
(by(try dsimp only at *);omega),
(by(try dsimp only at *);omega),
⟨(by(try dsimp only at *);omega),rfl,
⟨rfl,rfl⟩,
⟨rfl,rfl⟩,
⟨rfl,rfl⟩,
⟨rfl,rfl⟩,
⟨rfl,rfl⟩,
⟨rfl,rfl⟩,rfl,
⟨rfl,rfl⟩,
⟨rfl,rfl⟩,
⟨rfl,rfl⟩,
⟨rfl,rfl⟩,trivial,
⟨rfl,rfl⟩,trivial⟩,
⟨rl,
(by(try dsimp only at *);(rw[nat0];exact rowsEq_set (by rw[revAt_len];omega) ⟨rfl,rfl,rfl,trivial⟩))⟩,
⟨rl,rr⟩,
⟨rl,rr⟩,
⟨rl,rr⟩,trivial⟩,
fun g8=>have h8:=dF g8;⟨(x1),trivial,
⟨⟨rfl,rfl⟩,trivial⟩,
⟨⟨rl,rr⟩,trivial⟩,
(revG x1),
(by(try dsimp only at *);exact revG_ok h2),
⟨(by(try dsimp only at *);rfl),
⟨rfl,
(by(try dsimp only at *);(show((x1.es.length:Nat):Int).toNat=(x1.es.map revE).length;rw[List.length_map];rfl))⟩,trivial⟩,
⟨⟨⟨(by(try dsimp only at *);(show(x1.es.map revE).length<=_;rw[List.length_map];exact Nat.le_refl _))⟩,
(by(try dsimp only at *);(rw[revAt_full h5 h8];exact rr))⟩,trivial⟩,
⟨rfl,rfl⟩,
⟨rl,rr⟩,trivial⟩⟩⟩)
theorem rev_good:Good Tryd.prog 31 revC/\FnOk Tryd.prog 31:=good_of tok conRv (fn:=Tryd.f31) rfl (by decide+kernel) (fun _=>rfl) rev_keeps
def finSt (g:Gr) (s:VSt) (v:Nat):VSt:=if s.1.getD v default=false then visF g 12 v s else s
def finA (g:Gr) (k:Nat):VSt:=(List.range k).foldl (finSt g) (List.replicate g.n false,[])
def finL (g:Gr):List Int:=(finA g g.n).2
abbrev CSt:=List Bool × List (List Nat)
def compR (rg:Gr) (s:CSt) (v:Int):VSt:=visF rg 12 v.toNat (s.1,[])
def compSt (rg:Gr) (s:CSt) (v:Int):CSt:=if s.1.getD v.toNat default=false then((compR rg s v).1,s.2++[ofW (compR rg s v).2 (compR rg s v).2.length])else s
def compA (rg:Gr) (l:List Int) (k:Nat):CSt:=(List.range k).foldl (fun s j=>compSt rg s (l.getD (l.length-1-j) default)) (List.replicate rg.n false,[])
def compsL (g:Gr):List (List Nat):=insG ltS (compA (revG g) (finL g) (finL g).length).2
theorem unv_rep (n:Nat):unv (List.replicate n false)=n:=by
 induction n with
 |zero=>rfl
 |succ n ih=>show 1+unv (List.replicate n false)=n+1;rw[ih];omega
theorem visF_rng {g:Gr} (hg:GOk g):∀(m u:Nat) (s:VSt),u<g.n->∀ z∈(visF g m u s).2,z∈s.2∨(0<=z/\z<g.n)
 |0,_,_,_,z,hz=>.inl hz
 |m+1,u,s,hu,z,hz=>by
  rw[visF_succ]at hz
  have key:∀(L:List Nat) (s:VSt),(∀ i∈L,i<g.es.length)->∀ z∈(L.foldl (stepV g m) s).2,z∈s.2∨(0<=z/\z<g.n):=by
   intro L
   induction L with
   |nil=>intro s _ z hz;exact .inl hz
   |cons a L ih=>
    intro s hL z hz
    rw[List.foldl_cons]at hz
    rcases ih _ (fun i hi=>hL i (List.mem_cons_of_mem _ hi)) z hz with q|q
    ·unfold stepV at q
     split at q
     ·have e:=hg.e a (hL a (by simp))
      unfold edOk at e
      exact visF_rng hg m _ s (by unfold toN;omega) z q
     ·exact .inl q
    ·exact .inr q
  rcases List.mem_append.1 hz with q|q
  ·exact key (adjN g true u) (s.1.set u true,s.2) (fun i hi=>(adjN_mem.1 hi).1) z q
  ·have:z=(u:Int):=by simpa using q
   exact .inr (by omega)
structure G12 (g:Gr):Prop where
 n:g.n<=12
 g:GOk g
theorem finA_succ (g:Gr) (k:Nat):finA g (k+1)=finSt g (finA g k) k:=by unfold finA;rw[List.range_succ,List.foldl_append];rfl
theorem finA_VI {g:Gr} (h:G12 g):∀ k,k<=g.n->VI g.n g.n 12 (finA g k)
 |0,_=>⟨by show(List.replicate g.n false).length=_;simp,by show 0+unv (List.replicate g.n false)=_;rw[unv_rep];omega,by show unv (List.replicate g.n false)<=_;rw[unv_rep];exact h.n⟩
 |k+1,hk=>by
  rw[finA_succ]
  unfold finSt
  split
  ·rename_i q;exact(finA_VI h k (by omega)).vis h.g 12 (by omega) q
  ·exact finA_VI h k (by omega)
theorem finA_rng {g:Gr} (h:G12 g):∀ k,k<=g.n->∀ z∈(finA g k).2,0<=z/\z<g.n
 |0,_,z,hz=>by cases hz
 |k+1,hk,z,hz=>by
  rw[finA_succ]at hz
  unfold finSt at hz
  split at hz
  ·rcases visF_rng h.g 12 k _ (by omega) z hz with q|q
   ·exact finA_rng h k (by omega) z q
   ·exact q
  ·exact finA_rng h k (by omega) z hz
theorem finL_at {g:Gr} (h:G12 g) {k:Nat} (hk:k<(finL g).length):0<=(finL g).getD k default/\(finL g).getD k default<g.n:=
 finA_rng h g.n (Nat.le_refl _) _ (by rw[List.getD_eq_getElem?_getD,List.getElem?_eq_getElem hk];exact List.getElem_mem hk)
theorem finL_len {g:Gr} (h:G12 g):(finL g).length<=12:=by
 have a:=(finA_VI h g.n (Nat.le_refl _)).sum
 have:=h.n
 show(finA g g.n).2.length<=12
 omega
def finX (g:Gr) (k:Nat):VX:=⟨g,finA g k,k⟩
theorem fin_ok {g:Gr} (h:G12 g) {k:Nat} (hk:k<g.n) (h0:(finA g k).1.getD k default=false):VXok 12 (finX g k)/\(finX g k).s.1.getD (finX g k).u default=false:=by
 have v:=finA_VI h k (by omega)
 have s:=v.sum
 have:=h.n
 exact⟨⟨h.g,⟨v.len,rfl,v.un⟩,hk,by show(finA g k).2.length+unv (finA g k).1<=8192;omega⟩,h0⟩
theorem fin_yes {g:Gr} {k:Nat} (h0:(finA g k).1.getD k default=false):visF g 12 k (finA g k)=finA g (k+1):=by rw[finA_succ];unfold finSt;rw[if_pos h0]
theorem fin_no {g:Gr} {k:Nat} (h0:¬ (finA g k).1.getD k default=false):finA g k=finA g (k+1):=by rw[finA_succ];unfold finSt;rw[if_neg h0]
structure CI (n:Nat) (s:CSt):Prop where
 len:s.1.length=n
 cnt:s.2.length+unv s.1<=n
 w:∀ ws∈s.2,WOk ws
theorem compA_succ (rg:Gr) (l:List Int) (k:Nat):compA rg l (k+1)=compSt rg (compA rg l k) (l.getD (l.length-1-k) default):=by unfold compA;rw[List.range_succ,List.foldl_append];rfl
theorem compR_VI {rg:Gr} (h:G12 rg) {s:CSt} (I:CI rg.n s) {v:Int} (hv:0<=v/\v<rg.n) (h0:s.1.getD v.toNat default=false):VI rg.n (unv s.1) 12 (compR rg s v)/\1<=(compR rg s v).2.length:=by
 have hn:=h.n
 have hc:=I.cnt
 refine⟨VI.vis h.g 12 (s:=(s.1,[])) ⟨I.len,by show 0+unv s.1=_;omega,by show unv s.1<=12;omega⟩ (by omega) h0,?_⟩
 unfold compR
 rw[visF_succ rg 11]
 show 1<=(_++[((v.toNat:Nat):Int)]).length
 rw[List.length_append,List.length_singleton];omega
theorem compSt_CI {rg:Gr} (h:G12 rg) {s:CSt} (I:CI rg.n s) {v:Int} (hv:0<=v/\v<rg.n):CI rg.n (compSt rg s v):=by
 unfold compSt
 split
 ·rename_i h0
  obtain⟨V,p⟩:=compR_VI h I hv h0
  have:=V.sum
  have:=I.cnt
  refine⟨V.len,?_,fun ws hw=>?_⟩
  ·show(s.2++[_]).length+unv (compR rg s v).1<=rg.n
   rw[List.length_append,List.length_singleton];omega
  ·rcases List.mem_append.1 hw with q|q
   ·exact I.w ws q
   ·obtain rfl:ws=ofW (compR rg s v).2 (compR rg s v).2.length:=by simpa using q
    exact ofW_ok _ _
 ·exact I
theorem compA_CI {rg:Gr} (h:G12 rg) {l:List Int} (hl:∀ k,k<l.length->0<=l.getD k default/\l.getD k default<rg.n):∀ k,k<=l.length->CI rg.n (compA rg l k)
 |0,_=>⟨by show(List.replicate rg.n false).length=_;simp,by show 0+unv (List.replicate rg.n false)<=_;rw[unv_rep];omega,fun ws hw=>by cases hw⟩
 |k+1,hk=>by rw[compA_succ];exact compSt_CI h (compA_CI h hl k (by omega)) (hl _ (by omega))
structure CLx where
 g:Gr
 l:List Int
structure CLok (x:CLx):Prop where
 g:G12 x.g
 l:∀ k,k<x.l.length->0<=x.l.getD k default/\x.l.getD k default<x.g.n
 len:x.l.length<=12
def clA (x:CLx) (k:Nat):CSt:=compA x.g x.l k
def clV (x:CLx) (k:Nat):Int:=x.l.getD (x.l.length-1-k) default
def compS:LS where
 it:=backIt
 g:=56
 X:=CLx
 pre:=CLok
 slots:=[4,6,7]
 vals:=fun _=>[.p 100000 0 0,.p 100001 0 0,.p 100002 0 0]
 caps:=fun _=>[.p 100003 0 0]
 g0:=fun x=>[(100000,.one .bor [.sl 100010 0 x.g.n]),(100010,.rows .own kB x.g.n (encL encBo (List.replicate x.g.n false))),(100001,.one .bor [.p 100011 0 0]),(100011,.rows .bor kG 1 (encG x.g)),(100002,.one .own [.ns]),
  (100003,.one .bor [.sl 100013 0 x.l.length]),(100013,.rows .bor k1 x.l.length (encL encI x.l))]
 g1:=fun x=>[(100010,.rows .own kB x.g.n (encL encBo (clA x x.l.length).1)),(100002,.one .own [.sl 1 0 (clA x x.l.length).2.length]),(1,.rows .own kSt (clA x x.l.length).2.length (encL encSt (clA x x.l.length).2))]
 hp:=fun x k=>[(100000,.one .bor [.sl 100010 0 x.g.n]),(100010,.rows .own kB x.g.n (encL encBo (clA x k).1)),(100001,.one .bor [.p 100011 0 0]),(100011,.rows .bor kG 1 (encG x.g)),(100002,.one .own [.sl 8 0 (clA x k).2.length]),(8,.rows .own kSt (clA x k).2.length (encL encSt (clA x k).2)),
  (100003,.one .bor [.sl 100013 0 x.l.length]),(100013,.rows .bor k1 x.l.length (encL encI x.l))]
 y:=fun x=>x.l
 m:=fun x=>x.l.length
def cfgC1:Cfg:=⟨T,[],[(44,.one (visC 12)),(20,.one ofC)],noInv,30,{ scp:=false }⟩
theorem conC1:ConOk Tryd.prog cfgC1:=ConL.ok (.cons (ConL.one (vis_good 12)) (.cons (ConL.one of_good) .nil))
def clX (x:CLx) (k:Nat):VX:=⟨x.g,((clA x k).1,[]),(clV x k).toNat⟩
theorem cl_v {x:CLx} (h:CLok x) {k:Nat} (hk:k<x.l.length):0<=clV x k/\clV x k<x.g.n:=h.l _ (by omega)
theorem cl_CI {x:CLx} (h:CLok x) {k:Nat} (hk:k<=x.l.length):CI x.g.n (clA x k):=compA_CI h.g h.l k hk
theorem cl_call {x:CLx} (h:CLok x) {k:Nat} (hk:k<x.l.length) (h0:(!(clA x k).1.getD (0+(clV x k).toNat) default)=true):VXok 12 (clX x k)/\(clX x k).s.1.getD (clX x k).u default=false:=by
 have h0:(clA x k).1.getD (clV x k).toNat default=false:=by simpa using h0
 have I:=cl_CI h (k:=k) (by omega)
 have v:=cl_v h hk
 have:=I.cnt
 have:=h.g.n
 exact⟨⟨h.g.g,⟨I.len,rfl,by show unv (clA x k).1<=12;omega⟩,by show(clV x k).toNat<x.g.n;omega,by show 0+unv (clA x k).1<=8192;omega⟩,h0⟩
theorem cl_yes {x:CLx} {k:Nat} (h0:(!(clA x k).1.getD (0+(clV x k).toNat) default)=true):clA x (k+1)=((visF x.g 12 (clX x k).u (clX x k).s).1,(clA x k).2++[ofW (visF x.g 12 (clX x k).u (clX x k).s).2 (visF x.g 12 (clX x k).u (clX x k).s).2.length]):=by
 have h0:(clA x k).1.getD (clV x k).toNat default=false:=by simpa using h0
 have e:clA x (k+1)=compSt x.g (clA x k) (clV x k):=compA_succ _ _ _
 rw[e];unfold compSt;rw[if_pos h0];rfl
theorem cl_no {x:CLx} {k:Nat} (h0:(!(clA x k).1.getD (0+(clV x k).toNat) default)=false):clA x (k+1)=clA x k:=by
 have h0:¬ (clA x k).1.getD (clV x k).toNat default=false:=by simpa using h0
 have e:clA x (k+1)=compSt x.g (clA x k) (clV x k):=compA_succ _ _ _
 rw[e];unfold compSt;rw[if_neg h0]
theorem cl_q {x:CLx} (h:CLok x) {k:Nat} (hk:k<x.l.length) (h0:(!(clA x k).1.getD (0+(clV x k).toNat) default)=true):(visF x.g 12 (clX x k).u (clX x k).s).2.length<=12:=by
 have h0:(clA x k).1.getD (clV x k).toNat default=false:=by simpa using h0
 have I:=cl_CI h (k:=k) (by omega)
 have V:=(compR_VI h.g I (cl_v h hk) h0).1.sum
 have:=I.cnt
 have:=h.g.n
 show(compR x.g (clA x k) (clV x k)).2.length<=12
 omega
theorem pushS {l:List (List Nat)} {ws:List Nat}:RowsEq kSt (l++[ws]).length (appRows l.length (encL encSt l) 0 (litRows [[.l (szW ws) (encL encW ws)]])) (encL encSt (l++[ws])):=
 rowsEq_push rfl (by simp) (by simp only[rowEq,kSt];exact⟨Kd.eqv_rfl _ _,trivial⟩)
set_option maxRecDepth 100000 in
theorem comp_loop:KeepsLoop cfgC1 (rf0 Tryd.f24 0).2.1.toList (rf0 Tryd.f24 0).2.2.1 (rf0 Tryd.f24 0).2.2.2 compS:=Eq.mp (show((∀ x1:CLx,((CLok x1)->((x1.l.length<=(1073741824:Nat))/\((x1.l.length<=x1.l.length)/\((True/\(((0=0/\0=0)/\((0=0/\0=0)/\((0=0/\0=0)/\True)))/\(((0=0/\x1.g.n=x1.g.n)/\True)/\(((RLe x1.g.n x1.g.n)/\(RowsEq (Kd.bool::[]) x1.g.n (encL encBo (List.replicate x1.g.n false)) (encL encBo (Prod.fst (clA x1 0)))))/\(((0=0/\0=0)/\True)/\((RLe 1 1/\(RowsEq [.sl [.int .i64,.int .i64,.int .i64],.sl [.sl [.int .i64]],.sl [.sl [.int .i64]]] 1 (encG x1.g) (encG x1.g)))/\(((True/\(0=0/\((Prod.snd (clA x1 0)).length=(0:Nat))))/\True)/\(((Prod.snd (clA x1 0)).length=(0:Nat))/\(((0=0/\x1.l.length=x1.l.length)/\True)/\(((RLe x1.l.length x1.l.length)/\(RI x1.l.length x1.l x1.l))/\True))))))))))/\((∀ k3:Nat,((k3<=x1.l.length)->((x1.l.length<=(1073741824:Nat))/\(((0=0/\0=0)/\True)/\((((0=0/\x1.l.length=x1.l.length)/\True)/\(((RLe x1.l.length x1.l.length)/\(RI x1.l.length x1.l x1.l))/\True))/\True)))))/\((∀ k5:Nat,((k5<x1.l.length)->((Nat.beq (lenV (Value.int .i64 (↑(x1.l.length-(1:Nat)-k5):Int)::Value.int .i64 (x1.l.getD (x1.l.length-(1:Nat)-k5) default)::@List.nil Value)) (lenN (Array.toList (Prod.fst (Prod.snd (rf0 Tryd.f24 0)))))=true)/\((((0:Int)<=x1.l.getD (x1.l.length-(1:Nat)-k5) default)/\(x1.l.getD (x1.l.length-(1:Nat)-k5) default<(x1.g.n:Int)))/\((0+Int.toNat (x1.l.getD (x1.l.length-(1:Nat)-k5) default)<x1.g.n)/\((((!(Prod.fst (clA x1 k5)).getD (0+Int.toNat (x1.l.getD (x1.l.length-(1:Nat)-k5) default)) default)=true)->(∃ x8:VX,(((VXok 12 x8)/\((Prod.fst x8.s).getD x8.u default=false))/\(((0=0/\0=0)/\((x1.l.getD (x1.l.length-(1:Nat)-k5) default=(x8.u:Int))/\((0=0/\x1.g.n=x8.g.n)/\((True/\(0=0/\((Prod.snd x8.s).length=(0:Nat))))/\True))))/\(((RLe 1 1/\(RowsEq [.sl [.int .i64,.int .i64,.int .i64],.sl [.sl [.int .i64]],.sl [.sl [.int .i64]]] 1 (encG x1.g) (encG x8.g)))/\(((RLe x8.g.n x1.g.n)/\(RowsEq (Kd.bool::[]) x8.g.n (encL encBo (Prod.fst (clA x1 k5))) (encL encBo (Prod.fst x8.s))))/\(((Prod.snd x8.s).length=(0:Nat))/\True)))/\(∃ x9:List Int,((x9.length<=(1048576:Nat))/\(((0=0/\((Prod.snd (visF x8.g 12 x8.u x8.s)).length=x9.length))/\True)/\((((RLe x9.length (Prod.snd (visF x8.g 12 x8.u x8.s)).length)/\(RI x9.length (Prod.snd (visF x8.g 12 x8.u x8.s)) x9))/\True)/\((((szW (ofW x9 x9.length)=(0:Nat)∨szW (ofW x9 x9.length)=(64:Nat)/\(64:Nat)=szW (ofW x9 x9.length))/\True)/\True)/\((0=0/\(((Prod.snd (clA x1 k5)).length<=(Prod.snd (clA x1 k5)).length)/\(((1:Nat)<=(1:Nat))/\((Prod.snd (clA x1 k5)).length+(1:Nat)<=(1073741824:Nat)))))/\(True/\(((0=0/\0=0)/\((0=0/\0=0)/\((0=0/\0=0)/\True)))/\(((0=0/\x1.g.n=x1.g.n)/\True)/\(((RLe x1.g.n x8.g.n)/\(RowsEq (Kd.bool::[]) x1.g.n (encL encBo (Prod.fst (visF x8.g 12 x8.u x8.s))) (encL encBo (Prod.fst (clA x1 (k5+(1:Nat)))))))/\(((0=0/\0=0)/\True)/\((RLe 1 1/\(RowsEq [.sl [.int .i64,.int .i64,.int .i64],.sl [.sl [.int .i64]],.sl [.sl [.int .i64]]] 1 (encG x1.g) (encG x1.g)))/\(((0=0/\((Prod.snd (clA x1 k5)).length+(1:Nat)=(Prod.snd (clA x1 (k5+(1:Nat)))).length))/\True)/\(((RLe (Prod.snd (clA x1 (k5+(1:Nat)))).length ((Prod.snd (clA x1 k5)).length+(1:Nat)))/\(RowsEq (Kd.pt 64 [.int .u64]::[]) (Prod.snd (clA x1 (k5+(1:Nat)))).length (appRows (Prod.snd (clA x1 k5)).length (encL encSt (Prod.snd (clA x1 k5))) 0 (litRows ((D.l (szW (ofW x9 x9.length)) (encL encW (ofW x9 x9.length))::@List.nil D)::@List.nil (List D)))) (encL encSt (Prod.snd (clA x1 (k5+(1:Nat)))))))/\(((0=0/\x1.l.length=x1.l.length)/\True)/\(((RLe x1.l.length x1.l.length)/\(RI x1.l.length x1.l x1.l))/\True)))))))))))))))))))))/\(((!(Prod.fst (clA x1 k5)).getD (0+Int.toNat (x1.l.getD (x1.l.length-(1:Nat)-k5) default)) default)=false)->(True/\(((0=0/\0=0)/\((0=0/\0=0)/\((0=0/\0=0)/\True)))/\(((0=0/\x1.g.n=x1.g.n)/\True)/\(((RLe x1.g.n x1.g.n)/\(RowsEq (Kd.bool::[]) x1.g.n (encL encBo (Prod.fst (clA x1 k5))) (encL encBo (Prod.fst (clA x1 (k5+(1:Nat)))))))/\(((0=0/\0=0)/\True)/\((RLe 1 1/\(RowsEq [.sl [.int .i64,.int .i64,.int .i64],.sl [.sl [.int .i64]],.sl [.sl [.int .i64]]] 1 (encG x1.g) (encG x1.g)))/\(((0=0/\((Prod.snd (clA x1 k5)).length=(Prod.snd (clA x1 (k5+(1:Nat)))).length))/\True)/\(((RLe (Prod.snd (clA x1 (k5+(1:Nat)))).length (Prod.snd (clA x1 k5)).length)/\(RowsEq (Kd.pt 64 [.int .u64]::[]) (Prod.snd (clA x1 (k5+(1:Nat)))).length (encL encSt (Prod.snd (clA x1 k5))) (encL encSt (Prod.snd (clA x1 (k5+(1:Nat)))))))/\(((0=0/\x1.l.length=x1.l.length)/\True)/\(((RLe x1.l.length x1.l.length)/\(RI x1.l.length x1.l x1.l))/\True)))))))))))))))))/\(x1.l.length=x1.l.length/\(True/\(((RLe x1.g.n x1.g.n)/\(RowsEq (Kd.bool::[]) x1.g.n (encL encBo (Prod.fst (clA x1 x1.l.length))) (encL encBo (Prod.fst (clA x1 x1.l.length)))))/\(((0=0/\((Prod.snd (clA x1 x1.l.length)).length=(Prod.snd (clA x1 x1.l.length)).length))/\True)/\(((RLe (Prod.snd (clA x1 x1.l.length)).length (Prod.snd (clA x1 x1.l.length)).length)/\(RowsEq (Kd.pt 64 [.int .u64]::[]) (Prod.snd (clA x1 x1.l.length)).length (encL encSt (Prod.snd (clA x1 x1.l.length))) (encL encSt (Prod.snd (clA x1 x1.l.length)))))/\True)))))))))))))=(KeepsLoop cfgC1 (rf0 Tryd.f24 0).2.1.toList (rf0 Tryd.f24 0).2.2.1 (rf0 Tryd.f24 0).2.2.2 compS) by kernel_rfl) (fun x1=>fun h2=>⟨(by(have:=h2.len;omega)),
(by omega),
⟨trivial,
⟨⟨rfl,rfl⟩,
⟨rfl,rfl⟩,
⟨rfl,rfl⟩,trivial⟩,
⟨⟨rfl,rfl⟩,trivial⟩,
⟨rl,
(by exact rr)⟩,
⟨⟨rfl,rfl⟩,trivial⟩,
⟨rl,rr⟩,
⟨⟨trivial,rfl,
(by rfl)⟩,trivial⟩,
(by rfl),
⟨⟨rfl,rfl⟩,trivial⟩,
⟨rl,rr⟩,trivial⟩,
fun k3=>fun h4=>⟨(by(have:=h2.len;omega)),
⟨⟨rfl,rfl⟩,trivial⟩,
⟨⟨⟨rfl,rfl⟩,trivial⟩,
⟨rl,rr⟩,trivial⟩,trivial⟩,
fun k5=>fun h6=>⟨(by rfl),
⟨(by exact(cl_v h2 h6).1),
(by exact(cl_v h2 h6).2)⟩,
(by(have:=cl_v h2 h6;show 0+(clV x1 k5).toNat<x1.g.n;omega)),
fun h7=>⟨(clX x1 k5),
⟨(by(try dsimp only at *);exact(cl_call h2 h6 h7).1),
(by(try dsimp only at *);exact(cl_call h2 h6 h7).2)⟩,
⟨⟨rfl,rfl⟩,
(by(try dsimp only at *);(have:=cl_v h2 h6;show clV x1 k5=(((clV x1 k5).toNat:Nat):Int);omega)),
⟨rfl,
(by(try dsimp only at *);rfl)⟩,
⟨trivial,rfl,
(by(try dsimp only at *);rfl)⟩,trivial⟩,
⟨⟨rl,
(by(try dsimp only at *);exact rr)⟩,
⟨⟨(by(try dsimp only at *);exact Nat.le_refl _)⟩,
(by(try dsimp only at *);exact rr)⟩,
(by(try dsimp only at *);rfl),trivial⟩,
(Prod.snd (visF (VX.g (clX x1 k5)) (12:Nat) (VX.u (clX x1 k5)) (VX.s (clX x1 k5)))),
(by(try dsimp only at *);exact Nat.le_trans (cl_q h2 h6 h7) (by decide)),
⟨⟨rfl,rfl⟩,trivial⟩,
⟨⟨rl,rr⟩,trivial⟩,
⟨⟨(by(try dsimp only at *);exact sz_or _),trivial⟩,trivial⟩,
⟨rfl,
(by(try dsimp only at *);omega),
(by(try dsimp only at *);omega),
(by(try dsimp only at *);(have:=(cl_CI h2 (k:=k5) (by omega)).cnt;have:=h2.g.n;omega))⟩,trivial,
⟨⟨rfl,rfl⟩,
⟨rfl,rfl⟩,
⟨rfl,rfl⟩,trivial⟩,
⟨⟨rfl,rfl⟩,trivial⟩,
⟨⟨(by(try dsimp only at *);exact Nat.le_refl _)⟩,
(by(try dsimp only at *);((have e:=(cl_yes h7);first|(rw[e];done)|(rw[e];exact Nat.le_refl _)|(rw[e];exact rr)|(rw[e];exact push_rowsI)|(rw[e,List.length_append];rfl)|(rw[e,List.length_append];exact Nat.le_refl _)|(rw[e];dsimp only;rw[List.length_append];rfl)|(rw[e];dsimp only;rw[List.length_append];exact Nat.le_refl _))))⟩,
⟨⟨rfl,rfl⟩,trivial⟩,
⟨rl,rr⟩,
⟨⟨rfl,
(by(try dsimp only at *);((have e:=(cl_yes h7);first|(rw[e];done)|(rw[e];exact Nat.le_refl _)|(rw[e];exact rr)|(rw[e];exact push_rowsI)|(rw[e,List.length_append];rfl)|(rw[e,List.length_append];exact Nat.le_refl _)|(rw[e];dsimp only;rw[List.length_append];rfl)|(rw[e];dsimp only;rw[List.length_append];exact Nat.le_refl _))))⟩,trivial⟩,
⟨⟨(by(try dsimp only at *);((have e:=(cl_yes h7);first|(rw[e];done)|(rw[e];exact Nat.le_refl _)|(rw[e];exact rr)|(rw[e];exact push_rowsI)|(rw[e,List.length_append];rfl)|(rw[e,List.length_append];exact Nat.le_refl _)|(rw[e];dsimp only;rw[List.length_append];rfl)|(rw[e];dsimp only;rw[List.length_append];exact Nat.le_refl _))))⟩,
(by(try dsimp only at *);(rw[cl_yes h7];exact pushS))⟩,
⟨⟨rfl,rfl⟩,trivial⟩,
⟨rl,rr⟩,trivial⟩,
fun h10=>⟨trivial,
⟨⟨rfl,rfl⟩,
⟨rfl,rfl⟩,
⟨rfl,rfl⟩,trivial⟩,
⟨⟨rfl,rfl⟩,trivial⟩,
⟨rl,
(by(try dsimp only at *);((have e:=(cl_no h10);first|(rw[e];done)|(rw[e];exact Nat.le_refl _)|(rw[e];exact rr)|(rw[e];exact push_rowsI)|(rw[e,List.length_append];rfl)|(rw[e,List.length_append];exact Nat.le_refl _)|(rw[e];dsimp only;rw[List.length_append];rfl)|(rw[e];dsimp only;rw[List.length_append];exact Nat.le_refl _))))⟩,
⟨⟨rfl,rfl⟩,trivial⟩,
⟨rl,rr⟩,
⟨⟨rfl,
(by(try dsimp only at *);((have e:=(cl_no h10);first|(rw[e];done)|(rw[e];exact Nat.le_refl _)|(rw[e];exact rr)|(rw[e];exact push_rowsI)|(rw[e,List.length_append];rfl)|(rw[e,List.length_append];exact Nat.le_refl _)|(rw[e];dsimp only;rw[List.length_append];rfl)|(rw[e];dsimp only;rw[List.length_append];exact Nat.le_refl _))))⟩,trivial⟩,
⟨⟨(by(try dsimp only at *);((have e:=(cl_no h10);first|(rw[e];done)|(rw[e];exact Nat.le_refl _)|(rw[e];exact rr)|(rw[e];exact push_rowsI)|(rw[e,List.length_append];rfl)|(rw[e,List.length_append];exact Nat.le_refl _)|(rw[e];dsimp only;rw[List.length_append];rfl)|(rw[e];dsimp only;rw[List.length_append];exact Nat.le_refl _))))⟩,
(by(try dsimp only at *);((have e:=(cl_no h10);first|(rw[e];done)|(rw[e];exact Nat.le_refl _)|(rw[e];exact rr)|(rw[e];exact push_rowsI)|(rw[e,List.length_append];rfl)|(rw[e,List.length_append];exact Nat.le_refl _)|(rw[e];dsimp only;rw[List.length_append];rfl)|(rw[e];dsimp only;rw[List.length_append];exact Nat.le_refl _))))⟩,
⟨⟨rfl,rfl⟩,trivial⟩,
⟨rl,rr⟩,trivial⟩⟩,rfl,trivial,
⟨rl,rr⟩,
⟨⟨rfl,rfl⟩,trivial⟩,
⟨rl,rr⟩,trivial⟩)
theorem compLoop_good:LoopGood Tryd.prog Tryd.f24.ntmps (rf0 Tryd.f24 0) compS.lc:=loop_good tok conC1 ⟨rfl,rfl,rfl⟩ backIt_good (by decide+kernel) comp_loop
def coC:CT where
 X:=Gr
 pre:=G12
 args:=fun _=>[.p 100000 0 0]
 g0:=fun g=>graphH g 100000
 res:=fun g=>.sl 1 0 (compsL g).length
 g1:=fun g=>[(1,.rows .own kSt (compsL g).length (encL encSt (compsL g)))]
def coI (g:Gr) (id:Nat):Option Inv:=match id with
 |0=>some { X:=Nat,ok:=fun k=>k<=g.n,fr:=fun k=>[(15,.i .i64 k),(3,.sl 60 0 (finA g k).2.length)],hp:=fun k=>[(12,.rows .own kB g.n (encL encBo (finA g k).1)),(60,.rows .own k1 (finA g k).2.length (encL encI (finA g k).2))],me:=fun k=>g.n-k }
 |_=>none
def cfgCo:Cfg:=⟨T,[],[(32,.one nodesC),(44,.one (visC 12)),(31,.one revC),(45,.one backC),(46,.one sysfC)],noInv,10,{ lps:=[(36,compS.lc)]}⟩
theorem conCo:ConOk Tryd.prog cfgCo:=ConL.ok (.cons (ConL.one nodes_good) (.cons (ConL.one (vis_good 12)) (.cons (ConL.one rev_good) (.cons (ConL.one back_good) (.cons (ConL.one sysf_good) .nil)))))
def coX (g:Gr):CLx:=⟨revG g,finL g⟩
theorem co_ok {g:Gr} (h:G12 g):CLok (coX g):=⟨⟨h.n,revG_ok h.g⟩,fun k hk=>finL_at h hk,finL_len h⟩
theorem co_all {g:Gr} {k:Nat} (h1:k<=g.n) (h2:¬ (k:Int)<g.n):(finA g k).2=finL g:=by unfold finL;rw[show k=g.n by omega]
theorem co_sort {g:Gr} (h:G12 g):SySok (compA (revG g) (finL g) (finL g).length).2:=by
 have I:=cl_CI (co_ok h) (k:=(finL g).length) (Nat.le_refl _)
 have:=I.cnt
 have hn:=h.n
 refine⟨?_,I.w⟩
 have I2:(clA (coX g) (finL g).length).2.length+unv (clA (coX g) (finL g).length).1<=g.n:=I.cnt
 show(clA (coX g) (finL g).length).2.length<=12
 omega
theorem insG_len (lt:List Nat->List Nat->Bool) (l:List (List Nat)):(insG lt l).length=l.length:=insAtG_len lt l _
theorem co_len (g:Gr):(compsL g).length=(compA (revG g) (finL g) (finL g).length).2.length:=insG_len _ _
theorem fin_y {g:Gr} {k:Nat} (h:(!(finA g k).1.getD (0+((k:Nat):Int).toNat) default)=true):(finA g k).1.getD k default=false:=by rw[nat0]at h;simpa using h
theorem fin_n {g:Gr} {k:Nat} (h:(!(finA g k).1.getD (0+((k:Nat):Int).toNat) default)=false):¬ (finA g k).1.getD k default=false:=by rw[nat0]at h;simpa using h
set_option maxRecDepth 100000 in
theorem co_keeps:Keeps cfgCo Tryd.f24 coC coI:=Eq.mp (show((∀ x1:Gr,((G12 x1)->(∃ x3:Gr,(True/\(((0=0/\0=0)/\True)/\(((RLe 1 1/\(RowsEq [.sl [.int .i64,.int .i64,.int .i64],.sl [.sl [.int .i64]],.sl [.sl [.int .i64]]] 1 (encG x1) (encG x3)))/\True)/\((((0:Int)<=(x3.n:Int))/\(((x3.n:Int)<=(x3.n:Int))/\((x3.n:Int)<=(↑(1073741824:Nat):Int))))/\(∃ x4:Gr,(True/\(((0=0/\0=0)/\True)/\(((RLe 1 1/\(RowsEq [.sl [.int .i64,.int .i64,.int .i64],.sl [.sl [.int .i64]],.sl [.sl [.int .i64]]] 1 (encG x1) (encG x4)))/\True)/\(∃ x5:Nat,(((x5<=x1.n)/\(((0=(x5:Int))/\((True/\(0=0/\((Prod.snd (finA x1 x5)).length=(0:Nat))))/\(((x4.n:Int)=(x4.n:Int))/\((0=0/\0=0)/\(True/\((0=0/\0=0)/\True))))))/\(((RLe x1.n (Int.toNat (x3.n:Int)))/\(RowsEq (Kd.bool::[]) x1.n (fun(x j:Nat)=>zRow (Kd.bool::[]) j) (encL encBo (Prod.fst (finA x1 x5)))))/\(((Prod.snd (finA x1 x5)).length=(0:Nat))/\(((0=0/\(Int.toNat (x3.n:Int)=Int.toNat (x3.n:Int)))/\True)/\((RLe 1 1/\(RowsEq [.sl [.int .i64,.int .i64,.int .i64],.sl [.sl [.int .i64]],.sl [.sl [.int .i64]]] 1 (encG x1) (encG x1)))/\True))))))/\(∀ x6:Nat,((x6<=x1.n)->(((decide ((x6:Int)<(x4.n:Int))=true)->((((0:Int)<=(x6:Int))/\((x6:Int)<(↑(Int.toNat (x3.n:Int)):Int)))/\((0+Int.toNat (x6:Int)<x1.n)/\((((!(Prod.fst (finA x1 x6)).getD (0+Int.toNat (x6:Int)) default)=true)->(∃ x10:VX,(((VXok 12 x10)/\((Prod.fst x10.s).getD x10.u default=false))/\(((0=0/\0=0)/\(((x6:Int)=(x10.u:Int))/\((0=0/\(Int.toNat (x3.n:Int)=x10.g.n))/\((0=0/\((Prod.snd (finA x1 x6)).length=(Prod.snd x10.s).length))/\True))))/\(((RLe 1 1/\(RowsEq [.sl [.int .i64,.int .i64,.int .i64],.sl [.sl [.int .i64]],.sl [.sl [.int .i64]]] 1 (encG x1) (encG x10.g)))/\(((RLe x10.g.n x1.n)/\(RowsEq (Kd.bool::[]) x10.g.n (encL encBo (Prod.fst (finA x1 x6))) (encL encBo (Prod.fst x10.s))))/\(((RLe (Prod.snd x10.s).length (Prod.snd (finA x1 x6)).length)/\(RowsEq [.int .i64] (Prod.snd x10.s).length (encL encI (Prod.snd (finA x1 x6))) (encL encI (Prod.snd x10.s))))/\True)))/\((((-9223372036854775808:Int)<=(x6:Int)+1)/\((x6:Int)+1<=(9223372036854775807:Int)))/\(∃ x11:Nat,((x1.n-x11<x1.n-x6)/\((x11<=x1.n)/\((((x6:Int)+1=(x11:Int))/\((0=0/\((Prod.snd (visF x10.g 12 x10.u x10.s)).length=(Prod.snd (finA x1 x11)).length))/\(((x4.n:Int)=(x4.n:Int))/\((0=0/\0=0)/\(True/\((0=0/\0=0)/\True))))))/\(((RLe x1.n x10.g.n)/\(RowsEq (Kd.bool::[]) x1.n (encL encBo (Prod.fst (visF x10.g 12 x10.u x10.s))) (encL encBo (Prod.fst (finA x1 x11)))))/\(((RLe (Prod.snd (finA x1 x11)).length (Prod.snd (visF x10.g 12 x10.u x10.s)).length)/\(RowsEq [.int .i64] (Prod.snd (finA x1 x11)).length (encL encI (Prod.snd (visF x10.g 12 x10.u x10.s))) (encL encI (Prod.snd (finA x1 x11)))))/\(((0=0/\(Int.toNat (x3.n:Int)=Int.toNat (x3.n:Int)))/\True)/\((RLe 1 1/\(RowsEq [.sl [.int .i64,.int .i64,.int .i64],.sl [.sl [.int .i64]],.sl [.sl [.int .i64]]] 1 (encG x1) (encG x1)))/\True))))))))))))))/\(((!(Prod.fst (finA x1 x6)).getD (0+Int.toNat (x6:Int)) default)=false)->((((-9223372036854775808:Int)<=(x6:Int)+1)/\((x6:Int)+1<=(9223372036854775807:Int)))/\(∃ x13:Nat,((x1.n-x13<x1.n-x6)/\((x13<=x1.n)/\((((x6:Int)+1=(x13:Int))/\((0=0/\((Prod.snd (finA x1 x6)).length=(Prod.snd (finA x1 x13)).length))/\(((x4.n:Int)=(x4.n:Int))/\((0=0/\0=0)/\(True/\((0=0/\0=0)/\True))))))/\(((RLe x1.n x1.n)/\(RowsEq (Kd.bool::[]) x1.n (encL encBo (Prod.fst (finA x1 x6))) (encL encBo (Prod.fst (finA x1 x13)))))/\(((RLe (Prod.snd (finA x1 x13)).length (Prod.snd (finA x1 x6)).length)/\(RowsEq [.int .i64] (Prod.snd (finA x1 x13)).length (encL encI (Prod.snd (finA x1 x6))) (encL encI (Prod.snd (finA x1 x13)))))/\(((0=0/\(Int.toNat (x3.n:Int)=Int.toNat (x3.n:Int)))/\True)/\((RLe 1 1/\(RowsEq [.sl [.int .i64,.int .i64,.int .i64],.sl [.sl [.int .i64]],.sl [.sl [.int .i64]]] 1 (encG x1) (encG x1)))/\True))))))))))))))/\((decide ((x6:Int)<(x4.n:Int))=false)->(∃ x15:Gr,((GOk x15)/\(((0=0/\0=0)/\True)/\(((RLe 1 1/\(RowsEq [.sl [.int .i64,.int .i64,.int .i64],.sl [.sl [.int .i64]],.sl [.sl [.int .i64]]] 1 (encG x1) (encG x15)))/\True)/\(∃ x16:Gr,(True/\(((0=0/\0=0)/\True)/\(((RLe 1 1/\(RowsEq [.sl [.int .i64,.int .i64,.int .i64],.sl [.sl [.int .i64]],.sl [.sl [.int .i64]]] 1 (encG x1) (encG x16)))/\True)/\((((0:Int)<=(x16.n:Int))/\(((x16.n:Int)<=(x16.n:Int))/\((x16.n:Int)<=(↑(1073741824:Nat):Int))))/\(∃ x17:List Int,((x17.length<=(1073741824:Nat))/\(((0=0/\((Prod.snd (finA x1 x6)).length=x17.length))/\True)/\((((RLe x17.length (Prod.snd (finA x1 x6)).length)/\(RI x17.length (Prod.snd (finA x1 x6)) x17))/\True)/\(∃ x18:LS.X compS,((CLok x18)/\(((0=0/\0=0)/\((0=0/\0=0)/\((0=0/\0=0)/\(((0=0/\0=0)/\True)/\True))))/\((((0=0/\(Int.toNat (x16.n:Int)=(CLx.g x18).n))/\True)/\(((RLe (CLx.g x18).n (Int.toNat (x16.n:Int)))/\(RowsEq (Kd.bool::[]) (CLx.g x18).n (fun(x j:Nat)=>zRow (Kd.bool::[]) j) (encL encBo (List.replicate (CLx.g x18).n false))))/\(((0=0/\0=0)/\True)/\((RLe 1 1/\(RowsEq [.sl [.int .i64,.int .i64,.int .i64],.sl [.sl [.int .i64]],.sl [.sl [.int .i64]]] 1 (encG (revG x15)) (encG (CLx.g x18))))/\((True/\True)/\(((0=0/\(x17.length=(CLx.l x18).length))/\True)/\(((RLe (CLx.l x18).length (Prod.snd (finA x1 x6)).length)/\(RowsEq [.int .i64] (CLx.l x18).length (encL encI (Prod.snd (finA x1 x6))) (encL encI (CLx.l x18))))/\True)))))))/\(∃ x19:List (List Nat),((SySok x19)/\(((0=0/\((Prod.snd (clA x18 (CLx.l x18).length)).length=x19.length))/\(True/\True))/\((((RLe x19.length (Prod.snd (clA x18 (CLx.l x18).length)).length)/\(RowsEq (Kd.pt 64 [.int .u64]::[]) x19.length (encL encSt (Prod.snd (clA x18 (CLx.l x18).length))) (encL encSt x19)))/\True)/\((0=0/\((Prod.snd (clA x18 (CLx.l x18).length)).length=(compsL x1).length))/\(((RLe (compsL x1).length x19.length)/\(RowsEq (Kd.pt 64 [.int .u64]::[]) (compsL x1).length (encL encSt (insG ltS x19)) (encL encSt (compsL x1))))/\True)))))))))))))))))))))))))))))))))))))))))=(Keeps cfgCo Tryd.f24 coC coI) by kernel_rfl) (fun x1=>fun h2=>⟨(x1),
 trivial,
⟨⟨rfl,rfl⟩,trivial⟩,
⟨⟨rl,rr⟩,trivial⟩,
⟨(by(try dsimp only at *);omega),
(by(try dsimp only at *);omega),
(by(try dsimp only at *);(have:=h2.n;omega))⟩,
(x1),trivial,
⟨⟨rfl,rfl⟩,trivial⟩,
⟨⟨rl,rr⟩,trivial⟩,
((0:Nat)),
⟨(by(try dsimp only at *);omega),
⟨(by(try dsimp only at *);omega),
⟨trivial,rfl,
(by(try dsimp only at *);rfl)⟩,rfl,
⟨rfl,rfl⟩,trivial,
⟨rfl,rfl⟩,trivial⟩,
⟨⟨(by(try dsimp only at *);omega)⟩,
(by(try dsimp only at *);exact rows_zeroB rfl)⟩,
(by(try dsimp only at *);rfl),
⟨⟨rfl,rfl⟩,trivial⟩,
⟨rl,rr⟩,trivial⟩,
fun x6=>fun h7=>⟨fun g8=>have h8:=dT g8;⟨⟨(by(try dsimp only at *);omega),
(by(try dsimp only at *);omega)⟩,
(by(try dsimp only at *);omega),
fun h9=>⟨(finX x1 x6),
⟨(by(try dsimp only at *);exact(fin_ok h2 (by omega) (fin_y h9)).1),
(by(try dsimp only at *);exact(fin_ok h2 (by omega) (fin_y h9)).2)⟩,
⟨⟨rfl,rfl⟩,
(by(try dsimp only at *);rfl),
⟨rfl,
(by(try dsimp only at *);rfl)⟩,
⟨rfl,
(by(try dsimp only at *);rfl)⟩,trivial⟩,
⟨⟨rl,
(by(try dsimp only at *);exact rr)⟩,
⟨⟨(by(try dsimp only at *);exact Nat.le_refl _)⟩,
(by(try dsimp only at *);exact rr)⟩,
⟨⟨(by(try dsimp only at *);exact Nat.le_refl _)⟩,
(by(try dsimp only at *);exact rr)⟩,trivial⟩,
⟨(by(try dsimp only at *);omega),
(by(try dsimp only at *);(have:=h2.n;omega))⟩,
(x6+(1:Nat)),
(by(try dsimp only at *);omega),
(by(try dsimp only at *);omega),
⟨(by(try dsimp only at *);omega),
⟨rfl,
(by(try dsimp only at *);exact congrArg (fun s:VSt=>s.2.length) (fin_yes (fin_y h9)))⟩,rfl,
⟨rfl,rfl⟩,trivial,
⟨rfl,rfl⟩,trivial⟩,
⟨⟨(by(try dsimp only at *);exact Nat.le_refl _)⟩,
(by(try dsimp only at *);exact rowsE (congrArg Prod.fst (fin_yes (fin_y h9))))⟩,
⟨⟨(by(try dsimp only at *);exact Nat.le_of_eq (congrArg (fun s:VSt=>s.2.length) (fin_yes (fin_y h9))).symm)⟩,
(by(try dsimp only at *);exact rowsE (congrArg Prod.snd (fin_yes (fin_y h9))))⟩,
⟨⟨rfl,rfl⟩,trivial⟩,
⟨rl,rr⟩,trivial⟩,
fun h12=>⟨⟨(by(try dsimp only at *);omega),
(by(try dsimp only at *);(have:=h2.n;omega))⟩,
(x6+(1:Nat)),
(by(try dsimp only at *);omega),
(by(try dsimp only at *);omega),
⟨(by(try dsimp only at *);omega),
⟨rfl,
(by(try dsimp only at *);((have e:=(fin_no (fin_n h12));first|(rw[e];done)|(rw[e];exact Nat.le_refl _)|(rw[e];exact rr)|(rw[e];exact push_rowsI)|(rw[e,List.length_append];rfl)|(rw[e,List.length_append];exact Nat.le_refl _)|(rw[e];dsimp only;rw[List.length_append];rfl)|(rw[e];dsimp only;rw[List.length_append];exact Nat.le_refl _))))⟩,rfl,
⟨rfl,rfl⟩,trivial,
⟨rfl,rfl⟩,trivial⟩,
⟨rl,
(by(try dsimp only at *);((have e:=(fin_no (fin_n h12));first|(rw[e];done)|(rw[e];exact Nat.le_refl _)|(rw[e];exact rr)|(rw[e];exact push_rowsI)|(rw[e,List.length_append];rfl)|(rw[e,List.length_append];exact Nat.le_refl _)|(rw[e];dsimp only;rw[List.length_append];rfl)|(rw[e];dsimp only;rw[List.length_append];exact Nat.le_refl _))))⟩,
⟨⟨(by(try dsimp only at *);((have e:=(fin_no (fin_n h12));first|(rw[e];done)|(rw[e];exact Nat.le_refl _)|(rw[e];exact rr)|(rw[e];exact push_rowsI)|(rw[e,List.length_append];rfl)|(rw[e,List.length_append];exact Nat.le_refl _)|(rw[e];dsimp only;rw[List.length_append];rfl)|(rw[e];dsimp only;rw[List.length_append];exact Nat.le_refl _))))⟩,
(by(try dsimp only at *);((have e:=(fin_no (fin_n h12));first|(rw[e];done)|(rw[e];exact Nat.le_refl _)|(rw[e];exact rr)|(rw[e];exact push_rowsI)|(rw[e,List.length_append];rfl)|(rw[e,List.length_append];exact Nat.le_refl _)|(rw[e];dsimp only;rw[List.length_append];rfl)|(rw[e];dsimp only;rw[List.length_append];exact Nat.le_refl _))))⟩,
⟨⟨rfl,rfl⟩,trivial⟩,
⟨rl,rr⟩,trivial⟩⟩,
fun g14=>have h14:=dF g14;⟨(x1),
(by(try dsimp only at *);exact h2.g),
⟨⟨rfl,rfl⟩,trivial⟩,
⟨⟨rl,rr⟩,trivial⟩,
(x1),trivial,
⟨⟨rfl,rfl⟩,trivial⟩,
⟨⟨rl,rr⟩,trivial⟩,
⟨(by(try dsimp only at *);omega),
(by(try dsimp only at *);omega),
(by(try dsimp only at *);(have:=h2.n;omega))⟩,
(Prod.snd (finA x1 x6)),
(by(try dsimp only at *);(rw[co_all h7 h14];have:=finL_len h2;omega)),
⟨⟨rfl,rfl⟩,trivial⟩,
⟨⟨rl,rr⟩,trivial⟩,
(coX x1),
(by(try dsimp only at *);exact co_ok h2),
⟨⟨rfl,rfl⟩,
⟨rfl,rfl⟩,
⟨rfl,rfl⟩,
⟨⟨rfl,rfl⟩,trivial⟩,trivial⟩,
⟨⟨⟨rfl,
(by(try dsimp only at *);rfl)⟩,trivial⟩,
⟨⟨(by(try dsimp only at *);exact Nat.le_refl _)⟩,
(by(try dsimp only at *);exact rows_zeroB rfl)⟩,
⟨⟨rfl,rfl⟩,trivial⟩,
⟨rl,
(by(try dsimp only at *);exact rr)⟩,
⟨trivial,trivial⟩,
⟨⟨rfl,
(by(try dsimp only at *);(rw[co_all h7 h14];first|rfl|exact Nat.le_refl _|exact rr))⟩,trivial⟩,
⟨⟨(by(try dsimp only at *);(rw[co_all h7 h14];first|rfl|exact Nat.le_refl _|exact rr))⟩,
(by(try dsimp only at *);(rw[co_all h7 h14];first|rfl|exact Nat.le_refl _|exact rr))⟩,trivial⟩,
(Prod.snd (compA (revG x1) (finL x1) (List.length (finL x1)))),
(by(try dsimp only at *);exact co_sort h2),
⟨⟨rfl,
(by(try dsimp only at *);rfl)⟩,trivial,trivial⟩,
⟨⟨⟨(by(try dsimp only at *);exact Nat.le_refl _)⟩,
(by(try dsimp only at *);exact rr)⟩,trivial⟩,
⟨rfl,
(by(try dsimp only at *);exact(co_len x1).symm)⟩,
⟨⟨(by(try dsimp only at *);exact Nat.le_of_eq (co_len x1))⟩,
(by(try dsimp only at *);exact rr)⟩,trivial⟩⟩⟩)
theorem co_good:Good Tryd.prog 24 coC/\FnOk Tryd.prog 24:=
 good_ofX tok conCo (fn:=Tryd.f24) rfl (by decide+kernel) (fun _=>rfl) co_keeps (fun g hg=>by cases hg) (one_loop rfl compLoop_good)
end Go.Sym