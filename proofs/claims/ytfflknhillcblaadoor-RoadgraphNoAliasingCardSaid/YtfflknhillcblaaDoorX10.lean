import Derived.Test.YtfflknhillcblaaDoorX7
import Derived.Test.YtfflknhillcblaaDoorXD
namespace Go.Sym
set_option linter.unusedVariables false
set_option linter.unusedSimpArgs false
open Go.Proofs
set_option maxRecDepth 100000
set_option maxHeartbeats 4000000
theorem map_range_set {n k:Nat} {f g:Nat->Int} (hk:k<n) (h:∀ i,i≠k->g i=f i):(List.range n).map g=((List.range n).map f).set k (g k):=by
 apply List.ext_getElem (by simp)
 intro i h1 h2
 rw[List.getElem_set]
 by_cases e:k=i
 ·subst e;simp
 ·rw[if_neg e];simp only[List.getElem_map,List.getElem_range];exact h i (fun q=>e q.symm)
theorem rows_zeroI {n:Nat} {ks:List Kd} (hk:ks=k1):RowsEq k1 n (fun _ j=>zRow ks j) (encL encI (List.replicate n 0)):=by
 subst hk
 exact rowsEq_zero (α:=Int) (e:=encI) (by simp only[rowEq,Kd.eqv,k1];exact⟨rfl,trivial⟩)
def dAtL (es:List Ed) (k:Nat):List Int:=(List.range es.length).map fun i=>if i<k then(es.getD i default).d else 0
def dL (es:List Ed):List Int:=(List.range es.length).map fun i=>(es.getD i default).d
theorem dL_at {es:List Ed} {i:Nat} (h:i<es.length):(dL es).getD i default=(es.getD i default).d:=by
 unfold dL;rw[List.getD_eq_getElem?_getD,List.getElem?_map,List.getElem?_range h];rfl
theorem dAtL_len (es:List Ed) (k:Nat):(dAtL es k).length=es.length:=by simp[dAtL]
theorem dAtL_zero (es:List Ed):dAtL es 0=List.replicate es.length 0:=by
 apply List.ext_getElem (by simp[dAtL])
 intro i h1 h2
 simp[dAtL]
theorem dAtL_succ {es:List Ed} {k:Nat} (hk:k<es.length):dAtL es (k+1)=(dAtL es k).set k (es.getD k default).d:=by
 have:=map_range_set (g:=fun i=>if i<k+1 then(es.getD i default).d else 0) (f:=fun i=>if i<k then(es.getD i default).d else 0) hk (fun i hi=>by
  by_cases h:i<k
  ·rw[if_pos h,if_pos (by omega)]
  ·rw[if_neg h,if_neg (by omega)])
 unfold dAtL
 rw[this,if_pos (by omega)]
theorem dAtL_full {es:List Ed} {k:Nat} (h1:k<=es.length) (h2:¬ (k:Int)<es.length):dAtL es k=dL es:=by
 unfold dAtL dL
 apply List.map_congr_left
 intro i hi
 rw[List.mem_range]at hi
 rw[if_pos (by omega)]
def rtC:CT where
 X:=Gr
 pre:=fun g=>g.es.length<=16384
 args:=fun g=>[.p 100000 0 0]
 g0:=fun g=>graphH g 100000
 res:=fun g=>.sl 1 0 g.es.length
 g1:=fun g=>[(1,.rows .own k1 g.es.length (encL encI (dL g.es)))]
def rtI (g:Gr) (id:Nat):Option Inv:=match id with
 |0=>some { X:=Nat,ok:=fun k=>k<=g.es.length,fr:=fun k=>[(17,.i .i64 k)],hp:=fun k=>[(11,.rows .own k1 g.es.length (encL encI (dAtL g.es k)))],me:=fun k=>g.es.length-k }
 |_=>none
set_option maxRecDepth 100000 in
theorem rt_keeps:Keeps cfgN0 Tryd.f28 rtC rtI:=Eq.mp (show((∀ x1:Gr,((x1.es.length<=(16384:Nat))->((0<(1:Nat))/\((((0:Int)<=(x1.es.length:Int))/\(((x1.es.length:Int)<=(x1.es.length:Int))/\((x1.es.length:Int)<=(↑(1073741824:Nat):Int))))/\((0<(1:Nat))/\(∃ x3:Nat,(((x3<=x1.es.length)/\(((0=(x3:Int))/\(((x1.es.length:Int)=(x1.es.length:Int))/\((0=0/\x1.es.length=x1.es.length)/\((0=0/\0=0)/\((0=0/\0=0)/\((0=0/\0=0)/\((0=0/\(Int.toNat (x1.es.length:Int)=Int.toNat (x1.es.length:Int)))/\((0=0/\(Int.toNat (x1.es.length:Int)=Int.toNat (x1.es.length:Int)))/\(((x1.es.length:Int)=(x1.es.length:Int))/\((0=0/\x1.es.length=x1.es.length)/\((0=0/\0=0)/\((0=0/\0=0)/\((0=0/\0=0)/\(True/\((0=0/\0=0)/\True)))))))))))))))/\(((RLe x1.es.length (Int.toNat (x1.es.length:Int)))/\(RowsEq [.int .i64] x1.es.length (fun(x j:Nat)=>zRow [.int .i64] j) (encL encI (dAtL x1.es x3))))/\(((RLe x1.es.length x1.es.length)/\(RowsEq [.int .i64,.int .i64,.int .i64] x1.es.length (D.toF (D.l x1.es.length (encL encE x1.es))) (D.toF (D.l x1.es.length (encL encE x1.es)))))/\(((RLe x1.es.length x1.es.length)/\(RowsEq [.int .i64,.int .i64,.int .i64] x1.es.length (D.toF (D.l x1.es.length (encL encE x1.es))) (D.toF (D.l x1.es.length (encL encE x1.es)))))/\((RLe 1 1/\(RowsEq [.sl [.int .i64,.int .i64,.int .i64],.sl [.sl [.int .i64]],.sl [.sl [.int .i64]]] 1 (encG x1) (encG x1)))/\True))))))/\(∀ x4:Nat,((x4<=x1.es.length)->(((decide ((x4:Int)<(x1.es.length:Int))=true)->((((0:Int)<=(x4:Int))/\((x4:Int)<(x1.es.length:Int)))/\((0+Int.toNat (x4:Int)<x1.es.length)/\((((0:Int)<=(x4:Int))/\((x4:Int)<(↑(Int.toNat (x1.es.length:Int)):Int)))/\(((0+Int.toNat (x4:Int)<x1.es.length)/\(True/\True))/\((((-9223372036854775808:Int)<=(x4:Int)+1)/\((x4:Int)+1<=(9223372036854775807:Int)))/\(∃ x7:Nat,((x1.es.length-x7<x1.es.length-x4)/\((x7<=x1.es.length)/\((((x4:Int)+1=(x7:Int))/\(((x1.es.length:Int)=(x1.es.length:Int))/\((0=0/\x1.es.length=x1.es.length)/\((0=0/\0=0)/\((0=0/\0=0)/\((0=0/\0=0)/\((0=0/\(Int.toNat (x1.es.length:Int)=Int.toNat (x1.es.length:Int)))/\((0=0/\(Int.toNat (x1.es.length:Int)=Int.toNat (x1.es.length:Int)))/\(((x1.es.length:Int)=(x1.es.length:Int))/\((0=0/\x1.es.length=x1.es.length)/\((0=0/\0=0)/\((0=0/\0=0)/\((0=0/\0=0)/\(True/\((0=0/\0=0)/\True)))))))))))))))/\(((RLe x1.es.length x1.es.length)/\(RowsEq [.int .i64] x1.es.length (setRow (encL encI (dAtL x1.es x4)) (0+Int.toNat (x4:Int)) 0 (D.i (x1.es.getD (0+Int.toNat (x4:Int)) default).d::@List.nil D)) (encL encI (dAtL x1.es x7))))/\(((RLe x1.es.length x1.es.length)/\(RowsEq [.int .i64,.int .i64,.int .i64] x1.es.length (D.toF (D.l x1.es.length (encL encE x1.es))) (D.toF (D.l x1.es.length (encL encE x1.es)))))/\(((RLe x1.es.length x1.es.length)/\(RowsEq [.int .i64,.int .i64,.int .i64] x1.es.length (D.toF (D.l x1.es.length (encL encE x1.es))) (D.toF (D.l x1.es.length (encL encE x1.es)))))/\((RLe 1 1/\(RowsEq [.sl [.int .i64,.int .i64,.int .i64],.sl [.sl [.int .i64]],.sl [.sl [.int .i64]]] 1 (encG x1) (encG x1)))/\True))))))))))))))/\((decide ((x4:Int)<(x1.es.length:Int))=false)->((0=0/\(Int.toNat (x1.es.length:Int)=x1.es.length))/\(((RLe x1.es.length x1.es.length)/\(RI x1.es.length (dAtL x1.es x4) (dL x1.es)))/\True))))))))))))))=(Keeps cfgN0 Tryd.f28 rtC rtI) by kernel_rfl) (fun x1=>fun h2=>⟨(by omega),
⟨(by omega),
(by omega),
(by omega)⟩,
(by omega),
((0:Nat)),
⟨(by(try dsimp only at *);omega),
⟨(by(try dsimp only at *);omega),rfl,
⟨rfl,rfl⟩,
⟨rfl,rfl⟩,
⟨rfl,rfl⟩,
⟨rfl,rfl⟩,
⟨rfl,rfl⟩,
⟨rfl,rfl⟩,rfl,
⟨rfl,rfl⟩,
⟨rfl,rfl⟩,
⟨rfl,rfl⟩,
⟨rfl,rfl⟩,trivial,
⟨rfl,rfl⟩,trivial⟩,
⟨⟨(by(try dsimp only at *);omega)⟩,
(by(try dsimp only at *);(rw[dAtL_zero];exact rows_zeroI rfl))⟩,
⟨rl,rr⟩,
⟨rl,rr⟩,
⟨rl,rr⟩,trivial⟩,
fun x4=>fun h5=>⟨fun g6=>have h6:=dT g6;⟨⟨(by(try dsimp only at *);omega),
(by(try dsimp only at *);omega)⟩,
(by(try dsimp only at *);omega),
⟨(by(try dsimp only at *);omega),
(by(try dsimp only at *);omega)⟩,
⟨(by(try dsimp only at *);omega),trivial,trivial⟩,
⟨(by(try dsimp only at *);omega),
(by(try dsimp only at *);omega)⟩,
(x4+(1:Nat)),
(by(try dsimp only at *);omega),
(by(try dsimp only at *);omega),
⟨(by(try dsimp only at *);omega),rfl,
⟨rfl,rfl⟩,
⟨rfl,rfl⟩,
⟨rfl,rfl⟩,
⟨rfl,rfl⟩,
⟨rfl,rfl⟩,
⟨rfl,rfl⟩,rfl,
⟨rfl,rfl⟩,
⟨rfl,rfl⟩,
⟨rfl,rfl⟩,
⟨rfl,rfl⟩,trivial,
⟨rfl,rfl⟩,trivial⟩,
⟨rl,
(by(try dsimp only at *);(simp only[Nat.zero_add,Int.toNat_natCast]at *;rw[dAtL_succ (by omega)];exact rows_setI (by rw[dAtL_len];omega)))⟩,
⟨rl,rr⟩,
⟨rl,rr⟩,
⟨rl,rr⟩,trivial⟩,
fun g8=>have h8:=dF g8;⟨⟨rfl,
(by(try dsimp only at *);omega)⟩,
⟨rl,
(by(try dsimp only at *);(rw[dAtL_full ‹_› ‹_›];exact rr))⟩,trivial⟩⟩⟩)
theorem rt_good:Good Tryd.prog 28 rtC/\FnOk Tryd.prog 28:=good_of tok conN0 (fn:=Tryd.f28) rfl (by decide+kernel) (fun _=>rfl) rt_keeps
def wrongC:CT where
 X:=NewX
 pre:=fun _=>True
 args:=fun x=>[.i .i64 x.n,.sl 100000 0 x.es.length]
 g0:=fun x=>[(100000,.rows .bor kE x.es.length (encL encE x.es))]
 res:=fun x=>.i .i64 (errN x)
 g1:=fun _=>[]
def wrI (x:NewX) (id:Nat):Option Inv:=match id with
 |0=>some { X:=Nat,ok:=fun k=>k<=x.es.length/\(x.es.take k).all (edVB x.n)=true,fr:=fun k=>[(5,.i .i64 k)],hp:=fun k=>[],me:=fun k=>x.es.length-k }
 |_=>none
set_option maxRecDepth 100000 in
theorem wrong_keeps:Keeps cfgN0 Tryd.f36 wrongC wrI:=Eq.mp (show((∀ x1:NewX,(True->(((decide (x1.n<(1:Int))=false)->(((decide (4096<x1.n)=true)->(((1:Int)=errN x1)/\True))/\((decide (4096<x1.n)=false)->(((decide (16384<(x1.es.length:Int))=true)->(((3:Int)=errN x1)/\True))/\((decide (16384<(x1.es.length:Int))=false)->(∃ x8:Nat,((((x8<=x1.es.length)/\(List.all (List.take x8 x1.es) (edVB x1.n)=true))/\(((0=(x8:Int))/\((decide (16384<(x1.es.length:Int))=decide (16384<(x1.es.length:Int)))/\(((x1.es.length:Int)=(x1.es.length:Int))/\((0=0/\x1.es.length=x1.es.length)/\((decide (4096<x1.n)=decide (4096<x1.n))/\((decide (4096<x1.n)=decide (4096<x1.n))/\(x1.n=x1.n/\((decide (x1.n<(1:Int))=decide (x1.n<(1:Int)))/\((decide (x1.n<(1:Int))=decide (x1.n<(1:Int)))/\(x1.n=x1.n/\(x1.n=x1.n/\((0=0/\x1.es.length=x1.es.length)/\True))))))))))))/\(((RLe x1.es.length x1.es.length)/\(RowsEq [.int .i64,.int .i64,.int .i64] x1.es.length (encL encE x1.es) (encL encE x1.es)))/\True)))/\(∀ x9:Nat,((x9<=x1.es.length/\List.all (List.take x9 x1.es) (edVB x1.n)=true)->(((decide ((x9:Int)<(x1.es.length:Int))=true)->((((0:Int)<=(x9:Int))/\((x9:Int)<(x1.es.length:Int)))/\((0+Int.toNat (x9:Int)<x1.es.length)/\(((decide ((x1.es.getD (0+Int.toNat (x9:Int)) default).f<(0:Int))=false)->(((decide (x1.n<=(x1.es.getD (0+Int.toNat (x9:Int)) default).f)=false)->(((decide ((x1.es.getD (0+Int.toNat (x9:Int)) default).t<(0:Int))=false)->(((decide (x1.n<=(x1.es.getD (0+Int.toNat (x9:Int)) default).t)=false)->(((decide ((x1.es.getD (0+Int.toNat (x9:Int)) default).d≠(4611686018427387904:Int))=true)->(((decide ((x1.es.getD (0+Int.toNat (x9:Int)) default).d<(1:Int))=false)->(((decide (1048576<(x1.es.getD (0+Int.toNat (x9:Int)) default).d)=true)->(((1:Int)=errN x1)/\True))/\((decide (1048576<(x1.es.getD (0+Int.toNat (x9:Int)) default).d)=false)->((((-9223372036854775808:Int)<=(x9:Int)+1)/\((x9:Int)+1<=(9223372036854775807:Int)))/\(∃ x20:Nat,((x1.es.length-x20<x1.es.length-x9)/\(((x20<=x1.es.length)/\(List.all (List.take x20 x1.es) (edVB x1.n)=true))/\((((x9:Int)+1=(x20:Int))/\((decide (16384<(x1.es.length:Int))=decide (16384<(x1.es.length:Int)))/\(((x1.es.length:Int)=(x1.es.length:Int))/\((0=0/\x1.es.length=x1.es.length)/\((decide (4096<x1.n)=decide (4096<x1.n))/\((decide (4096<x1.n)=decide (4096<x1.n))/\(x1.n=x1.n/\((decide (x1.n<(1:Int))=decide (x1.n<(1:Int)))/\((decide (x1.n<(1:Int))=decide (x1.n<(1:Int)))/\(x1.n=x1.n/\(x1.n=x1.n/\((0=0/\x1.es.length=x1.es.length)/\True))))))))))))/\(((RLe x1.es.length x1.es.length)/\(RowsEq [.int .i64,.int .i64,.int .i64] x1.es.length (encL encE x1.es) (encL encE x1.es)))/\True)))))))))/\((decide ((x1.es.getD (0+Int.toNat (x9:Int)) default).d<(1:Int))=true)->(((1:Int)=errN x1)/\True))))/\((decide ((x1.es.getD (0+Int.toNat (x9:Int)) default).d≠(4611686018427387904:Int))=false)->((((-9223372036854775808:Int)<=(x9:Int)+1)/\((x9:Int)+1<=(9223372036854775807:Int)))/\(∃ x23:Nat,((x1.es.length-x23<x1.es.length-x9)/\(((x23<=x1.es.length)/\(List.all (List.take x23 x1.es) (edVB x1.n)=true))/\((((x9:Int)+1=(x23:Int))/\((decide (16384<(x1.es.length:Int))=decide (16384<(x1.es.length:Int)))/\(((x1.es.length:Int)=(x1.es.length:Int))/\((0=0/\x1.es.length=x1.es.length)/\((decide (4096<x1.n)=decide (4096<x1.n))/\((decide (4096<x1.n)=decide (4096<x1.n))/\(x1.n=x1.n/\((decide (x1.n<(1:Int))=decide (x1.n<(1:Int)))/\((decide (x1.n<(1:Int))=decide (x1.n<(1:Int)))/\(x1.n=x1.n/\(x1.n=x1.n/\((0=0/\x1.es.length=x1.es.length)/\True))))))))))))/\(((RLe x1.es.length x1.es.length)/\(RowsEq [.int .i64,.int .i64,.int .i64] x1.es.length (encL encE x1.es) (encL encE x1.es)))/\True)))))))))/\((decide (x1.n<=(x1.es.getD (0+Int.toNat (x9:Int)) default).t)=true)->(((1:Int)=errN x1)/\True))))/\((decide ((x1.es.getD (0+Int.toNat (x9:Int)) default).t<(0:Int))=true)->(((1:Int)=errN x1)/\True))))/\((decide (x1.n<=(x1.es.getD (0+Int.toNat (x9:Int)) default).f)=true)->(((1:Int)=errN x1)/\True))))/\((decide ((x1.es.getD (0+Int.toNat (x9:Int)) default).f<(0:Int))=true)->(((1:Int)=errN x1)/\True))))))/\((decide ((x9:Int)<(x1.es.length:Int))=false)->(((0:Int)=errN x1)/\True))))))))))))/\((decide (x1.n<(1:Int))=true)->(((1:Int)=errN x1)/\True))))))=(Keeps cfgN0 Tryd.f36 wrongC wrI) by kernel_rfl) (fun x1=>fun h2=>⟨fun g3=>have h3:=dF g3;⟨fun g4=>have h4:=dT g4;⟨(by exact(err_range (by omega)).symm),
 trivial⟩,
fun g5=>have h5:=dF g5;⟨fun g6=>have h6:=dT g6;⟨(by exact(err_many h3 h5 (by omega)).symm),trivial⟩,
fun g7=>have h7:=dF g7;⟨((0:Nat)),
⟨⟨(by(try dsimp only at *);omega),
(by(try dsimp only at *);grind)⟩,
⟨(by(try dsimp only at *);omega),rfl,rfl,
⟨rfl,rfl⟩,rfl,rfl,rfl,rfl,rfl,rfl,rfl,
⟨rfl,rfl⟩,trivial⟩,
⟨rl,rr⟩,trivial⟩,
fun x9=>fun h10=>⟨fun g11=>have h11:=dT g11;⟨⟨(by(try dsimp only at *);omega),
(by(try dsimp only at *);omega)⟩,
(by(try dsimp only at *);omega),
fun g12=>have h12:=dF g12;⟨fun g13=>have h13:=dF g13;⟨fun g14=>have h14:=dF g14;⟨fun g15=>have h15:=dF g15;⟨fun g16=>have h16:=dT g16;⟨fun g17=>have h17:=dF g17;⟨fun g18=>have h18:=dT g18;⟨(by(try dsimp only at *);(simp only[nat0]at *;exact(err_bad (k:=x9) h3 h5 (by omega) (by omega) (by omega)).symm)),trivial⟩,
fun g19=>have h19:=dF g19;⟨⟨(by(try dsimp only at *);omega),
(by(try dsimp only at *);omega)⟩,
(x9+(1:Nat)),
(by(try dsimp only at *);omega),
⟨(by(try dsimp only at *);omega),
(by(try dsimp only at *);(simp only[nat0]at *;exact all_succ (d:=default) (by omega) h10.2 (decide_eq_true (by omega))))⟩,
⟨(by(try dsimp only at *);omega),rfl,rfl,
⟨rfl,rfl⟩,rfl,rfl,rfl,rfl,rfl,rfl,rfl,
⟨rfl,rfl⟩,trivial⟩,
⟨rl,rr⟩,trivial⟩⟩,
fun g21=>have h21:=dT g21;⟨(by(try dsimp only at *);(simp only[nat0]at *;exact(err_bad (k:=x9) h3 h5 (by omega) (by omega) (by omega)).symm)),trivial⟩⟩,
fun g22=>have h22:=dF g22;⟨⟨(by(try dsimp only at *);omega),
(by(try dsimp only at *);omega)⟩,
(x9+(1:Nat)),
(by(try dsimp only at *);omega),
⟨(by(try dsimp only at *);omega),
(by(try dsimp only at *);(simp only[nat0]at *;exact all_succ (d:=default) (by omega) h10.2 (decide_eq_true (by omega))))⟩,
⟨(by(try dsimp only at *);omega),rfl,rfl,
⟨rfl,rfl⟩,rfl,rfl,rfl,rfl,rfl,rfl,rfl,
⟨rfl,rfl⟩,trivial⟩,
⟨rl,rr⟩,trivial⟩⟩,
fun g24=>have h24:=dT g24;⟨(by(try dsimp only at *);(simp only[nat0]at *;exact(err_bad (k:=x9) h3 h5 (by omega) (by omega) (by omega)).symm)),trivial⟩⟩,
fun g25=>have h25:=dT g25;⟨(by(try dsimp only at *);(simp only[nat0]at *;exact(err_bad (k:=x9) h3 h5 (by omega) (by omega) (by omega)).symm)),trivial⟩⟩,
fun g26=>have h26:=dT g26;⟨(by(try dsimp only at *);(simp only[nat0]at *;exact(err_bad (k:=x9) h3 h5 (by omega) (by omega) (by omega)).symm)),trivial⟩⟩,
fun g27=>have h27:=dT g27;⟨(by(try dsimp only at *);(simp only[nat0]at *;exact(err_bad (k:=x9) h3 h5 (by omega) (by omega) (by omega)).symm)),trivial⟩⟩,
fun g28=>have h28:=dF g28;⟨(by(try dsimp only at *);exact(err_ok h3 h5 (by omega) (take_all h10 h28)).symm),trivial⟩⟩⟩⟩⟩,
fun g29=>have h29:=dT g29;⟨(by(try dsimp only at *);exact(err_range (by omega)).symm),trivial⟩⟩)
structure NWx where
 p:NewX
 a:Int
def nwB (x:NWx):Bool:=decide (x.p.es.length<=200/\errN x.p=0)
def lawNw (b:Bool):CT:=⟨NWx,fun x=>True/\nwB x=b,fun x=>[nA7 x.p,.i .i64 x.a],fun x=>nH7 x.p,fun _=>.b true,fun _=>[]⟩
def nwNI (x:NWx) (id:Nat):Option Inv:=match id with
 |100038=>some (cutT 38 true)
 |_=>none
def cfgNn:Cfg:=⟨T,[],[(10,.one wkC),(35,.one newC),(36,.one wrongC)],noInv,14,{}⟩
theorem nw_out {x:NWx} (h:True/\nwB x=false):¬ (x.p.es.length<=200/\errN x.p=0):=of_decide_eq_false h.2
set_option maxRecDepth 100000 in
theorem nw_no:Keeps cfgNn Tryd.f9 (lawNw false) nwNI:=Eq.mp (show((∀ x1:NWx,((True/\nwB x1=false)->(∃ x3:Unit,(True/\(True/\(True/\((false=true->(false=true/\True))/\(false=false->(((decide (200<(x1.p.es.length:Int))=true)->(true=true/\True))/\((decide (200<(x1.p.es.length:Int))=false)->(∃ x8:NewX,(True/\((x1.p.n=x8.n/\((0=0/\x1.p.es.length=x8.es.length)/\True))/\((((RLe x8.es.length x1.p.es.length)/\(RowsEq [.int .i64,.int .i64,.int .i64] x8.es.length (encL encE x1.p.es) (encL encE x8.es)))/\True)/\((∃ x9:NewX,(True/\((x1.p.n=x9.n/\((0=0/\x1.p.es.length=x9.es.length)/\True))/\((((RLe x9.es.length x1.p.es.length)/\(RowsEq [.int .i64,.int .i64,.int .i64] x9.es.length (encL encE x1.p.es) (encL encE x9.es)))/\True)/\(((decide (errN x8≠errN x9)=false)->(∃ x11:Unit,(True/\((decide (errN x8≠(0:Int))=true)/\True))))/\((decide (errN x8≠errN x9)=true)->(∃ x13:Unit,(True/\(true=true/\True)))))))))/\(∀ x14:Unit,(True->(((decide (szN x8=(0:Nat))=true)->(∃ x17:NewX,(True/\((x1.p.n=x17.n/\((0=0/\x1.p.es.length=x17.es.length)/\True))/\((((RLe x17.es.length x1.p.es.length)/\(RowsEq [.int .i64,.int .i64,.int .i64] x17.es.length (encL encE x1.p.es) (encL encE x17.es)))/\True)/\((decide (errN x8=errN x17)=true)/\True))))))/\((decide (szN x8=(0:Nat))=false)->(false=true/\True)))))))))))))))))))))=(Keeps cfgNn Tryd.f9 (lawNw false) nwNI) by kernel_rfl) (fun x1=>fun h2=>⟨(default),trivial,trivial,trivial,
fun h4=>⟨(by(try dsimp only at *);omega),trivial⟩,
fun h5=>⟨fun g6=>have h6:=dT g6;⟨rfl,trivial⟩,
fun g7=>have h7:=dF g7;⟨(NWx.p x1),trivial,
⟨rfl,
⟨rfl,rfl⟩,trivial⟩,
⟨⟨rl,rr⟩,trivial⟩,
⟨(NWx.p x1),trivial,
⟨rfl,
⟨rfl,rfl⟩,trivial⟩,
⟨⟨rl,rr⟩,trivial⟩,
fun g10=>have h10:=dF g10;⟨(default),trivial,
(by(try dsimp only at *);exact decide_eq_true (fun q=>nw_out h2 ⟨by omega,q⟩)),trivial⟩,
fun g12=>have h12:=dT g12;⟨(default),trivial,rfl,trivial⟩⟩,
fun x14=>fun h15=>⟨fun g16=>have h16:=dT g16;⟨(NWx.p x1),trivial,
⟨rfl,
⟨rfl,rfl⟩,trivial⟩,
⟨⟨rl,rr⟩,trivial⟩,
(by(try dsimp only at *);grind),trivial⟩,
fun g18=>have h18:=dF g18;⟨(by(try dsimp only at *);exact absurd (szN0 (fun q=>nw_out h2 ⟨by omega,q⟩)) ‹_›),trivial⟩⟩⟩⟩⟩)
def nwYI (x:NWx) (id:Nat):Option Inv:=match id with
 |100019=>some (cutT 19 false)
 |100038=>some (cutT 38 false)
 |100072=>some (cutT 72 false)
 | 0 => some { X := Nat, ok := fun k => k <= x.p.es.length, fr := fun k => [(76, .i .i64 k)], hp := fun _ => [], me := fun k => x.p.es.length - k,
               inn:=fun k id=>match id with
                |100102=>some (cutT 102 false)
                |_=>none }
 |_=>none
def cfgNw7:Cfg:=⟨T,[],[(10,.one wkC),(35,.one newYC),(36,.one wrongC),(28,.one rtC),(32,.one nodesC),(33,.one edgesC),(29,.one edgeC)],noInv,14,{}⟩
theorem nw_ok {x:NWx} (h:True/\nwB x=true):x.p.es.length<=200/\errN x.p=0:=of_decide_eq_true h.2
theorem nw_e {x:NWx} {k:Nat} (hk:(k:Int)<x.p.es.length):edAt ⟨x.p.g,(k:Int)⟩=x.p.es.getD (0+((k:Nat):Int).toNat) default:=by
 rw[edAt_yes (x:=⟨x.p.g,(k:Int)⟩) ⟨Int.natCast_nonneg _,hk⟩,Nat.zero_add];rfl
set_option maxRecDepth 100000 in
theorem nw_yes:Keeps cfgNw7 Tryd.f9 (lawNw true) nwYI:=Eq.mp (show((∀ x1:NWx,((True/\nwB x1=true)->(∃ x3:Unit,(True/\(True/\(True/\((false=true->(false=true/\True))/\(false=false->((∃ x6:Unit,(True/\((decide (200<(x1.p.es.length:Int))=false)/\True)))/\(∀ x7:Unit,(True->(∃ x9:NewX,((errN x9=0)/\((x1.p.n=x9.n/\((0=0/\x1.p.es.length=x9.es.length)/\True))/\((((RLe x9.es.length x1.p.es.length)/\(RowsEq [.int .i64,.int .i64,.int .i64] x9.es.length (encL encE x1.p.es) (encL encE x9.es)))/\True)/\((∃ x10:NewX,(True/\((x1.p.n=x10.n/\((0=0/\x1.p.es.length=x10.es.length)/\True))/\((((RLe x10.es.length x1.p.es.length)/\(RowsEq [.int .i64,.int .i64,.int .i64] x10.es.length (encL encE x1.p.es) (encL encE x10.es)))/\True)/\(((decide ((0:Int)≠errN x10)=false)->(∃ x12:Unit,(True/\((decide ((0:Int)≠(0:Int))=false)/\True))))/\((decide ((0:Int)≠errN x10)=true)->(∃ x14:Unit,(True/\(true=false/\True)))))))))/\(∀ x15:Unit,(True->(∃ x17:Gr,((x17.es.length<=(16384:Nat))/\(((0=0/\0=0)/\True)/\(((RLe 1 1/\(RowsEq [.sl [.int .i64,.int .i64,.int .i64],.sl [.sl [.int .i64]],.sl [.sl [.int .i64]]] 1 (encG (NewX.g x9)) (encG x17)))/\True)/\((∃ x18:Gr,(True/\(((0=0/\0=0)/\True)/\(((RLe 1 1/\(RowsEq [.sl [.int .i64,.int .i64,.int .i64],.sl [.sl [.int .i64]],.sl [.sl [.int .i64]]] 1 (encG (NewX.g x9)) (encG x18)))/\True)/\(((decide ((x18.n:Int)≠x1.p.n)=false)->(∃ x20:Gr,(True/\(((0=0/\0=0)/\True)/\(((RLe 1 1/\(RowsEq [.sl [.int .i64,.int .i64,.int .i64],.sl [.sl [.int .i64]],.sl [.sl [.int .i64]]] 1 (encG (NewX.g x9)) (encG x20)))/\True)/\(((decide ((x20.es.length:Int)≠(x1.p.es.length:Int))=false)->(∃ x22:Unit,(True/\((decide ((x17.es.length:Int)≠(x1.p.es.length:Int))=false)/\True))))/\((decide ((x20.es.length:Int)≠(x1.p.es.length:Int))=true)->(∃ x24:Unit,(True/\(true=false/\True))))))))))/\((decide ((x18.n:Int)≠x1.p.n)=true)->(∃ x26:Unit,(True/\(true=false/\True)))))))))/\(∀ x27:Unit,(True->(∃ x29:Nat,(((x29<=x1.p.es.length)/\(((0=(x29:Int))/\(((x1.p.es.length:Int)=(x1.p.es.length:Int))/\((0=0/\x1.p.es.length=x1.p.es.length)/\((0=0/\x17.es.length=x17.es.length)/\(((0:Int)=0)/\((0=0/\0=0)/\((0=0/\0=0)/\((x1.p.n=x1.p.n/\((0=0/\x1.p.es.length=x1.p.es.length)/\True))/\(x1.a=x1.a/\True)))))))))/\(((RLe x17.es.length x17.es.length)/\(RI x17.es.length (dL x17.es) (dL x17.es)))/\((RLe 1 1/\(RowsEq [.sl [.int .i64,.int .i64,.int .i64],.sl [.sl [.int .i64]],.sl [.sl [.int .i64]]] 1 (encG (NewX.g x9)) (encG (NewX.g x9))))/\((x1.p.n=x1.p.n/\((0=0/\x1.p.es.length=x1.p.es.length)/\True))/\(((RLe x1.p.es.length x1.p.es.length)/\(RowsEq [.int .i64,.int .i64,.int .i64] x1.p.es.length (encL encE x1.p.es) (encL encE x1.p.es)))/\True))))))/\(∀ x30:Nat,((x30<=x1.p.es.length)->(((decide ((x30:Int)<(x1.p.es.length:Int))=true)->((((0:Int)<=(x30:Int))/\((x30:Int)<(x1.p.es.length:Int)))/\((0+Int.toNat (x30:Int)<x1.p.es.length)/\(∃ x33:GIx,(True/\(((0=0/\0=0)/\(((x30:Int)=x33.i)/\True))/\(((RLe 1 1/\(RowsEq [.sl [.int .i64,.int .i64,.int .i64],.sl [.sl [.int .i64]],.sl [.sl [.int .i64]]] 1 (encG (NewX.g x9)) (encG x33.g)))/\True)/\(((((!(decide ((edAt x33).f=(x1.p.es.getD (0+Int.toNat (x30:Int)) default).f)&&(decide ((edAt x33).t=(x1.p.es.getD (0+Int.toNat (x30:Int)) default).t)&&(decide ((edAt x33).d=(x1.p.es.getD (0+Int.toNat (x30:Int)) default).d)&&true))))=false)->((((!decide ((0:Int)<=x33.i/\x33.i<(x33.g.es.length:Int)))=false)->((((0:Int)<=(x30:Int))/\((x30:Int)<(x17.es.length:Int)))/\((0+Int.toNat (x30:Int)<x17.es.length)/\(∃ x36:Unit,(True/\((decide ((dL x17.es).getD (0+Int.toNat (x30:Int)) default≠(x1.p.es.getD (0+Int.toNat (x30:Int)) default).d)=false)/\True))))))/\(((!decide ((0:Int)<=x33.i/\x33.i<(x33.g.es.length:Int)))=true)->(∃ x38:Unit,(True/\(true=false/\True))))))/\(((!(decide ((edAt x33).f=(x1.p.es.getD (0+Int.toNat (x30:Int)) default).f)&&(decide ((edAt x33).t=(x1.p.es.getD (0+Int.toNat (x30:Int)) default).t)&&(decide ((edAt x33).d=(x1.p.es.getD (0+Int.toNat (x30:Int)) default).d)&&true))))=true)->(∃ x40:Unit,(True/\(true=false/\True)))))/\(∀ x41:Unit,(True->((((-9223372036854775808:Int)<=(x30:Int)+1)/\((x30:Int)+1<=(9223372036854775807:Int)))/\(∃ x43:Nat,((x1.p.es.length-x43<x1.p.es.length-x30)/\((x43<=x1.p.es.length)/\((((x30:Int)+1=(x43:Int))/\(((x1.p.es.length:Int)=(x1.p.es.length:Int))/\((0=0/\x1.p.es.length=x1.p.es.length)/\((0=0/\x17.es.length=x17.es.length)/\(((0:Int)=0)/\((0=0/\0=0)/\((0=0/\0=0)/\((x1.p.n=x1.p.n/\((0=0/\x1.p.es.length=x1.p.es.length)/\True))/\(x1.a=x1.a/\True)))))))))/\(((RLe x17.es.length x17.es.length)/\(RI x17.es.length (dL x17.es) (dL x17.es)))/\((RLe 1 1/\(RowsEq [.sl [.int .i64,.int .i64,.int .i64],.sl [.sl [.int .i64]],.sl [.sl [.int .i64]]] 1 (encG (NewX.g x9)) (encG (NewX.g x9))))/\((x1.p.n=x1.p.n/\((0=0/\x1.p.es.length=x1.p.es.length)/\True))/\(((RLe x1.p.es.length x1.p.es.length)/\(RowsEq [.int .i64,.int .i64,.int .i64] x1.p.es.length (encL encE x1.p.es) (encL encE x1.p.es)))/\True)))))))))))))))))))/\((decide ((x30:Int)<(x1.p.es.length:Int))=false)->(∃ x45:GIx,(True/\(((0=0/\0=0)/\(x1.a=x45.i/\True))/\(((RLe 1 1/\(RowsEq [.sl [.int .i64,.int .i64,.int .i64],.sl [.sl [.int .i64]],.sl [.sl [.int .i64]]] 1 (encG (NewX.g x9)) (encG x45.g)))/\True)/\(((decide ((0:Int)<=x1.a)=true)->((((decide ((0:Int)<=x45.i/\x45.i<(x45.g.es.length:Int))==decide (x1.a<(x1.p.es.length:Int)))=true)->(((decide ((0:Int)<=x45.i/\x45.i<(x45.g.es.length:Int))=false)->(((decide ((edAt x45).f=(0:Int))&&(decide ((edAt x45).t=(0:Int))&&(decide ((edAt x45).d=(0:Int))&&true)))=true)/\True))/\((decide ((0:Int)<=x45.i/\x45.i<(x45.g.es.length:Int))=true)->(true=true/\True))))/\(((decide ((0:Int)<=x45.i/\x45.i<(x45.g.es.length:Int))==decide (x1.a<(x1.p.es.length:Int)))=false)->(false=true/\True))))/\((decide ((0:Int)<=x1.a)=false)->((((decide ((0:Int)<=x45.i/\x45.i<(x45.g.es.length:Int))==false)=true)->(((decide ((0:Int)<=x45.i/\x45.i<(x45.g.es.length:Int))=false)->(((decide ((edAt x45).f=(0:Int))&&(decide ((edAt x45).t=(0:Int))&&(decide ((edAt x45).d=(0:Int))&&true)))=true)/\True))/\((decide ((0:Int)<=x45.i/\x45.i<(x45.g.es.length:Int))=true)->(true=true/\True))))/\(((decide ((0:Int)<=x45.i/\x45.i<(x45.g.es.length:Int))==false)=false)->(false=true/\True)))))))))))))))))))))))))))))))))))))))))=(Keeps cfgNw7 Tryd.f9 (lawNw true) nwYI) by kernel_rfl) (fun x1=>fun h2=>⟨(default),
 trivial,trivial,trivial,
fun h4=>⟨(by(try dsimp only at *);omega),trivial⟩,
fun h5=>⟨⟨(default),trivial,
(by(try dsimp only at *);exact decide_eq_false (by have:=(nw_ok h2).1;omega)),trivial⟩,
fun x7=>fun h8=>⟨(NWx.p x1),
(by(try dsimp only at *);exact(nw_ok h2).2),
⟨rfl,
⟨rfl,rfl⟩,trivial⟩,
⟨⟨rl,rr⟩,trivial⟩,
⟨(NWx.p x1),trivial,
⟨rfl,
⟨rfl,rfl⟩,trivial⟩,
⟨⟨rl,rr⟩,trivial⟩,
fun g11=>have h11:=dF g11;⟨(default),trivial,
(by(try dsimp only at *);assumption),trivial⟩,
fun g13=>have h13:=dT g13;⟨(default),trivial,
(by(try dsimp only at *);exact absurd (nw_ok h2).2.symm ‹_›),trivial⟩⟩,
fun x15=>fun h16=>⟨(NewX.g (NWx.p x1)),
(by(try dsimp only at *);(have:=(nw_ok h2).1;show x1.p.es.length<=16384;omega)),
⟨⟨rfl,rfl⟩,trivial⟩,
⟨⟨rl,rr⟩,trivial⟩,
⟨(NewX.g (NWx.p x1)),trivial,
⟨⟨rfl,rfl⟩,trivial⟩,
⟨⟨rl,rr⟩,trivial⟩,
fun g19=>have h19:=dF g19;⟨(NewX.g (NWx.p x1)),trivial,
⟨⟨rfl,rfl⟩,trivial⟩,
⟨⟨rl,rr⟩,trivial⟩,
fun g21=>have h21:=dF g21;⟨(default),trivial,
(by(try dsimp only at *);omega),trivial⟩,
fun g23=>have h23:=dT g23;⟨(default),trivial,
(by(try dsimp only at *);exact absurd rfl ‹_›),trivial⟩⟩,
fun g25=>have h25:=dT g25;⟨(default),trivial,
(by(try dsimp only at *);exact absurd (err_g (nw_ok h2).2).2.2 ‹_›),trivial⟩⟩,
fun x27=>fun h28=>⟨((0:Nat)),
⟨(by(try dsimp only at *);omega),
⟨(by(try dsimp only at *);omega),rfl,
⟨rfl,rfl⟩,
⟨rfl,rfl⟩,rfl,
⟨rfl,rfl⟩,
⟨rfl,rfl⟩,
⟨rfl,
⟨rfl,rfl⟩,trivial⟩,rfl,trivial⟩,
⟨rl,rr⟩,
⟨rl,rr⟩,
⟨rfl,
⟨rfl,rfl⟩,trivial⟩,
⟨rl,rr⟩,trivial⟩,
fun x30=>fun h31=>⟨fun g32=>have h32:=dT g32;⟨⟨(by(try dsimp only at *);omega),
(by(try dsimp only at *);omega)⟩,
(by(try dsimp only at *);omega),
({ g:=NewX.g (NWx.p x1),i:=(↑x30:Int):GIx }),trivial,
⟨⟨rfl,rfl⟩,rfl,trivial⟩,
⟨⟨rl,rr⟩,trivial⟩,
⟨fun h34=>⟨fun g35=>have h35:=nF g35;⟨⟨(by(try dsimp only at *);omega),
(by(try dsimp only at *);omega)⟩,
(by(try dsimp only at *);omega),
(default),trivial,
(by(try dsimp only at *);exact decide_eq_false (fun q=>q (by rw[nat0];exact dL_at (es:=x1.p.es) (by omega)))),trivial⟩,
fun g37=>have h37:=nT g37;⟨(default),trivial,
(by
       exact absurd (show(0:Int)<=(x30:Int)/\(x30:Int)<x1.p.es.length from⟨by omega,h32⟩) h37),trivial⟩⟩,
fun h39=>⟨(default),trivial,
(by
       (rw[nw_e h32]at h39;simp at h39)),trivial⟩⟩,
fun x41=>fun h42=>⟨⟨(by(try dsimp only at *);omega),
(by(try dsimp only at *);(have:=(nw_ok h2).1;omega))⟩,
(x30+(1:Nat)),
(by(try dsimp only at *);omega),
(by(try dsimp only at *);omega),
⟨(by(try dsimp only at *);omega),rfl,
⟨rfl,rfl⟩,
⟨rfl,rfl⟩,rfl,
⟨rfl,rfl⟩,
⟨rfl,rfl⟩,
⟨rfl,
⟨rfl,rfl⟩,trivial⟩,rfl,trivial⟩,
⟨rl,rr⟩,
⟨rl,rr⟩,
⟨rfl,
⟨rfl,rfl⟩,trivial⟩,
⟨rl,rr⟩,trivial⟩⟩,
fun g44=>have h44:=dF g44;⟨({ g:=NewX.g (NWx.p x1),i:=NWx.a x1:GIx }),trivial,
⟨⟨rfl,rfl⟩,rfl,trivial⟩,
⟨⟨rl,rr⟩,trivial⟩,
fun g46=>have h46:=dT g46;⟨fun h47=>⟨fun g48=>have h48:=dF g48;⟨(by(try dsimp only at *);(rw[edAt_no ‹_›];rfl)),trivial⟩,
fun g49=>have h49:=dT g49;⟨rfl,trivial⟩⟩,
fun h50 => ⟨(by
       (have e:decide (0<=x1.a/\x1.a<(x1.p.es.length:Int))=decide (x1.a<(x1.p.es.length:Int)):=decide_eq_decide.2 ⟨fun q=>q.2,fun q=>⟨h46,q⟩⟩;exact absurd (h50.symm.trans ((congrArg (· ==decide (x1.a<(x1.p.es.length:Int))) e).trans (beq_self_eq_true _))) (by decide))),trivial⟩⟩,
fun g51=>have h51:=dF g51;⟨fun h52=>⟨fun g53=>have h53:=dF g53;⟨(by(try dsimp only at *);(rw[edAt_no ‹_›];rfl)),trivial⟩,
fun g54=>have h54:=dT g54;⟨rfl,trivial⟩⟩,
fun h55=>⟨(by(try dsimp only at *);grind),trivial⟩⟩⟩⟩⟩⟩⟩⟩⟩)
end Go.Sym