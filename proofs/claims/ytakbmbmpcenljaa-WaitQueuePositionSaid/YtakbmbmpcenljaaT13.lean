import Derived.Test.YtakbmbmpcenljaaT12
import Derived.Test.YtakbmbmpcenljaaXD
namespace Go.Sym
set_option linter.unusedVariables false
set_option linter.unusedSimpArgs false
open Go.Proofs
set_option maxRecDepth 100000
set_option maxHeartbeats 4000000
def plcF (l:List Cl) (k:Int):Int:=if k∈idsC l then posC l k else -1
def wpC:CT where
 X:=Wx
 pre:=fun x=>x.q.l.length<=1000
 args:=fun x=>[.p 100000 0 0,.i .i64 x.k]
 g0:=fun x=>rmH 100000 .bor .bor x.q
 res:=fun x=>.i .i64 (plcF x.q.l x.k)
 g1:=fun _=>[]
def wpI (x:Wx) (id:Nat):Option Inv:=match id with
 |0=>some { X:=Nat,ok:=fun k=>k<=x.q.l.length/\∀ i,i<k->(x.q.l.getD i default).id≠x.k,fr:=fun k=>[(5,.i .i64 k)],hp:=fun _=>[],me:=fun k=>x.q.l.length-k }
 |_=>none
theorem plc_yes {l:List Cl} {k:Nat} {c:Int} (h:k<=l.length/\∀ i,i<k->(l.getD i default).id≠c) (hk:(k:Int)<l.length) (e:(l.getD (0+(k:Int).toNat) default).id=c):plcF l c=k:=by
 rw[nat0]at e
 have h2:k<l.length:=by omega
 have h1:c∈idsC l:=e▸mem_idsC h2
 unfold plcF
 rw[if_pos h1]
 have:posC l c=k:=by
  unfold posC
  refine(List.findIdx_eq h2).2 ⟨?_,fun j hj=>?_⟩
  ·have:l.getD k default=l[k]:=by rw[List.getD_eq_getElem?_getD,List.getElem?_eq_getElem h2];rfl
   rw[<- this];exact decide_eq_true e
  ·have hj2:j<l.length:=by omega
   have:l.getD j default=l[j]:=by rw[List.getD_eq_getElem?_getD,List.getElem?_eq_getElem hj2];rfl
   rw[<- this];exact decide_eq_false (h.2 j hj)
 rw[this]
theorem plc_no {l:List Cl} {k:Nat} {c:Int} (h:k<=l.length/\∀ i,i<k->(l.getD i default).id≠c) (hk:¬ (k:Int)<l.length):plcF l c= -1:=by
 unfold plcF
 rw[if_neg]
 intro q
 obtain⟨p1,p2⟩:=posC_lt q
 exact h.2 _ (by omega) p2
set_option maxRecDepth 100000 in
theorem wp_keeps:Keeps cfgN0 Try.f38 wpC wpI:=Eq.mp (show((∀ x1:Wx,((x1.q.l.length<=(1000:Nat))->(∃ x3:Nat,((((x3<=x1.q.l.length)/\(∀ i4:Nat,((i4<x3)->((x1.q.l.getD i4 default).id≠x1.k))))/\(((0=(x3:Int))/\((0=0/\0=0)/\(x1.k=x1.k/\True)))/\((x1.q.most=x1.q.most/\(x1.q.ages=x1.q.ages/\((0=0/\x1.q.l.length=x1.q.l.length)/\True)))/\(((RLe x1.q.l.length x1.q.l.length)/\(RowsEq [.int .i64,.int .i64,.int .i64] x1.q.l.length (encL encC x1.q.l) (encL encC x1.q.l)))/\True))))/\(∀ x6:Nat,((x6<=x1.q.l.length/\∀(i:Nat),i<x6->(x1.q.l.getD i default).id≠x1.k)->(((decide ((x6:Int)<(x1.q.l.length:Int))=true)->((((0:Int)<=(x6:Int))/\((x6:Int)<(x1.q.l.length:Int)))/\((0+Int.toNat (x6:Int)<x1.q.l.length)/\(((decide ((x1.q.l.getD (0+Int.toNat (x6:Int)) default).id=x1.k)=true)->(((x6:Int)=plcF x1.q.l x1.k)/\True))/\((decide ((x1.q.l.getD (0+Int.toNat (x6:Int)) default).id=x1.k)=false)->((((-9223372036854775808:Int)<=(x6:Int)+1)/\((x6:Int)+1<=(9223372036854775807:Int)))/\(∃ x11:Nat,((x1.q.l.length-x11<x1.q.l.length-x6)/\(((x11<=x1.q.l.length)/\(∀ i12:Nat,((i12<x11)->((x1.q.l.getD i12 default).id≠x1.k))))/\((((x6:Int)+1=(x11:Int))/\((0=0/\0=0)/\(x1.k=x1.k/\True)))/\((x1.q.most=x1.q.most/\(x1.q.ages=x1.q.ages/\((0=0/\x1.q.l.length=x1.q.l.length)/\True)))/\(((RLe x1.q.l.length x1.q.l.length)/\(RowsEq [.int .i64,.int .i64,.int .i64] x1.q.l.length (encL encC x1.q.l) (encL encC x1.q.l)))/\True))))))))))))/\((decide ((x6:Int)<(x1.q.l.length:Int))=false)->(((-1:Int)=plcF x1.q.l x1.k)/\True))))))))))=(Keeps cfgN0 Try.f38 wpC wpI) by kernel_rfl) (fun x1=>fun h2=>⟨((0:Nat)),
⟨⟨(by(try dsimp only at *);omega),
fun i4=>fun h5=>(by(try dsimp only at *);omega)⟩,
⟨(by(try dsimp only at *);omega),
⟨rfl,rfl⟩,rfl,trivial⟩,
⟨rfl,rfl,
⟨rfl,rfl⟩,trivial⟩,
⟨rl,rr⟩,trivial⟩,
fun x6=>fun h7=>⟨fun g8=>have h8:=dT g8;⟨⟨(by(try dsimp only at *);omega),
(by(try dsimp only at *);omega)⟩,
(by(try dsimp only at *);omega),
fun g9=>have h9:=dT g9;⟨(by(try dsimp only at *);exact(plc_yes ‹_› ‹_› ‹_›).symm),trivial⟩,
fun g10=>have h10:=dF g10;⟨⟨(by(try dsimp only at *);omega),
(by(try dsimp only at *);omega)⟩,
(x6+(1:Nat)),
(by(try dsimp only at *);omega),
⟨(by(try dsimp only at *);omega),
fun i12=>fun h13=>(by(try dsimp only at *);grind)⟩,
⟨(by(try dsimp only at *);omega),
⟨rfl,rfl⟩,rfl,trivial⟩,
⟨rfl,rfl,
⟨rfl,rfl⟩,trivial⟩,
⟨rl,rr⟩,trivial⟩⟩,
fun g14=>have h14:=dF g14;⟨(by(try dsimp only at *);exact(plc_no ‹_› ‹_›).symm),trivial⟩⟩⟩)
theorem wp_good:Good Try.prog 38 wpC/\FnOk Try.prog 38:=good_of tok conN0 (fn:=Try.f38) rfl (by decide+kernel) (fun _=>rfl) wp_keeps
def wnC:CT where
 X:=Nx
 pre:=fun _=>True
 args:=fun x=>[.i .i64 x.most,.i .i64 x.ages]
 g0:=fun _=>[]
 res:=fun x=>.tup [.p 1 0 0,.b (decide (okN x))]
 g1:=fun x=>rmH 1 .own .own ⟨x.most,x.ages,[]⟩
def cfgWn:Cfg:=⟨T,[],[(29,.one (uC 1099511627776))],noInv,20,{}⟩
theorem conWn:ConOk Try.prog cfgWn:=ConL.ok (.cons (ConL.one mo_good) .nil)
set_option maxRecDepth 100000 in
theorem wn_keeps:Keeps cfgWn Try.f12 wnC noIv:=Eq.mp (show((∀ x1:Nx,(True->(((decide ((0:Int)<=x1.most)=true)->(((decide ((1:Int)<=x1.ages)=true)->(∃ x5:Unit,(True/\(True/\(True/\(((0=0/\0=0)/\((decide (x1.ages<=(1099511627776:Int))=decide (okN x1))/\True))/\((x1.most=x1.most/\(x1.ages=x1.ages/\((True/\(0=0/\((@List.nil Cl).length=(0:Nat))))/\True)))/\(((@List.nil Cl).length=(0:Nat))/\True))))))))/\((decide ((1:Int)<=x1.ages)=false)->(((0=0/\0=0)/\((false=decide (okN x1))/\True))/\((x1.most=x1.most/\(x1.ages=x1.ages/\((True/\(0=0/\((@List.nil Cl).length=(0:Nat))))/\True)))/\(((@List.nil Cl).length=(0:Nat))/\True))))))/\((decide ((0:Int)<=x1.most)=false)->(((0=0/\0=0)/\((false=decide (okN x1))/\True))/\((x1.most=x1.most/\(x1.ages=x1.ages/\((True/\(0=0/\((@List.nil Cl).length=(0:Nat))))/\True)))/\(((@List.nil Cl).length=(0:Nat))/\True))))))))=(Keeps cfgWn Try.f12 wnC noIv) by kernel_rfl) (fun x1=>fun h2=>⟨fun g3=>have h3:=dT g3;⟨fun g4=>have h4:=dT g4;⟨(default),trivial,trivial,trivial,
⟨⟨rfl,rfl⟩,
(by(try dsimp only at *);(refine decide_eq_decide.2 ?_;unfold okN;omega)),trivial⟩,
⟨rfl,rfl,
⟨trivial,rfl,
(by(try dsimp only at *);grind)⟩,trivial⟩,
(by(try dsimp only at *);grind),trivial⟩,
fun g6=>have h6:=dF g6;⟨⟨⟨rfl,rfl⟩,
(by(try dsimp only at *);(refine(decide_eq_false ?_).symm;unfold okN;omega)),trivial⟩,
⟨rfl,rfl,
⟨trivial,rfl,
(by(try dsimp only at *);grind)⟩,trivial⟩,
(by(try dsimp only at *);grind),trivial⟩⟩,
fun g7=>have h7:=dF g7;⟨⟨⟨rfl,rfl⟩,
(by(try dsimp only at *);(refine(decide_eq_false ?_).symm;unfold okN;omega)),trivial⟩,
⟨rfl,rfl,
⟨trivial,rfl,
(by(try dsimp only at *);grind)⟩,trivial⟩,
(by(try dsimp only at *);grind),trivial⟩⟩)
theorem wn_good:Good Try.prog 12 wnC/\FnOk Try.prog 12:=good_of tok conWn (fn:=Try.f12) rfl (by decide+kernel) (fun _=>rfl) wn_keeps
def rmM (q:Qs):List (Nat × Blk):=[(100000,.one .own [.i .i64 q.most,.i .i64 q.ages,.sl 1 0 q.l.length]),(1,.rows .own kC q.l.length (encL encC q.l)),(100001,.dead)]
def waC:CT where
 X:=Ax
 pre:=fun x=>x.q.l.length<=1000
 args:=fun x=>[.p 100000 0 0,.i .i64 x.k,.i .i64 x.u,.i .i64 x.s]
 g0:=fun x=>rmH 100000 .own .own x.q
 res:=fun x=>.i .i64 (addR x.q.l x.k x.u x.s)
 g1:=fun x=>rmM { x.q with l:=addL x.q.l x.k x.u x.s }
theorem plc_mem {l:List Cl} {k:Int} (h:0<=plcF l k):k∈idsC l:=by
 unfold plcF at h
 split at h
 ·assumption
 ·omega
theorem plc_out {l:List Cl} {k:Int} (h:¬ 0<=plcF l k):k∉idsC l:=by
 intro q;unfold plcF at h;rw[if_pos q]at h;omega
theorem plc_eq {l:List Cl} {k:Int} (h:k∈idsC l):plcF l k=posC l k:=if_pos h
theorem push0_rowsC {l:List Cl} {v:Cl}:RowsEq kC (l++[v]).length (appRows (0+l.length) (appRows 0 (litRows []) 0 (encL encC l)) 0 (litRows [[.i v.id,.i v.urg,.i v.since]])) (encL encC (l++[v])):=
 rowsEq_pushOf (rowsEq_nil (ys:=l) (by omega) (fun i _=>by rw[Nat.zero_add];exact rowEq_rfl _ _ _)) (by simp) (by simp) ⟨rfl,rfl,rfl,trivial⟩
theorem set_rowsC {l:List Cl} {p:Nat} (h:p<l.length) {k u:Int} (hk:k=p) {v:Cl} (hv:v={ l.getD p default with urg:=u }):RowsEq kC l.length (setRow (encL encC l) (0+k.toNat) 1 [.i u]) (encL encC (l.set p v)):=by
 subst hk hv
 rw[nat0]
 exact rowsEq_set h ⟨rfl,rfl,rfl,trivial⟩
theorem del_rows {l:List Cl} {p:Nat} (h:p<l.length) {k:Int} (hk:k=p):RowsEq kC (l.take p++l.drop (p+1)).length (appRows (0+(k.toNat-Int.toNat 0)) (appRows 0 (litRows []) (0+Int.toNat 0) (encL encC l)) (0+(k+1).toNat) (encL encC l)) (encL encC (l.take p++l.drop (p+1))):=by
 subst hk
 have e1:0+((p:Int).toNat-Int.toNat 0)=p:=by simp
 have e2:0+((p:Int)+1).toNat=p+1:=by omega
 rw[e1,e2]
 refine rowsEq_appOf (xs:=l.take p) (rowsEq_nil (by rw[List.length_take];omega) fun i hi=>?_) (by rw[List.length_take];omega) (by rw[List.length_append];exact Nat.le_refl _) fun i hi=>?_
 ·rw[List.length_take]at hi
  have:(l.take p).getD i default=l.getD i default:=by rw[List.getD_eq_getElem?_getD,List.getElem?_take_of_lt (by omega),List.getD_eq_getElem?_getD]
  rw[this];simp only[Int.toNat_zero,Nat.zero_add];exact rowEq_rfl _ _ _
 ·have:(l.drop (p+1)).getD i default=l.getD (p+1+i) default:=by rw[List.getD_eq_getElem?_getD,List.getElem?_drop,List.getD_eq_getElem?_getD]
  rw[this];exact rowEq_rfl _ _ _
theorem plc_mem2 {l:List Cl} {k:Int} (h:¬ plcF l k<0):k∈idsC l:=plc_mem (by omega)
theorem plc_out2 {l:List Cl} {k:Int} (h:plcF l k<0):k∉idsC l:=plc_out (by omega)
theorem getC_none {l:List Cl} {k:Int} (h:k∉idsC l):getC l k=⟨0,0,0⟩:=by unfold getC;rw[posC_not h,List.getD_eq_getElem?_getD,List.getElem?_eq_none (Nat.le_refl _)];rfl
def cfgWa:Cfg:=⟨T,[],[(29,.one (uC 1099511627776)),(38,.one wpC)],noInv,40,{}⟩
theorem conWa:ConOk Try.prog cfgWa:=ConL.ok (.cons (ConL.one mo_good) (.cons (ConL.one wp_good) .nil))
set_option maxRecDepth 100000 in
theorem wa_keeps:Keeps cfgWa Try.f30 waC noIv:=Eq.mp (show((∀ x1:Ax,((x1.q.l.length<=(1000:Nat))->(((decide (x1.k<(1:Int))=false)->(((decide (x1.u<(1:Int))=false)->(((decide (5<x1.u)=false)->(((decide (x1.s<(0:Int))=false)->(∃ x7:Unit,(True/\(True/\(True/\(((decide (1099511627776<x1.s)=true)->(((1:Int)=addR x1.q.l x1.k x1.u x1.s)/\((x1.q.most=x1.q.most/\(x1.q.ages=x1.q.ages/\((0=0/\(x1.q.l.length=(addL x1.q.l x1.k x1.u x1.s).length))/\True)))/\(((RLe (addL x1.q.l x1.k x1.u x1.s).length x1.q.l.length)/\(RowsEq [.int .i64,.int .i64,.int .i64] (addL x1.q.l x1.k x1.u x1.s).length (encL encC x1.q.l) (encL encC (addL x1.q.l x1.k x1.u x1.s))))/\(True/\True)))))/\((decide (1099511627776<x1.s)=false)->(∃ x10:Wx,((x10.q.l.length<=(1000:Nat))/\(((0=0/\0=0)/\(x1.k=x10.k/\True))/\(((x1.q.most=x10.q.most/\(x1.q.ages=x10.q.ages/\((0=0/\x1.q.l.length=x10.q.l.length)/\True)))/\(((RLe x10.q.l.length x1.q.l.length)/\(RowsEq [.int .i64,.int .i64,.int .i64] x10.q.l.length (encL encC x1.q.l) (encL encC x10.q.l)))/\True))/\(((decide ((0:Int)<=plcF x10.q.l x10.k)=true)->(((5:Int)=addR x1.q.l x1.k x1.u x1.s)/\((x1.q.most=x1.q.most/\(x1.q.ages=x1.q.ages/\((0=0/\(x1.q.l.length=(addL x1.q.l x1.k x1.u x1.s).length))/\True)))/\(((RLe (addL x1.q.l x1.k x1.u x1.s).length x1.q.l.length)/\(RowsEq [.int .i64,.int .i64,.int .i64] (addL x1.q.l x1.k x1.u x1.s).length (encL encC x1.q.l) (encL encC (addL x1.q.l x1.k x1.u x1.s))))/\(True/\True)))))/\((decide ((0:Int)<=plcF x10.q.l x10.k)=false)->(True/\((0=0/\(((0:Nat)<=(0:Nat))/\(((0:Nat)+x1.q.l.length<=x1.q.l.length)/\((0:Nat)+x1.q.l.length<=(5864062014805:Nat)))))/\(((True/\(True/\(True/\True)))/\True)/\((0=0/\(((0:Nat)+x1.q.l.length<=(0:Nat)+x1.q.l.length)/\(((1:Nat)<=(1:Nat))/\((0:Nat)+x1.q.l.length+(1:Nat)<=(5864062014805:Nat)))))/\(((0:Int)=addR x1.q.l x1.k x1.u x1.s)/\((x1.q.most=x1.q.most/\(x1.q.ages=x1.q.ages/\((0=0/\((0:Nat)+x1.q.l.length+(1:Nat)=(addL x1.q.l x1.k x1.u x1.s).length))/\True)))/\(((RLe (addL x1.q.l x1.k x1.u x1.s).length ((0:Nat)+x1.q.l.length+(1:Nat)))/\(RowsEq [.int .i64,.int .i64,.int .i64] (addL x1.q.l x1.k x1.u x1.s).length (appRows ((0:Nat)+x1.q.l.length) (appRows 0 (litRows (@List.nil (List D))) 0 (encL encC x1.q.l)) 0 (litRows ((D.i x1.k::D.i x1.u::D.i x1.s::@List.nil D)::@List.nil (List D)))) (encL encC (addL x1.q.l x1.k x1.u x1.s))))/\(True/\True)))))))))))))))))))))/\((decide (x1.s<(0:Int))=true)->(((1:Int)=addR x1.q.l x1.k x1.u x1.s)/\((x1.q.most=x1.q.most/\(x1.q.ages=x1.q.ages/\((0=0/\(x1.q.l.length=(addL x1.q.l x1.k x1.u x1.s).length))/\True)))/\(((RLe (addL x1.q.l x1.k x1.u x1.s).length x1.q.l.length)/\(RowsEq [.int .i64,.int .i64,.int .i64] (addL x1.q.l x1.k x1.u x1.s).length (encL encC x1.q.l) (encL encC (addL x1.q.l x1.k x1.u x1.s))))/\(True/\True)))))))/\((decide (5<x1.u)=true)->(((1:Int)=addR x1.q.l x1.k x1.u x1.s)/\((x1.q.most=x1.q.most/\(x1.q.ages=x1.q.ages/\((0=0/\(x1.q.l.length=(addL x1.q.l x1.k x1.u x1.s).length))/\True)))/\(((RLe (addL x1.q.l x1.k x1.u x1.s).length x1.q.l.length)/\(RowsEq [.int .i64,.int .i64,.int .i64] (addL x1.q.l x1.k x1.u x1.s).length (encL encC x1.q.l) (encL encC (addL x1.q.l x1.k x1.u x1.s))))/\(True/\True)))))))/\((decide (x1.u<(1:Int))=true)->(((1:Int)=addR x1.q.l x1.k x1.u x1.s)/\((x1.q.most=x1.q.most/\(x1.q.ages=x1.q.ages/\((0=0/\(x1.q.l.length=(addL x1.q.l x1.k x1.u x1.s).length))/\True)))/\(((RLe (addL x1.q.l x1.k x1.u x1.s).length x1.q.l.length)/\(RowsEq [.int .i64,.int .i64,.int .i64] (addL x1.q.l x1.k x1.u x1.s).length (encL encC x1.q.l) (encL encC (addL x1.q.l x1.k x1.u x1.s))))/\(True/\True)))))))/\((decide (x1.k<(1:Int))=true)->(((1:Int)=addR x1.q.l x1.k x1.u x1.s)/\((x1.q.most=x1.q.most/\(x1.q.ages=x1.q.ages/\((0=0/\(x1.q.l.length=(addL x1.q.l x1.k x1.u x1.s).length))/\True)))/\(((RLe (addL x1.q.l x1.k x1.u x1.s).length x1.q.l.length)/\(RowsEq [.int .i64,.int .i64,.int .i64] (addL x1.q.l x1.k x1.u x1.s).length (encL encC x1.q.l) (encL encC (addL x1.q.l x1.k x1.u x1.s))))/\(True/\True)))))))))=(Keeps cfgWa Try.f30 waC noIv) by kernel_rfl) (fun x1=>fun h2=>⟨fun g3=>have h3:=dF g3;⟨fun g4=>have h4:=dF g4;⟨fun g5=>have h5:=dF g5;⟨fun g6=>have h6:=dF g6;⟨(default),
 trivial,trivial,trivial,
fun g8=>have h8:=dT g8;⟨(by(try dsimp only at *);(have e:=add_no (l:=x1.q.l) (k:=x1.k) (u:=x1.u) (s:=x1.s) (by unfold badC;omega);first|exact e.2.symm|(rw[e.1];done)|(rw[e.1];exact Nat.le_refl _)|(simp only[e.1];exact rr))),
⟨rfl,rfl,
⟨rfl,
(by(try dsimp only at *);(have e:=add_no (l:=x1.q.l) (k:=x1.k) (u:=x1.u) (s:=x1.s) (by unfold badC;omega);first|exact e.2.symm|(rw[e.1];done)|(rw[e.1];exact Nat.le_refl _)|(simp only[e.1];exact rr)))⟩,trivial⟩,
⟨⟨(by(try dsimp only at *);(have e:=add_no (l:=x1.q.l) (k:=x1.k) (u:=x1.u) (s:=x1.s) (by unfold badC;omega);first|exact e.2.symm|(rw[e.1];done)|(rw[e.1];exact Nat.le_refl _)|(simp only[e.1];exact rr)))⟩,
(by(try dsimp only at *);(have e:=add_no (l:=x1.q.l) (k:=x1.k) (u:=x1.u) (s:=x1.s) (by unfold badC;omega);first|exact e.2.symm|(rw[e.1];done)|(rw[e.1];exact Nat.le_refl _)|(simp only[e.1];exact rr)))⟩,trivial,trivial⟩,
fun g9=>have h9:=dF g9;⟨({ q:=Ax.q x1,k:=Ax.k x1,now:=default:Wx }),
(by(try dsimp only at *);omega),
⟨⟨rfl,rfl⟩,rfl,trivial⟩,
⟨⟨rfl,rfl,
⟨rfl,rfl⟩,trivial⟩,
⟨rl,rr⟩,trivial⟩,
fun g11=>have h11:=dT g11;⟨(by(try dsimp only at *);(have e:=add_in (l:=x1.q.l) (k:=x1.k) (u:=x1.u) (s:=x1.s) (by unfold badC;omega) (plc_mem ‹0<=plcF _ _›);first|exact e.2.symm|(simp only[e.1];done)|(simp only[e.1];exact Nat.le_refl _)|(simp only[e.1];exact rr))),
⟨rfl,rfl,
⟨rfl,
(by(try dsimp only at *);(have e:=add_in (l:=x1.q.l) (k:=x1.k) (u:=x1.u) (s:=x1.s) (by unfold badC;omega) (plc_mem ‹0<=plcF _ _›);first|exact e.2.symm|(simp only[e.1];done)|(simp only[e.1];exact Nat.le_refl _)|(simp only[e.1];exact rr)))⟩,trivial⟩,
⟨⟨(by(try dsimp only at *);(have e:=add_in (l:=x1.q.l) (k:=x1.k) (u:=x1.u) (s:=x1.s) (by unfold badC;omega) (plc_mem ‹0<=plcF _ _›);first|exact e.2.symm|(simp only[e.1];done)|(simp only[e.1];exact Nat.le_refl _)|(simp only[e.1];exact rr)))⟩,
(by(try dsimp only at *);(have e:=add_in (l:=x1.q.l) (k:=x1.k) (u:=x1.u) (s:=x1.s) (by unfold badC;omega) (plc_mem ‹0<=plcF _ _›);first|exact e.2.symm|(simp only[e.1];done)|(simp only[e.1];exact Nat.le_refl _)|(simp only[e.1];exact rr)))⟩,trivial,trivial⟩,
fun g12=>have h12:=dF g12;⟨trivial,
⟨rfl,
(by(try dsimp only at *);omega),
(by(try dsimp only at *);omega),
(by(try dsimp only at *);omega)⟩,
⟨⟨trivial,trivial,trivial,trivial⟩,trivial⟩,
⟨rfl,
(by(try dsimp only at *);omega),
(by(try dsimp only at *);omega),
(by(try dsimp only at *);omega)⟩,
(by(try dsimp only at *);(have e:=add_yes (l:=x1.q.l) (k:=x1.k) (u:=x1.u) (s:=x1.s) (by unfold badC;omega) (plc_out ‹¬ 0<=plcF _ _›);first|exact e.2.symm|(simp only[e.1,List.length_append,List.length_cons,List.length_nil];omega)|(simp only[e.1];exact push0_rowsC (v:=⟨x1.k,x1.u,x1.s⟩)))),
⟨rfl,rfl,
⟨rfl,
(by(try dsimp only at *);(have e:=add_yes (l:=x1.q.l) (k:=x1.k) (u:=x1.u) (s:=x1.s) (by unfold badC;omega) (plc_out ‹¬ 0<=plcF _ _›);first|exact e.2.symm|(simp only[e.1,List.length_append,List.length_cons,List.length_nil];omega)|(simp only[e.1];exact push0_rowsC (v:=⟨x1.k,x1.u,x1.s⟩))))⟩,trivial⟩,
⟨⟨(by(try dsimp only at *);(have e:=add_yes (l:=x1.q.l) (k:=x1.k) (u:=x1.u) (s:=x1.s) (by unfold badC;omega) (plc_out ‹¬ 0<=plcF _ _›);first|exact e.2.symm|(simp only[e.1,List.length_append,List.length_cons,List.length_nil];omega)|(simp only[e.1];exact push0_rowsC (v:=⟨x1.k,x1.u,x1.s⟩))))⟩,
(by(try dsimp only at *);(have e:=add_yes (l:=x1.q.l) (k:=x1.k) (u:=x1.u) (s:=x1.s) (by unfold badC;omega) (plc_out ‹¬ 0<=plcF _ _›);first|exact e.2.symm|(simp only[e.1,List.length_append,List.length_cons,List.length_nil];omega)|(simp only[e.1];exact push0_rowsC (v:=⟨x1.k,x1.u,x1.s⟩))))⟩,trivial,trivial⟩⟩⟩,
fun g13=>have h13:=dT g13;⟨(by(try dsimp only at *);(have e:=add_no (l:=x1.q.l) (k:=x1.k) (u:=x1.u) (s:=x1.s) (by unfold badC;omega);first|exact e.2.symm|(rw[e.1];done)|(rw[e.1];exact Nat.le_refl _)|(simp only[e.1];exact rr))),
⟨rfl,rfl,
⟨rfl,
(by(try dsimp only at *);(have e:=add_no (l:=x1.q.l) (k:=x1.k) (u:=x1.u) (s:=x1.s) (by unfold badC;omega);first|exact e.2.symm|(rw[e.1];done)|(rw[e.1];exact Nat.le_refl _)|(simp only[e.1];exact rr)))⟩,trivial⟩,
⟨⟨(by(try dsimp only at *);(have e:=add_no (l:=x1.q.l) (k:=x1.k) (u:=x1.u) (s:=x1.s) (by unfold badC;omega);first|exact e.2.symm|(rw[e.1];done)|(rw[e.1];exact Nat.le_refl _)|(simp only[e.1];exact rr)))⟩,
(by(try dsimp only at *);(have e:=add_no (l:=x1.q.l) (k:=x1.k) (u:=x1.u) (s:=x1.s) (by unfold badC;omega);first|exact e.2.symm|(rw[e.1];done)|(rw[e.1];exact Nat.le_refl _)|(simp only[e.1];exact rr)))⟩,trivial,trivial⟩⟩,
fun g14=>have h14:=dT g14;⟨(by(try dsimp only at *);(have e:=add_no (l:=x1.q.l) (k:=x1.k) (u:=x1.u) (s:=x1.s) (by unfold badC;omega);first|exact e.2.symm|(rw[e.1];done)|(rw[e.1];exact Nat.le_refl _)|(simp only[e.1];exact rr))),
⟨rfl,rfl,
⟨rfl,
(by(try dsimp only at *);(have e:=add_no (l:=x1.q.l) (k:=x1.k) (u:=x1.u) (s:=x1.s) (by unfold badC;omega);first|exact e.2.symm|(rw[e.1];done)|(rw[e.1];exact Nat.le_refl _)|(simp only[e.1];exact rr)))⟩,trivial⟩,
⟨⟨(by(try dsimp only at *);(have e:=add_no (l:=x1.q.l) (k:=x1.k) (u:=x1.u) (s:=x1.s) (by unfold badC;omega);first|exact e.2.symm|(rw[e.1];done)|(rw[e.1];exact Nat.le_refl _)|(simp only[e.1];exact rr)))⟩,
(by(try dsimp only at *);(have e:=add_no (l:=x1.q.l) (k:=x1.k) (u:=x1.u) (s:=x1.s) (by unfold badC;omega);first|exact e.2.symm|(rw[e.1];done)|(rw[e.1];exact Nat.le_refl _)|(simp only[e.1];exact rr)))⟩,trivial,trivial⟩⟩,
fun g15=>have h15:=dT g15;⟨(by(try dsimp only at *);(have e:=add_no (l:=x1.q.l) (k:=x1.k) (u:=x1.u) (s:=x1.s) (by unfold badC;omega);first|exact e.2.symm|(rw[e.1];done)|(rw[e.1];exact Nat.le_refl _)|(simp only[e.1];exact rr))),
⟨rfl,rfl,
⟨rfl,
(by(try dsimp only at *);(have e:=add_no (l:=x1.q.l) (k:=x1.k) (u:=x1.u) (s:=x1.s) (by unfold badC;omega);first|exact e.2.symm|(rw[e.1];done)|(rw[e.1];exact Nat.le_refl _)|(simp only[e.1];exact rr)))⟩,trivial⟩,
⟨⟨(by(try dsimp only at *);(have e:=add_no (l:=x1.q.l) (k:=x1.k) (u:=x1.u) (s:=x1.s) (by unfold badC;omega);first|exact e.2.symm|(rw[e.1];done)|(rw[e.1];exact Nat.le_refl _)|(simp only[e.1];exact rr)))⟩,
(by(try dsimp only at *);(have e:=add_no (l:=x1.q.l) (k:=x1.k) (u:=x1.u) (s:=x1.s) (by unfold badC;omega);first|exact e.2.symm|(rw[e.1];done)|(rw[e.1];exact Nat.le_refl _)|(simp only[e.1];exact rr)))⟩,trivial,trivial⟩⟩,
fun g16=>have h16:=dT g16;⟨(by(try dsimp only at *);(have e:=add_no (l:=x1.q.l) (k:=x1.k) (u:=x1.u) (s:=x1.s) (by unfold badC;omega);first|exact e.2.symm|(rw[e.1];done)|(rw[e.1];exact Nat.le_refl _)|(simp only[e.1];exact rr))),
⟨rfl,rfl,
⟨rfl,
(by(try dsimp only at *);(have e:=add_no (l:=x1.q.l) (k:=x1.k) (u:=x1.u) (s:=x1.s) (by unfold badC;omega);first|exact e.2.symm|(rw[e.1];done)|(rw[e.1];exact Nat.le_refl _)|(simp only[e.1];exact rr)))⟩,trivial⟩,
⟨⟨(by(try dsimp only at *);(have e:=add_no (l:=x1.q.l) (k:=x1.k) (u:=x1.u) (s:=x1.s) (by unfold badC;omega);first|exact e.2.symm|(rw[e.1];done)|(rw[e.1];exact Nat.le_refl _)|(simp only[e.1];exact rr)))⟩,
(by(try dsimp only at *);(have e:=add_no (l:=x1.q.l) (k:=x1.k) (u:=x1.u) (s:=x1.s) (by unfold badC;omega);first|exact e.2.symm|(rw[e.1];done)|(rw[e.1];exact Nat.le_refl _)|(simp only[e.1];exact rr)))⟩,trivial,trivial⟩⟩)
theorem wa_good:Good Try.prog 30 waC/\FnOk Try.prog 30:=good_of tok conWa (fn:=Try.f30) rfl (by decide+kernel) (fun _=>rfl) wa_keeps
def wkC:CT where
 X:=Ax
 pre:=fun x=>x.q.l.length<=1000
 args:=fun x=>[.p 100000 0 0,.i .i64 x.k,.i .i64 x.u]
 g0:=fun x=>rmH 100000 .bor .own x.q
 res:=fun x=>.i .i64 (setR x.q.l x.k x.u)
 g1:=fun x=>[(100001,.rows .own kC x.q.l.length (encL encC (setL x.q.l x.k x.u)))]
set_option maxRecDepth 100000 in
theorem wk_keeps:Keeps cfgWa Try.f31 wkC noIv:=Eq.mp (show((∀ x1:Ax,((x1.q.l.length<=(1000:Nat))->(((decide (x1.u<(1:Int))=false)->(((decide (5<x1.u)=true)->(((1:Int)=setR x1.q.l x1.k x1.u)/\(((RLe x1.q.l.length x1.q.l.length)/\(RowsEq [.int .i64,.int .i64,.int .i64] x1.q.l.length (encL encC x1.q.l) (encL encC (setL x1.q.l x1.k x1.u))))/\True)))/\((decide (5<x1.u)=false)->(∃ x6:Wx,((x6.q.l.length<=(1000:Nat))/\(((0=0/\0=0)/\(x1.k=x6.k/\True))/\(((x1.q.most=x6.q.most/\(x1.q.ages=x6.q.ages/\((0=0/\x1.q.l.length=x6.q.l.length)/\True)))/\(((RLe x6.q.l.length x1.q.l.length)/\(RowsEq [.int .i64,.int .i64,.int .i64] x6.q.l.length (encL encC x1.q.l) (encL encC x6.q.l)))/\True))/\(((decide (plcF x6.q.l x6.k<(0:Int))=true)->(((4:Int)=setR x1.q.l x1.k x1.u)/\(((RLe x1.q.l.length x1.q.l.length)/\(RowsEq [.int .i64,.int .i64,.int .i64] x1.q.l.length (encL encC x1.q.l) (encL encC (setL x1.q.l x1.k x1.u))))/\True)))/\((decide (plcF x6.q.l x6.k<(0:Int))=false)->((((0:Int)<=plcF x6.q.l x6.k)/\(plcF x6.q.l x6.k<(x1.q.l.length:Int)))/\(((0+Int.toNat (plcF x6.q.l x6.k)<x1.q.l.length)/\(True/\True))/\(((0:Int)=setR x1.q.l x1.k x1.u)/\(((RLe x1.q.l.length x1.q.l.length)/\(RowsEq [.int .i64,.int .i64,.int .i64] x1.q.l.length (setRow (encL encC x1.q.l) (0+Int.toNat (plcF x6.q.l x6.k)) 1 (D.i x1.u::@List.nil D)) (encL encC (setL x1.q.l x1.k x1.u))))/\True)))))))))))))/\((decide (x1.u<(1:Int))=true)->(((1:Int)=setR x1.q.l x1.k x1.u)/\(((RLe x1.q.l.length x1.q.l.length)/\(RowsEq [.int .i64,.int .i64,.int .i64] x1.q.l.length (encL encC x1.q.l) (encL encC (setL x1.q.l x1.k x1.u))))/\True)))))))=(Keeps cfgWa Try.f31 wkC noIv) by kernel_rfl) (fun x1=>fun h2=>⟨fun g3=>have h3:=dF g3;⟨fun g4=>have h4:=dT g4;⟨(by(have e:=set_no (l:=x1.q.l) (k:=x1.k) (u:=x1.u) (by unfold badU;omega);first|exact e.2.symm|(rw[e.1];done)|(rw[e.1];exact Nat.le_refl _)|(simp only[e.1];exact rr))),
⟨rl,
(by(have e:=set_no (l:=x1.q.l) (k:=x1.k) (u:=x1.u) (by unfold badU;omega);first|exact e.2.symm|(rw[e.1];done)|(rw[e.1];exact Nat.le_refl _)|(simp only[e.1];exact rr)))⟩,trivial⟩,
fun g5=>have h5:=dF g5;⟨({ q:=Ax.q x1,k:=Ax.k x1,now:=default:Wx }),
(by(try dsimp only at *);omega),
⟨⟨rfl,rfl⟩,rfl,trivial⟩,
⟨⟨rfl,rfl,
⟨rfl,rfl⟩,trivial⟩,
⟨rl,rr⟩,trivial⟩,
fun g7=>have h7:=dT g7;⟨(by(try dsimp only at *);(have e:=set_out (l:=x1.q.l) (k:=x1.k) (u:=x1.u) (by unfold badU;omega) (plc_out2 ‹plcF _ _<0›);first|exact e.2.symm|(simp only[e.1];exact rr))),
⟨rl,
(by(try dsimp only at *);(have e:=set_out (l:=x1.q.l) (k:=x1.k) (u:=x1.u) (by unfold badU;omega) (plc_out2 ‹plcF _ _<0›);first|exact e.2.symm|(simp only[e.1];exact rr)))⟩,trivial⟩,
fun g8=>have h8:=dF g8;⟨⟨(by(try dsimp only at *);omega),
(by(try dsimp only at *);(have e0:=plc_mem2 ‹¬ plcF _ _<0›;have e:=set_yes (l:=x1.q.l) (k:=x1.k) (u:=x1.u) (by unfold badU;omega) e0;have e2:=plc_eq e0;have e3:=(posC_lt e0).1;first|exact e.2.symm|(simp only[e2]at *;omega)|(simp only[e.1];exact set_rowsC e3 e2 rfl)))⟩,
⟨(by(try dsimp only at *);(have e0:=plc_mem2 ‹¬ plcF _ _<0›;have e:=set_yes (l:=x1.q.l) (k:=x1.k) (u:=x1.u) (by unfold badU;omega) e0;have e2:=plc_eq e0;have e3:=(posC_lt e0).1;first|exact e.2.symm|(simp only[e2]at *;omega)|(simp only[e.1];exact set_rowsC e3 e2 rfl))),trivial,trivial⟩,
(by(try dsimp only at *);(have e0:=plc_mem2 ‹¬ plcF _ _<0›;have e:=set_yes (l:=x1.q.l) (k:=x1.k) (u:=x1.u) (by unfold badU;omega) e0;have e2:=plc_eq e0;have e3:=(posC_lt e0).1;first|exact e.2.symm|(simp only[e2]at *;omega)|(simp only[e.1];exact set_rowsC e3 e2 rfl))),
⟨rl,
(by(try dsimp only at *);(have e0:=plc_mem2 ‹¬ plcF _ _<0›;have e:=set_yes (l:=x1.q.l) (k:=x1.k) (u:=x1.u) (by unfold badU;omega) e0;have e2:=plc_eq e0;have e3:=(posC_lt e0).1;first|exact e.2.symm|(simp only[e2]at *;omega)|(simp only[e.1];exact set_rowsC e3 e2 rfl)))⟩,trivial⟩⟩⟩,
fun g9=>have h9:=dT g9;⟨(by(try dsimp only at *);(have e:=set_no (l:=x1.q.l) (k:=x1.k) (u:=x1.u) (by unfold badU;omega);first|exact e.2.symm|(rw[e.1];done)|(rw[e.1];exact Nat.le_refl _)|(simp only[e.1];exact rr))),
⟨rl,
(by(try dsimp only at *);(have e:=set_no (l:=x1.q.l) (k:=x1.k) (u:=x1.u) (by unfold badU;omega);first|exact e.2.symm|(rw[e.1];done)|(rw[e.1];exact Nat.le_refl _)|(simp only[e.1];exact rr)))⟩,trivial⟩⟩)
theorem wk_good:Good Try.prog 31 wkC/\FnOk Try.prog 31:=good_of tok conWa (fn:=Try.f31) rfl (by decide+kernel) (fun _=>rfl) wk_keeps
def wdC:CT where
 X:=Ax
 pre:=fun x=>x.q.l.length<=1000
 args:=fun x=>[.p 100000 0 0,.i .i64 x.k]
 g0:=fun x=>rmH 100000 .own .own x.q
 res:=fun x=>.b (decide (x.k∈idsC x.q.l))
 g1:=fun x=>rmM { x.q with l:=delL x.q.l x.k }
set_option maxRecDepth 100000 in
theorem wd_keeps:Keeps cfgWa Try.f32 wdC noIv:=Eq.mp (show((∀ x1:Ax,((x1.q.l.length<=(1000:Nat))->(∃ x3:Wx,((x3.q.l.length<=(1000:Nat))/\(((0=0/\0=0)/\(x1.k=x3.k/\True))/\(((x1.q.most=x3.q.most/\(x1.q.ages=x3.q.ages/\((0=0/\x1.q.l.length=x3.q.l.length)/\True)))/\(((RLe x3.q.l.length x1.q.l.length)/\(RowsEq [.int .i64,.int .i64,.int .i64] x3.q.l.length (encL encC x1.q.l) (encL encC x3.q.l)))/\True))/\(((decide (plcF x3.q.l x3.k<(0:Int))=true)->((false=decide (x1.k∈idsC x1.q.l))/\((x1.q.most=x1.q.most/\(x1.q.ages=x1.q.ages/\((0=0/\(x1.q.l.length=(delL x1.q.l x1.k).length))/\True)))/\(((RLe (delL x1.q.l x1.k).length x1.q.l.length)/\(RowsEq [.int .i64,.int .i64,.int .i64] (delL x1.q.l x1.k).length (encL encC x1.q.l) (encL encC (delL x1.q.l x1.k))))/\(True/\True)))))/\((decide (plcF x3.q.l x3.k<(0:Int))=false)->(True/\((((0:Int)<=(0:Int))/\(((0:Int)<=plcF x3.q.l x3.k)/\(plcF x3.q.l x3.k<=(x1.q.l.length:Int))))/\((0=0/\(((0:Nat)<=(0:Nat))/\((0+Int.toNat (0:Int)+(Int.toNat (plcF x3.q.l x3.k)-Int.toNat (0:Int))<=x1.q.l.length)/\((0:Nat)+(Int.toNat (plcF x3.q.l x3.k)-Int.toNat (0:Int))<=(5864062014805:Nat)))))/\((((-9223372036854775808:Int)<=plcF x3.q.l x3.k+1)/\(plcF x3.q.l x3.k+1<=(9223372036854775807:Int)))/\((((0:Int)<=plcF x3.q.l x3.k+1)/\((plcF x3.q.l x3.k+1<=(x1.q.l.length:Int))/\((x1.q.l.length:Int)<=(x1.q.l.length:Int))))/\((0=0/\(((0:Nat)+(Int.toNat (plcF x3.q.l x3.k)-Int.toNat (0:Int))<=(0:Nat)+(Int.toNat (plcF x3.q.l x3.k)-Int.toNat (0:Int)))/\((0+Int.toNat (plcF x3.q.l x3.k+1)+(Int.toNat (x1.q.l.length:Int)-Int.toNat (plcF x3.q.l x3.k+1))<=x1.q.l.length)/\((0:Nat)+(Int.toNat (plcF x3.q.l x3.k)-Int.toNat (0:Int))+(Int.toNat (x1.q.l.length:Int)-Int.toNat (plcF x3.q.l x3.k+1))<=(5864062014805:Nat)))))/\((true=decide (x1.k∈idsC x1.q.l))/\((x1.q.most=x1.q.most/\(x1.q.ages=x1.q.ages/\((0=0/\((0:Nat)+(Int.toNat (plcF x3.q.l x3.k)-Int.toNat (0:Int))+(Int.toNat (x1.q.l.length:Int)-Int.toNat (plcF x3.q.l x3.k+1))=(delL x1.q.l x1.k).length))/\True)))/\(((RLe (delL x1.q.l x1.k).length ((0:Nat)+(Int.toNat (plcF x3.q.l x3.k)-Int.toNat (0:Int))+(Int.toNat (x1.q.l.length:Int)-Int.toNat (plcF x3.q.l x3.k+1))))/\(RowsEq [.int .i64,.int .i64,.int .i64] (delL x1.q.l x1.k).length (appRows ((0:Nat)+(Int.toNat (plcF x3.q.l x3.k)-Int.toNat (0:Int))) (appRows 0 (litRows (@List.nil (List D))) (0+Int.toNat (0:Int)) (encL encC x1.q.l)) (0+Int.toNat (plcF x3.q.l x3.k+1)) (encL encC x1.q.l)) (encL encC (delL x1.q.l x1.k))))/\(True/\True)))))))))))))))))))=(Keeps cfgWa Try.f32 wdC noIv) by kernel_rfl) (fun x1=>fun h2=>⟨({ q:=Ax.q x1,k:=Ax.k x1,now:=default:Wx }),
(by(try dsimp only at *);omega),
⟨⟨rfl,rfl⟩,rfl,trivial⟩,
⟨⟨rfl,rfl,
⟨rfl,rfl⟩,trivial⟩,
⟨rl,rr⟩,trivial⟩,
fun g4=>have h4:=dT g4;⟨(by(try dsimp only at *);(have e0:=plc_out2 ‹plcF _ _<0›;have e:=del_no (l:=x1.q.l) (k:=x1.k) e0;first|exact(decide_eq_false e0).symm|(rw[e];done)|(rw[e];exact Nat.le_refl _)|(simp only[e];exact rr))),
⟨rfl,rfl,
⟨rfl,
(by(try dsimp only at *);(have e0:=plc_out2 ‹plcF _ _<0›;have e:=del_no (l:=x1.q.l) (k:=x1.k) e0;first|exact(decide_eq_false e0).symm|(rw[e];done)|(rw[e];exact Nat.le_refl _)|(simp only[e];exact rr)))⟩,trivial⟩,
⟨⟨(by(try dsimp only at *);(have e0:=plc_out2 ‹plcF _ _<0›;have e:=del_no (l:=x1.q.l) (k:=x1.k) e0;first|exact(decide_eq_false e0).symm|(rw[e];done)|(rw[e];exact Nat.le_refl _)|(simp only[e];exact rr)))⟩,
(by(try dsimp only at *);(have e0:=plc_out2 ‹plcF _ _<0›;have e:=del_no (l:=x1.q.l) (k:=x1.k) e0;first|exact(decide_eq_false e0).symm|(rw[e];done)|(rw[e];exact Nat.le_refl _)|(simp only[e];exact rr)))⟩,trivial,trivial⟩,
fun g5=>have h5:=dF g5;⟨trivial,
⟨(by(try dsimp only at *);omega),
(by(try dsimp only at *);omega),
(by(try dsimp only at *);(have e0:=plc_mem2 ‹¬ plcF _ _<0›;have e:=del_yes (l:=x1.q.l) (k:=x1.k) e0;have e2:=plc_eq e0;have e3:=(posC_lt e0).1;first|exact(decide_eq_true e0).symm|(simp only[e,e2,List.length_append,List.length_take,List.length_drop]at *;omega)|(simp only[e];exact del_rows e3 e2)))⟩,
⟨rfl,
(by(try dsimp only at *);omega),
(by(try dsimp only at *);(have e0:=plc_mem2 ‹¬ plcF _ _<0›;have e:=del_yes (l:=x1.q.l) (k:=x1.k) e0;have e2:=plc_eq e0;have e3:=(posC_lt e0).1;first|exact(decide_eq_true e0).symm|(simp only[e,e2,List.length_append,List.length_take,List.length_drop]at *;omega)|(simp only[e];exact del_rows e3 e2))),
(by(try dsimp only at *);(have e0:=plc_mem2 ‹¬ plcF _ _<0›;have e:=del_yes (l:=x1.q.l) (k:=x1.k) e0;have e2:=plc_eq e0;have e3:=(posC_lt e0).1;first|exact(decide_eq_true e0).symm|(simp only[e,e2,List.length_append,List.length_take,List.length_drop]at *;omega)|(simp only[e];exact del_rows e3 e2)))⟩,
⟨(by(try dsimp only at *);omega),
(by(try dsimp only at *);(have e0:=plc_mem2 ‹¬ plcF _ _<0›;have e:=del_yes (l:=x1.q.l) (k:=x1.k) e0;have e2:=plc_eq e0;have e3:=(posC_lt e0).1;first|exact(decide_eq_true e0).symm|(simp only[e,e2,List.length_append,List.length_take,List.length_drop]at *;omega)|(simp only[e];exact del_rows e3 e2)))⟩,
⟨(by(try dsimp only at *);omega),
(by(try dsimp only at *);(have e0:=plc_mem2 ‹¬ plcF _ _<0›;have e:=del_yes (l:=x1.q.l) (k:=x1.k) e0;have e2:=plc_eq e0;have e3:=(posC_lt e0).1;first|exact(decide_eq_true e0).symm|(simp only[e,e2,List.length_append,List.length_take,List.length_drop]at *;omega)|(simp only[e];exact del_rows e3 e2))),
(by(try dsimp only at *);omega)⟩,
⟨rfl,
(by(try dsimp only at *);omega),
(by(try dsimp only at *);(have e0:=plc_mem2 ‹¬ plcF _ _<0›;have e:=del_yes (l:=x1.q.l) (k:=x1.k) e0;have e2:=plc_eq e0;have e3:=(posC_lt e0).1;first|exact(decide_eq_true e0).symm|(simp only[e,e2,List.length_append,List.length_take,List.length_drop]at *;omega)|(simp only[e];exact del_rows e3 e2))),
(by(try dsimp only at *);(have e0:=plc_mem2 ‹¬ plcF _ _<0›;have e:=del_yes (l:=x1.q.l) (k:=x1.k) e0;have e2:=plc_eq e0;have e3:=(posC_lt e0).1;first|exact(decide_eq_true e0).symm|(simp only[e,e2,List.length_append,List.length_take,List.length_drop]at *;omega)|(simp only[e];exact del_rows e3 e2)))⟩,
(by(try dsimp only at *);(have e0:=plc_mem2 ‹¬ plcF _ _<0›;have e:=del_yes (l:=x1.q.l) (k:=x1.k) e0;have e2:=plc_eq e0;have e3:=(posC_lt e0).1;first|exact(decide_eq_true e0).symm|(simp only[e,e2,List.length_append,List.length_take,List.length_drop]at *;omega)|(simp only[e];exact del_rows e3 e2))),
⟨rfl,rfl,
⟨rfl,
(by(try dsimp only at *);(have e0:=plc_mem2 ‹¬ plcF _ _<0›;have e:=del_yes (l:=x1.q.l) (k:=x1.k) e0;have e2:=plc_eq e0;have e3:=(posC_lt e0).1;first|exact(decide_eq_true e0).symm|(simp only[e,e2,List.length_append,List.length_take,List.length_drop]at *;omega)|(simp only[e];exact del_rows e3 e2)))⟩,trivial⟩,
⟨⟨(by(try dsimp only at *);(have e0:=plc_mem2 ‹¬ plcF _ _<0›;have e:=del_yes (l:=x1.q.l) (k:=x1.k) e0;have e2:=plc_eq e0;have e3:=(posC_lt e0).1;first|exact(decide_eq_true e0).symm|(simp only[e,e2,List.length_append,List.length_take,List.length_drop]at *;omega)|(simp only[e];exact del_rows e3 e2)))⟩,
(by(try dsimp only at *);(have e0:=plc_mem2 ‹¬ plcF _ _<0›;have e:=del_yes (l:=x1.q.l) (k:=x1.k) e0;have e2:=plc_eq e0;have e3:=(posC_lt e0).1;first|exact(decide_eq_true e0).symm|(simp only[e,e2,List.length_append,List.length_take,List.length_drop]at *;omega)|(simp only[e];exact del_rows e3 e2)))⟩,trivial,trivial⟩⟩)
theorem wd_good:Good Try.prog 32 wdC/\FnOk Try.prog 32:=good_of tok conWa (fn:=Try.f32) rfl (by decide+kernel) (fun _=>rfl) wd_keeps
def wgC:CT where
 X:=Ax
 pre:=fun x=>x.q.l.length<=1000
 args:=fun x=>[.p 100000 0 0,.i .i64 x.k]
 g0:=fun x=>rmH 100000 .bor .bor x.q
 res:=fun x=>.tup [clV (getC x.q.l x.k),.b (decide (x.k∈idsC x.q.l))]
 g1:=fun _=>[]
set_option maxRecDepth 100000 in
theorem wg_keeps:Keeps cfgWa Try.f23 wgC noIv:=Eq.mp (show((∀ x1:Ax,((x1.q.l.length<=(1000:Nat))->(∃ x3:Wx,((x3.q.l.length<=(1000:Nat))/\(((0=0/\0=0)/\(x1.k=x3.k/\True))/\(((x1.q.most=x3.q.most/\(x1.q.ages=x3.q.ages/\((0=0/\x1.q.l.length=x3.q.l.length)/\True)))/\(((RLe x3.q.l.length x1.q.l.length)/\(RowsEq [.int .i64,.int .i64,.int .i64] x3.q.l.length (encL encC x1.q.l) (encL encC x3.q.l)))/\True))/\(((decide (plcF x3.q.l x3.k<(0:Int))=true)->((((0=(getC x1.q.l x1.k).id)/\((0=(getC x1.q.l x1.k).urg)/\((0=(getC x1.q.l x1.k).since)/\True)))/\((false=decide (x1.k∈idsC x1.q.l))/\True))/\True))/\((decide (plcF x3.q.l x3.k<(0:Int))=false)->((((0:Int)<=plcF x3.q.l x3.k)/\(plcF x3.q.l x3.k<(x1.q.l.length:Int)))/\((0+Int.toNat (plcF x3.q.l x3.k)<x1.q.l.length)/\(((((x1.q.l.getD (0+Int.toNat (plcF x3.q.l x3.k)) default).id=(getC x1.q.l x1.k).id)/\(((x1.q.l.getD (0+Int.toNat (plcF x3.q.l x3.k)) default).urg=(getC x1.q.l x1.k).urg)/\(((x1.q.l.getD (0+Int.toNat (plcF x3.q.l x3.k)) default).since=(getC x1.q.l x1.k).since)/\True)))/\((true=decide (x1.k∈idsC x1.q.l))/\True))/\True))))))))))))=(Keeps cfgWa Try.f23 wgC noIv) by kernel_rfl) (fun x1=>fun h2=>⟨({ q:=Ax.q x1,k:=Ax.k x1,now:=default:Wx }),
(by(try dsimp only at *);omega),
⟨⟨rfl,rfl⟩,rfl,trivial⟩,
⟨⟨rfl,rfl,
⟨rfl,rfl⟩,trivial⟩,
⟨rl,rr⟩,trivial⟩,
fun g4=>have h4:=dT g4;⟨⟨⟨(by(try dsimp only at *);(have e0:=plc_out2 ‹plcF _ _<0›;have e:=getC_none e0;first|exact(decide_eq_false e0).symm|(rw[e];done))),
(by(try dsimp only at *);(have e0:=plc_out2 ‹plcF _ _<0›;have e:=getC_none e0;first|exact(decide_eq_false e0).symm|(rw[e];done))),
(by(try dsimp only at *);(have e0:=plc_out2 ‹plcF _ _<0›;have e:=getC_none e0;first|exact(decide_eq_false e0).symm|(rw[e];done))),trivial⟩,
(by(try dsimp only at *);(have e0:=plc_out2 ‹plcF _ _<0›;have e:=getC_none e0;first|exact(decide_eq_false e0).symm|(rw[e];done))),trivial⟩,trivial⟩,
fun g5=>have h5:=dF g5;⟨⟨(by(try dsimp only at *);omega),
(by(try dsimp only at *);(have e0:=plc_mem2 ‹¬ plcF _ _<0›;have e2:=plc_eq e0;have e3:=(posC_lt e0).1;first|exact(decide_eq_true e0).symm|(simp only[e2]at *;omega)|(simp only[e2,nat0];rfl)))⟩,
(by(try dsimp only at *);(have e0:=plc_mem2 ‹¬ plcF _ _<0›;have e2:=plc_eq e0;have e3:=(posC_lt e0).1;first|exact(decide_eq_true e0).symm|(simp only[e2]at *;omega)|(simp only[e2,nat0];rfl))),
⟨⟨(by(try dsimp only at *);(have e0:=plc_mem2 ‹¬ plcF _ _<0›;have e2:=plc_eq e0;have e3:=(posC_lt e0).1;first|exact(decide_eq_true e0).symm|(simp only[e2]at *;omega)|(simp only[e2,nat0];rfl))),
(by(try dsimp only at *);(have e0:=plc_mem2 ‹¬ plcF _ _<0›;have e2:=plc_eq e0;have e3:=(posC_lt e0).1;first|exact(decide_eq_true e0).symm|(simp only[e2]at *;omega)|(simp only[e2,nat0];rfl))),
(by(try dsimp only at *);(have e0:=plc_mem2 ‹¬ plcF _ _<0›;have e2:=plc_eq e0;have e3:=(posC_lt e0).1;first|exact(decide_eq_true e0).symm|(simp only[e2]at *;omega)|(simp only[e2,nat0];rfl))),trivial⟩,
(by(try dsimp only at *);(have e0:=plc_mem2 ‹¬ plcF _ _<0›;have e2:=plc_eq e0;have e3:=(posC_lt e0).1;first|exact(decide_eq_true e0).symm|(simp only[e2]at *;omega)|(simp only[e2,nat0];rfl))),trivial⟩,trivial⟩⟩)
theorem wg_good:Good Try.prog 23 wgC/\FnOk Try.prog 23:=good_of tok conWa (fn:=Try.f23) rfl (by decide+kernel) (fun _=>rfl) wg_keeps
end Go.Sym