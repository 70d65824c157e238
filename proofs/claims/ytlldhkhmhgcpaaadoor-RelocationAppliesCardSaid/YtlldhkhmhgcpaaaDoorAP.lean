import Derived.Test.YtlldhkhmhgcpaaaDoorFP
import Derived.Test.YtlldhkhmhgcpaaaDoorSX
import Derived.Test.YtlldhkhmhgcpaaaDoorXD
namespace Go.Sym
set_option linter.unusedVariables false
set_option linter.unusedSimpArgs false
open Go.Proofs Go.RowKit
set_option maxRecDepth 100000
set_option maxHeartbeats 8000000
structure IdX where
 us:List Un
 l:List Mv
def idN (x:IdX):Nat:=if okMs x.us x.l then x.l.length else 0
def idL (x:IdX):List Int:=idxA x.us x.l x.l.length
def idC:CT where
 X:=IdX
 pre:=fun x=>x.us.length<=1000/\x.l.length<=1000
 args:=fun x=>[.sl 100000 0 x.us.length,.sl 100001 0 x.l.length]
 g0:=fun x=>[(100000,.rows .bor kU x.us.length (encL encU x.us)),(100001,.rows .bor kM x.l.length (encL encM x.l))]
 res:=fun x=>.tup [.sl 1 0 (idN x),.b (okMs x.us x.l)]
 g1:=fun x=>[(1,.rows .own k1 (idN x) (encL encI (idL x)))]
def mP (us:List Un) (i:Int) (_:Nat):D:=.i (fndU us i)
def posV (us:List Un) (i:Int):Int:=(if i∈idsT us us.length then mP us i 0 else D.i 0).toI
def idP (x:IdX) (i:Nat):List Int:=idxA x.us x.l i++List.replicate (x.l.length-i) default
def idOk (x:IdX) (i:Nat):Prop:=i<=x.l.length/\dstU x.us=true/\∀ j,j<i->okM x.us x.l j
def okA (us:List Un) (l:List Mv) (i:Nat):Prop:=0<=fndU us (l.getD i default).1/\(us.getD (fndU us (l.getD i default).1).toNat default).st=1/\(i=0∨(l.getD (i-1) default).1<(l.getD i default).1)
def okB (us:List Un) (l:List Mv) (i:Nat):Prop:=(0<=(l.getD i default).2/\(l.getD i default).2<4096)/\(l.getD i default).2≠(us.getD (fndU us (l.getD i default).1).toNat default).nd
instance (us:List Un) (l:List Mv) (i:Nat):Decidable (okA us l i):=by unfold okA;infer_instance
instance (us:List Un) (l:List Mv) (i:Nat):Decidable (okB us l i):=by unfold okB;infer_instance
theorem okM_ab {us:List Un} {l:List Mv} {i:Nat}:okM us l i↔okA us l i/\okB us l i:=by
 unfold okM okA okB
 constructor
 ·rintro⟨a,b,c,d⟩;exact⟨⟨a,b,c⟩,d⟩
 ·rintro⟨⟨a,b,c⟩,d⟩;exact⟨a,b,c,d⟩
theorem mem_fnd {us:List Un} {i:Int}:i∈idsT us us.length↔0<=fndU us i:=by
 unfold idsT
 rw[List.take_length,List.mem_map]
 rcases fnd_cases us i with⟨k,h1,h2,h3,h4⟩|⟨h1,h2⟩
 ·rw[h2]
  refine⟨fun _=>by omega,fun _=>⟨us.getD k default,?_,h3⟩⟩
  rw[List.getD_eq_getElem?_getD,List.getElem?_eq_getElem h1]
  exact List.getElem_mem _
 ·rw[h1]
  refine⟨fun⟨u,hu,e⟩=>?_,fun q=>by omega⟩
  obtain⟨j,hj,rfl⟩:=List.getElem_of_mem hu
  refine absurd ?_ (h2 j hj)
  rw[List.getD_eq_getElem?_getD,List.getElem?_eq_getElem hj]
  exact e
theorem pos_y {us:List Un} {i:Int} (h:i∈idsT us us.length):posV us i=fndU us i/\0<=fndU us i:=by
 unfold posV
 rw[if_pos h]
 exact⟨rfl,mem_fnd.1 h⟩
theorem fnd_lt {us:List Un} {i:Int} (h:0<=fndU us i):(fndU us i).toNat<us.length:=by
 rcases fnd_cases us i with⟨k,h1,h2,_⟩|⟨h1,_⟩
 ·omega
 ·omega
theorem di_all {us:List Un} (h:dstU us=true):(us.map (·.id)).Nodup:=of_decide_eq_true h
theorem id_m {us:List Un} {k:Nat} (hd:dstU us=true) (hk:(k:Int)<us.length) {g:Nat->D} (hg:g 0= .i (k:Int)):MapEq k1 (madd1 (idsT us k) (us.getD (0+(k:Int).toNat) default).id) (idsT us (k+1)) (mset (mP us) (us.getD (0+(k:Int).toNat) default).id g) (mP us):=by
 have hk':k<us.length:=by omega
 have hn:(idsT us (k+1)).Nodup:=(di_all hd).sublist ((List.take_sublist (k+1) us).map _)
 rw[ids_s hk',List.nodup_append]at hn
 have hn2:(us.getD k default).id∉idsT us k:=fun q=>hn.2.2 _ q _ (List.mem_singleton.2 rfl) rfl
 rw[nat0]
 refine⟨?_,fun x hx=>?_⟩
 ·unfold madd1
  rw[if_neg hn2,ids_s hk']
  first|done|exact List.Perm.refl _|exact(List.perm_append_singleton _ _).symm
 ·simp only[mset]
  split
  ·rename_i e
   refine⟨?_,trivial⟩
   show(g 0).toI=(mP us x 0).toI
   rw[hg]
   show(k:Int)=fndU us x
   rw[e]
   refine(fnd_some hk' rfl fun j hj q=>hn2 ?_).symm
   unfold idsT
   rw[List.mem_map]
   refine⟨us.getD j default,?_,q⟩
   rw[List.getD_eq_getElem?_getD,List.getElem?_eq_getElem (by omega)]
   exact List.mem_take_iff_getElem.2 ⟨j,by omega,rfl⟩
  ·exact rowEq_rfl _ _ _
theorem id_m0 (us:List Un):MapEq k1 [] (idsT us 0) (fun _ j=>zRow k1 j) (mP us):=⟨List.Perm.refl _,fun k hk=>by cases hk⟩
theorem idP_len {x:IdX} {i:Nat} (h:i<=x.l.length):(idP x i).length=x.l.length:=by
 unfold idP idxA
 rw[List.length_append,List.length_map,List.length_take,List.length_replicate]
 omega
theorem idP_0 (x:IdX) {n:Nat}:RowsEq k1 n (fun _ j=>zRow k1 j) (encL encI (idP x 0)):=by
 have:idP x 0=List.replicate x.l.length default:=by simp[idP,idxA]
 rw[this]
 exact rowsEq_zero ⟨rfl,trivial⟩
theorem idP_t {x:IdX} {i:Nat} (h:¬ (i:Int)<x.l.length) (hi:i<=x.l.length):idP x i=idL x:=by
 have e:i=x.l.length:=by omega
 subst e
 unfold idP idL
 rw[Nat.sub_self]
 simp
theorem idP_s {x:IdX} {k:Nat} (h:(k:Int)<x.l.length) {n:Nat}:RowsEq k1 n (setRow (encL encI (idP x k)) (0+(k:Int).toNat) 0 [D.i (fndU x.us (x.l.getD k default).1)]) (encL encI (idP x (k+1))):=by
 have h':k<x.l.length:=by omega
 have e:(idP x k).set k (fndU x.us (x.l.getD k default).1)=idP x (k+1):=by
  have e:(idxA x.us x.l k).length=k:=by unfold idxA;simp;omega
  unfold idP
  have e1:idxA x.us x.l (k+1)=idxA x.us x.l k++[fndU x.us (x.l.getD k default).1]:=by
   unfold idxA
   rw[take_succ_getD (d:=default) h',List.map_append]
   rfl
  rw[e1,List.append_assoc,show x.l.length-k=(x.l.length-(k+1))+1 by omega,List.replicate_succ]
  conv=>lhs;arg 2;rw[<- e]
  rw[List.set_append_right _ _ (Nat.le_refl _),e,Nat.sub_self]
  rfl
 rw[<- e,nat0]
 exact rowsEq_set (by rw[idP_len (by omega)];omega) ⟨rfl,trivial⟩
def idI (x:IdX) (id:Nat):Option Inv:=match id with
 |0=>some { X:=Nat,ok:=fun k=>k<=x.us.length/\dstU x.us=true,fr:=fun k=>[(0,.sl 100000 0 x.us.length),(1,.sl 100001 0 x.l.length),(6,.mp 341),(18,.sl 100000 0 x.us.length),(19,.i .i64 x.us.length),(20,.i .i64 k)],hp:=fun k=>[(341,.map .own .i64 k1 false (idsT x.us k) (mP x.us))],me:=fun k=>x.us.length-k }
 | 2 => some { X := Nat, ok := idOk x, fr := fun i => [(0, .sl 100000 0 x.us.length), (1, .sl 100001 0 x.l.length), (6, .mp 341), (9, .sl 342 0 x.l.length), (33, .sl 100001 0 x.l.length), (34, .i .i64 x.l.length), (35, .i .i64 i)], hp := fun i => [(341, .map .own .i64 k1 false (idsT x.us x.us.length) (mP x.us)), (342, .rows .own k1 x.l.length (encL encI (idP x i)))], me := fun i => x.l.length - i,
               inn:=fun i id=>match id with
                |100071=>some (cutB 71 (decide (¬ okA x.us x.l i)))
                |100089=>some (cutB 89 (decide (¬ okB x.us x.l i)))
                |_=>none }
 |_=>none
def cfgId:Cfg:=⟨T,[],[(28,.one diC)],noInv,120,{ kn:=true }⟩
theorem conId:ConOk Tryd.prog cfgId:=ConL.ok (.cons (ConL.one di_good) .nil)
def atM (l:List Mv) (k:Nat):Mv:=l.getD (0+(k:Int).toNat) default
theorem atM_e (l:List Mv) (k:Nat):atM l k=l.getD k default:=by unfold atM;rw[nat0]
theorem p_r {us:List Un} {i:Int} (h:i∈idsT us us.length):0<=posV us i/\posV us i<us.length/\0+(posV us i).toNat<us.length:=by
 obtain⟨e,h0⟩:=pos_y h
 have:=fnd_lt h0
 rw[e]
 omega
theorem p_in {us:List Un} {l:List Mv} {k:Nat} (h:¬ ¬ okA us l k):(atM l k).1∈idsT us us.length:=by
 rw[atM_e]
 exact mem_fnd.2 (Decidable.not_not.1 h).1
theorem a_1 {us:List Un} {l:List Mv} {k:Nat} (h:(atM l k).1∈idsT us us.length) (h1:¬ (us.getD (0+(posV us (atM l k).1).toNat) default).st≠1) (h2:0<(k:Int)):decide ((atM l k).1<=(l.getD (0+((k:Int)-1).toNat) default).1)=decide (¬ okA us l k):=by
 obtain⟨e,h0⟩:=pos_y h
 rw[e,atM_e,Nat.zero_add]at h1
 rw[atM_e]at h0 ⊢
 rw[subK]
 refine decide_eq_decide.2 ?_
 unfold okA
 constructor
 ·rintro q ⟨_,_,r⟩;omega
 ·intro q
  refine Decidable.byContradiction fun r=>q ⟨h0,Decidable.not_not.1 h1,.inr (by omega)⟩
theorem a_2 {us:List Un} {l:List Mv} {k:Nat} (h:(atM l k).1∈idsT us us.length) (h1:¬ (us.getD (0+(posV us (atM l k).1).toNat) default).st≠1) (h2:¬ 0<(k:Int)):false=decide (¬ okA us l k):=by
 obtain⟨e,h0⟩:=pos_y h
 rw[e,atM_e,Nat.zero_add]at h1
 rw[atM_e]at h0
 exact(decide_eq_false (fun q=>q ⟨h0,Decidable.not_not.1 h1,.inl (by omega)⟩)).symm
theorem a_3 {us:List Un} {l:List Mv} {k:Nat} (h:(atM l k).1∈idsT us us.length) (h1:(us.getD (0+(posV us (atM l k).1).toNat) default).st≠1):true=decide (¬ okA us l k):=by
 obtain⟨e,h0⟩:=pos_y h
 rw[e,atM_e,Nat.zero_add]at h1
 exact(decide_eq_true (show ¬ okA us l k from fun q=>h1 q.2.1)).symm
theorem a_4 {us:List Un} {l:List Mv} {k:Nat} (h:¬ (atM l k).1∈idsT us us.length):true=decide (¬ okA us l k):=by
 rw[atM_e]at h
 exact(decide_eq_true (show ¬ okA us l k from fun q=>h (mem_fnd.2 q.1))).symm
theorem ms_f {x:IdX} {k:Nat} (h:(k:Int)<x.l.length) (h1:¬ okM x.us x.l k):okMs x.us x.l=false:=by
 unfold okMs
 rw[Bool.and_eq_false_iff]
 exact .inr (decide_eq_false fun q=>h1 (q k (by omega)))
theorem ms_d {x:IdX} (h:(!dstU x.us)=true):okMs x.us x.l=false:=by
 unfold okMs
 rw[Bool.and_eq_false_iff]
 exact .inl (by simpa using h)
theorem ms_a {x:IdX} {k:Nat} (h:(k:Int)<x.l.length) (h1:¬ okA x.us x.l k):okMs x.us x.l=false:=ms_f h fun q=>h1 (okM_ab.1 q).1
theorem ms_b {x:IdX} {k:Nat} (h:(k:Int)<x.l.length) (h1:¬ okB x.us x.l k):okMs x.us x.l=false:=ms_f h fun q=>h1 (okM_ab.1 q).2
theorem idN_f {x:IdX} (h:okMs x.us x.l=false):idN x=0:=by unfold idN;rw[h];rfl
theorem ms_t {x:IdX} {k:Nat} (h:idOk x k) (hk:¬ (k:Int)<x.l.length):okMs x.us x.l=true:=by
 unfold okMs
 rw[h.2.1,Bool.true_and]
 exact decide_eq_true fun i hi=>h.2.2 i (by omega)
theorem idN_t {x:IdX} (h:okMs x.us x.l=true):idN x=x.l.length:=by unfold idN;rw[h];rfl
theorem b_1 {us:List Un} {l:List Mv} {k:Nat} (h:¬ ¬ okA us l k) (h1:¬ (atM l k).2<0) (h2:¬ 4096<=(atM l k).2):decide ((atM l k).2=(us.getD (0+(posV us (atM l k).1).toNat) default).nd)=decide (¬ okB us l k):=by
 obtain⟨e,_⟩:=pos_y (p_in h)
 rw[e,Nat.zero_add]
 rw[atM_e]at*
 refine decide_eq_decide.2 ?_
 unfold okB
 constructor
 ·rintro q ⟨_,r⟩;exact r q
 ·intro q
  exact Decidable.byContradiction fun r=>q ⟨by omega,r⟩
theorem b_2 {us:List Un} {l:List Mv} {k:Nat} (h2:4096<=(atM l k).2):true=decide (¬ okB us l k):=by
 rw[atM_e]at h2
 exact(decide_eq_true (show ¬ okB us l k from fun q=>by have:=q.1;omega)).symm
theorem b_3 {us:List Un} {l:List Mv} {k:Nat} (h2:(atM l k).2<0):true=decide (¬ okB us l k):=by
 rw[atM_e]at h2
 exact(decide_eq_true (show ¬ okB us l k from fun q=>by have:=q.1;omega)).symm
theorem id_ok {x:IdX} {k:Nat} (h:idOk x k) (hk:(k:Int)<x.l.length) (h1:¬ ¬ okA x.us x.l k) (h2:¬ ¬ okB x.us x.l k):idOk x (k+1):=by
 refine⟨by omega,h.2.1,fun j hj=>?_⟩
 rcases Nat.lt_or_ge j k with q|q
 ·exact h.2.2 j q
 ·have:j=k:=by omega
  subst this
  exact okM_ab.2 ⟨Decidable.not_not.1 h1,Decidable.not_not.1 h2⟩
theorem id_put {x:IdX} {k:Nat} (hk:(k:Int)<x.l.length) (h1:¬ ¬ okA x.us x.l k) {n:Nat}:RowsEq k1 n (setRow (encL encI (idP x k)) (0+(k:Int).toNat) 0 [D.i (posV x.us (atM x.l k).1)]) (encL encI (idP x (k+1))):=by
 rw[(pos_y (p_in h1)).1,atM_e]
 exact idP_s hk
set_option maxRecDepth 100000 in
theorem id_keeps:Keeps cfgId Tryd.f21 idC idI:=Eq.mp (show((∀ x1:IdX,((x1.us.length<=(1000:Nat)/\x1.l.length<=(1000:Nat))->(∃ x3:List Un,((x3.length<=(1000:Nat))/\(((0=0/\x1.us.length=x3.length)/\True)/\((((RLe x3.length x1.us.length)/\(RowsEq [.int .i64,.int .i64,.int .i64,.int .i64,.int .i64,.int .i64,.int .i64,.int .i64,.int .i64,.int .i64] x3.length (encL encU x1.us) (encL encU x3)))/\True)/\((((!dstU x3)=true)->(((True/\(0=0/\(idN x1=(0:Nat))))/\((false=okMs x1.us x1.l)/\True))/\((idN x1=(0:Nat))/\True)))/\(((!dstU x3)=false)->(∃ x6:Nat,((((x6<=x1.us.length)/\(dstU x1.us=true))/\(((0=0/\x1.us.length=x1.us.length)/\((0=0/\x1.l.length=x1.l.length)/\(True/\((0=0/\x1.us.length=x1.us.length)/\(((x1.us.length:Int)=(x1.us.length:Int))/\((0=(x6:Int))/\(false=false/\((dstU x3=dstU x3)/\((0=0/\x1.us.length=x1.us.length)/\(false=false/\(True/\True)))))))))))/\((MapEq [.int .i64] (@List.nil Int) (idsT x1.us x6) (fun(x:Int) (j:Nat)=>zRow [.int .i64] j) (mP x1.us))/\(((RLe x1.us.length x1.us.length)/\(RowsEq [.int .i64,.int .i64,.int .i64,.int .i64,.int .i64,.int .i64,.int .i64,.int .i64,.int .i64,.int .i64] x1.us.length (encL encU x1.us) (encL encU x1.us)))/\(((RLe x1.l.length x1.l.length)/\(RowsEq [.int .i64,.int .i64] x1.l.length (encL encM x1.l) (encL encM x1.l)))/\True)))))/\(∀ x7:Nat,((x7<=x1.us.length/\dstU x1.us=true)->(((decide ((x7:Int)<(x1.us.length:Int))=true)->((((0:Int)<=(x7:Int))/\((x7:Int)<(x1.us.length:Int)))/\((0+Int.toNat (x7:Int)<x1.us.length)/\((True/\True)/\((((-9223372036854775808:Int)<=(x7:Int)+1)/\((x7:Int)+1<=(9223372036854775807:Int)))/\(∃ x10:Nat,((x1.us.length-x10<x1.us.length-x7)/\(((x10<=x1.us.length)/\(dstU x1.us=true))/\(((0=0/\x1.us.length=x1.us.length)/\((0=0/\x1.l.length=x1.l.length)/\(True/\((0=0/\x1.us.length=x1.us.length)/\(((x1.us.length:Int)=(x1.us.length:Int))/\(((x7:Int)+1=(x10:Int))/\(false=false/\((dstU x3=dstU x3)/\((0=0/\x1.us.length=x1.us.length)/\(false=false/\(True/\True)))))))))))/\((MapEq [.int .i64] (madd1 (idsT x1.us x7) (x1.us.getD (0+Int.toNat (x7:Int)) default).id) (idsT x1.us x10) (mset (mP x1.us) (x1.us.getD (0+Int.toNat (x7:Int)) default).id fun(j:Nat)=>(D.i (x7:Int)::@List.nil D).getD j (D.i 0)) (mP x1.us))/\(((RLe x1.us.length x1.us.length)/\(RowsEq [.int .i64,.int .i64,.int .i64,.int .i64,.int .i64,.int .i64,.int .i64,.int .i64,.int .i64,.int .i64] x1.us.length (encL encU x1.us) (encL encU x1.us)))/\(((RLe x1.l.length x1.l.length)/\(RowsEq [.int .i64,.int .i64] x1.l.length (encL encM x1.l) (encL encM x1.l)))/\True))))))))))))/\((decide ((x7:Int)<(x1.us.length:Int))=false)->((((0:Int)<=(x1.l.length:Int))/\(((x1.l.length:Int)<=(x1.l.length:Int))/\((x1.l.length:Int)<=(↑(1073741824:Nat):Int))))/\(∃ x12:Nat,(((idOk x1 x12)/\(((0=0/\x1.us.length=x1.us.length)/\((0=0/\x1.l.length=x1.l.length)/\(True/\((0=0/\(Int.toNat (x1.l.length:Int)=x1.l.length))/\((0=0/\x1.l.length=x1.l.length)/\(((x1.l.length:Int)=(x1.l.length:Int))/\((0=(x12:Int))/\(((x1.l.length:Int)=(x1.l.length:Int))/\((0=0/\x1.l.length=x1.l.length)/\(false=false/\((0=0/\x1.us.length=x1.us.length)/\(((x1.us.length:Int)=(x1.us.length:Int))/\(((x7:Int)=(x7:Int))/\(false=false/\((dstU x3=dstU x3)/\((0=0/\x1.us.length=x1.us.length)/\True))))))))))))))))/\((MapEq [.int .i64] (idsT x1.us x7) (idsT x1.us x1.us.length) (mP x1.us) (mP x1.us))/\(((RLe x1.l.length (Int.toNat (x1.l.length:Int)))/\(RowsEq [.int .i64] x1.l.length (fun(x j:Nat)=>zRow [.int .i64] j) (encL encI (idP x1 x12))))/\(((RLe x1.us.length x1.us.length)/\(RowsEq [.int .i64,.int .i64,.int .i64,.int .i64,.int .i64,.int .i64,.int .i64,.int .i64,.int .i64,.int .i64] x1.us.length (encL encU x1.us) (encL encU x1.us)))/\(((RLe x1.l.length x1.l.length)/\(RowsEq [.int .i64,.int .i64] x1.l.length (encL encM x1.l) (encL encM x1.l)))/\True))))))/\(∀ x13:Nat,((idOk x1 x13)->(((decide ((x13:Int)<(x1.l.length:Int))=true)->((((0:Int)<=(x13:Int))/\((x13:Int)<(x1.l.length:Int)))/\((0+Int.toNat (x13:Int)<x1.l.length)/\(((((!decide (Prod.fst (x1.l.getD (0+Int.toNat (x13:Int)) default)∈idsT x1.us x1.us.length))=false)->((((0:Int)<=D.toI (if Prod.fst (x1.l.getD (0+Int.toNat (x13:Int)) default)∈idsT x1.us x1.us.length then mP x1.us (Prod.fst (x1.l.getD (0+Int.toNat (x13:Int)) default)) 0 else D.i 0))/\(D.toI (if Prod.fst (x1.l.getD (0+Int.toNat (x13:Int)) default)∈idsT x1.us x1.us.length then mP x1.us (Prod.fst (x1.l.getD (0+Int.toNat (x13:Int)) default)) 0 else D.i 0)<(x1.us.length:Int)))/\((0+Int.toNat (D.toI (if Prod.fst (x1.l.getD (0+Int.toNat (x13:Int)) default)∈idsT x1.us x1.us.length then mP x1.us (Prod.fst (x1.l.getD (0+Int.toNat (x13:Int)) default)) 0 else D.i 0))<x1.us.length)/\(((decide ((x1.us.getD (0+Int.toNat (D.toI (if Prod.fst (x1.l.getD (0+Int.toNat (x13:Int)) default)∈idsT x1.us x1.us.length then mP x1.us (Prod.fst (x1.l.getD (0+Int.toNat (x13:Int)) default)) 0 else D.i 0))) default).st≠(1:Int))=false)->(((decide (0<(x13:Int))=true)->((((-9223372036854775808:Int)<=(x13:Int)-1)/\((x13:Int)-1<=(9223372036854775807:Int)))/\((((0:Int)<=(x13:Int)-1)/\((x13:Int)-1<(x1.l.length:Int)))/\((0+Int.toNat ((x13:Int)-1)<x1.l.length)/\(∃ x19:Unit,(True/\((decide (Prod.fst (x1.l.getD (0+Int.toNat (x13:Int)) default)<=Prod.fst (x1.l.getD (0+Int.toNat ((x13:Int)-1)) default))=decide ¬okA x1.us x1.l x13)/\True)))))))/\((decide (0<(x13:Int))=false)->(∃ x21:Unit,(True/\((false=decide ¬okA x1.us x1.l x13)/\True))))))/\((decide ((x1.us.getD (0+Int.toNat (D.toI (if Prod.fst (x1.l.getD (0+Int.toNat (x13:Int)) default)∈idsT x1.us x1.us.length then mP x1.us (Prod.fst (x1.l.getD (0+Int.toNat (x13:Int)) default)) 0 else D.i 0))) default).st≠(1:Int))=true)->(∃ x23:Unit,(True/\((true=decide ¬okA x1.us x1.l x13)/\True))))))))/\(((!decide (Prod.fst (x1.l.getD (0+Int.toNat (x13:Int)) default)∈idsT x1.us x1.us.length))=true)->(∃ x25:Unit,(True/\((true=decide ¬okA x1.us x1.l x13)/\True)))))/\(∀ x26:Unit,(True->((((decide ¬okA x1.us x1.l x13)=true)->(((True/\(0=0/\(idN x1=(0:Nat))))/\((false=okMs x1.us x1.l)/\True))/\((idN x1=(0:Nat))/\True)))/\(((decide ¬okA x1.us x1.l x13)=false)->((((decide (Prod.snd (x1.l.getD (0+Int.toNat (x13:Int)) default)<(0:Int))=false)->(((decide ((4096:Int)<=Prod.snd (x1.l.getD (0+Int.toNat (x13:Int)) default))=false)->((((0:Int)<=D.toI (if Prod.fst (x1.l.getD (0+Int.toNat (x13:Int)) default)∈idsT x1.us x1.us.length then mP x1.us (Prod.fst (x1.l.getD (0+Int.toNat (x13:Int)) default)) 0 else D.i 0))/\(D.toI (if Prod.fst (x1.l.getD (0+Int.toNat (x13:Int)) default)∈idsT x1.us x1.us.length then mP x1.us (Prod.fst (x1.l.getD (0+Int.toNat (x13:Int)) default)) 0 else D.i 0)<(x1.us.length:Int)))/\((0+Int.toNat (D.toI (if Prod.fst (x1.l.getD (0+Int.toNat (x13:Int)) default)∈idsT x1.us x1.us.length then mP x1.us (Prod.fst (x1.l.getD (0+Int.toNat (x13:Int)) default)) 0 else D.i 0))<x1.us.length)/\(∃ x32:Unit,(True/\((decide (Prod.snd (x1.l.getD (0+Int.toNat (x13:Int)) default)=(x1.us.getD (0+Int.toNat (D.toI (if Prod.fst (x1.l.getD (0+Int.toNat (x13:Int)) default)∈idsT x1.us x1.us.length then mP x1.us (Prod.fst (x1.l.getD (0+Int.toNat (x13:Int)) default)) 0 else D.i 0))) default).nd)=decide ¬okB x1.us x1.l x13)/\True))))))/\((decide ((4096:Int)<=Prod.snd (x1.l.getD (0+Int.toNat (x13:Int)) default))=true)->(∃ x34:Unit,(True/\((true=decide ¬okB x1.us x1.l x13)/\True))))))/\((decide (Prod.snd (x1.l.getD (0+Int.toNat (x13:Int)) default)<(0:Int))=true)->(∃ x36:Unit,(True/\((true=decide ¬okB x1.us x1.l x13)/\True)))))/\(∀ x37:Unit,(True->((((decide ¬okB x1.us x1.l x13)=true)->(((True/\(0=0/\(idN x1=(0:Nat))))/\((false=okMs x1.us x1.l)/\True))/\((idN x1=(0:Nat))/\True)))/\(((decide ¬okB x1.us x1.l x13)=false)->((((0:Int)<=(x13:Int))/\((x13:Int)<(x1.l.length:Int)))/\(((0+Int.toNat (x13:Int)<x1.l.length)/\(True/\True))/\((((-9223372036854775808:Int)<=(x13:Int)+1)/\((x13:Int)+1<=(9223372036854775807:Int)))/\(∃ x41:Nat,((x1.l.length-x41<x1.l.length-x13)/\((idOk x1 x41)/\(((0=0/\x1.us.length=x1.us.length)/\((0=0/\x1.l.length=x1.l.length)/\(True/\((0=0/\x1.l.length=x1.l.length)/\((0=0/\x1.l.length=x1.l.length)/\(((x1.l.length:Int)=(x1.l.length:Int))/\(((x13:Int)+1=(x41:Int))/\(((x1.l.length:Int)=(x1.l.length:Int))/\((0=0/\x1.l.length=x1.l.length)/\(false=false/\((0=0/\x1.us.length=x1.us.length)/\(((x1.us.length:Int)=(x1.us.length:Int))/\(((x7:Int)=(x7:Int))/\(false=false/\((dstU x3=dstU x3)/\((0=0/\x1.us.length=x1.us.length)/\True))))))))))))))))/\((MapEq [.int .i64] (idsT x1.us x1.us.length) (idsT x1.us x1.us.length) (mP x1.us) (mP x1.us))/\(((RLe x1.l.length x1.l.length)/\(RowsEq [.int .i64] x1.l.length (setRow (encL encI (idP x1 x13)) (0+Int.toNat (x13:Int)) 0 (D.i (D.toI (if Prod.fst (x1.l.getD (0+Int.toNat (x13:Int)) default)∈idsT x1.us x1.us.length then mP x1.us (Prod.fst (x1.l.getD (0+Int.toNat (x13:Int)) default)) 0 else D.i 0))::@List.nil D)) (encL encI (idP x1 x41))))/\(((RLe x1.us.length x1.us.length)/\(RowsEq [.int .i64,.int .i64,.int .i64,.int .i64,.int .i64,.int .i64,.int .i64,.int .i64,.int .i64,.int .i64] x1.us.length (encL encU x1.us) (encL encU x1.us)))/\(((RLe x1.l.length x1.l.length)/\(RowsEq [.int .i64,.int .i64] x1.l.length (encL encM x1.l) (encL encM x1.l)))/\True))))))))))))))))))))))))/\((decide ((x13:Int)<(x1.l.length:Int))=false)->(((0=0/\(x1.l.length=idN x1))/\((true=okMs x1.us x1.l)/\True))/\(((RLe (idN x1) x1.l.length)/\(RI (idN x1) (idP x1 x13) (idL x1)))/\True))))))))))))))))))))))))=(Keeps cfgId Tryd.f21 idC idI) by kernel_rfl) (fun x1=>fun h2=>⟨(IdX.us x1),
(by(try dsimp only at *);omega),
⟨⟨rfl,rfl⟩,trivial⟩,
⟨⟨rl,rr⟩,trivial⟩,
fun h4=>⟨⟨⟨trivial,rfl,
(by(try dsimp only at *);exact idN_f (ms_d h4))⟩,
(by(try dsimp only at *);exact(ms_d h4).symm),trivial⟩,
(by(try dsimp only at *);exact idN_f (ms_d h4)),trivial⟩,
fun h5=>⟨((0:Nat)),
⟨⟨(by(try dsimp only at *);omega),
(by(try dsimp only at *);grind)⟩,
⟨⟨rfl,rfl⟩,
⟨rfl,rfl⟩,trivial,
⟨rfl,rfl⟩,rfl,
(by(try dsimp only at *);omega),rfl,rfl,
⟨rfl,rfl⟩,rfl,trivial,trivial⟩,
(by(try dsimp only at *);exact id_m0 _),
⟨rl,rr⟩,
⟨rl,rr⟩,trivial⟩,
fun x7=>fun h8=>⟨fun g9=>have h9:=dT g9;⟨⟨(by(try dsimp only at *);omega),
(by(try dsimp only at *);omega)⟩,
(by(try dsimp only at *);omega),
⟨trivial,trivial⟩,
⟨(by(try dsimp only at *);omega),
(by(try dsimp only at *);omega)⟩,
(x7+(1:Nat)),
(by(try dsimp only at *);omega),
⟨(by(try dsimp only at *);omega),
(by(try dsimp only at *);grind)⟩,
⟨⟨rfl,rfl⟩,
⟨rfl,rfl⟩,trivial,
⟨rfl,rfl⟩,rfl,
(by(try dsimp only at *);omega),rfl,rfl,
⟨rfl,rfl⟩,rfl,trivial,trivial⟩,
(by(try dsimp only at *);exact id_m h8.2 h9 rfl),
⟨rl,rr⟩,
⟨rl,rr⟩,trivial⟩,
fun g11=>have h11:=dF g11;⟨⟨(by(try dsimp only at *);omega),
(by(try dsimp only at *);omega),
(by(try dsimp only at *);omega)⟩,
((0:Nat)),
⟨(by(try dsimp only at *);exact⟨Nat.zero_le _,h8.2,fun j hj=>absurd hj (Nat.not_lt_zero _)⟩),
⟨⟨rfl,rfl⟩,
⟨rfl,rfl⟩,trivial,
⟨rfl,
(by(try dsimp only at *);omega)⟩,
⟨rfl,rfl⟩,rfl,
(by(try dsimp only at *);omega),rfl,
⟨rfl,rfl⟩,rfl,
⟨rfl,rfl⟩,rfl,rfl,rfl,rfl,
⟨rfl,rfl⟩,trivial⟩,
(by(try dsimp only at *);(rw[show x7=x1.us.length by omega];exact MapEq.rfl')),
⟨⟨(by(try dsimp only at *);omega)⟩,
(by(try dsimp only at *);exact idP_0 _)⟩,
⟨rl,rr⟩,
⟨rl,rr⟩,trivial⟩,
fun x13=>fun h14=>⟨fun g15=>have h15:=dT g15;⟨⟨(by(try dsimp only at *);omega),
(by(try dsimp only at *);omega)⟩,
(by(try dsimp only at *);omega),
⟨fun g16=>have h16:=nF g16;⟨⟨(by(try dsimp only at *);exact(p_r h16).1),
(by(try dsimp only at *);exact(p_r h16).2.1)⟩,
(by(try dsimp only at *);exact(p_r h16).2.2),
fun g17=>have h17:=dF g17;⟨fun g18=>have h18:=dT g18;⟨⟨(by(try dsimp only at *);omega),
(by(try dsimp only at *);omega)⟩,
⟨(by(try dsimp only at *);omega),
(by(try dsimp only at *);omega)⟩,
(by(try dsimp only at *);omega),
(default),trivial,
(by(try dsimp only at *);exact a_1 h16 h17 h18),trivial⟩,
fun g20=>have h20:=dF g20;⟨(default),trivial,
(by(try dsimp only at *);exact a_2 h16 h17 h20),trivial⟩⟩,
fun g22=>have h22:=dT g22;⟨(default),trivial,
(by(try dsimp only at *);exact a_3 h16 h22),trivial⟩⟩,
fun g24=>have h24:=nT g24;⟨(default),trivial,
(by(try dsimp only at *);exact a_4 h24),trivial⟩⟩,
fun x26=>fun h27=>⟨fun g28=>have h28:=dT g28;⟨⟨⟨trivial,rfl,
(by(try dsimp only at *);exact idN_f (ms_a h15 h28))⟩,
(by(try dsimp only at *);exact(ms_a h15 h28).symm),trivial⟩,
(by(try dsimp only at *);exact idN_f (ms_a h15 h28)),trivial⟩,
fun g29=>have h29:=dF g29;⟨⟨fun g30=>have h30:=dF g30;⟨fun g31=>have h31:=dF g31;⟨⟨(by(try dsimp only at *);exact(p_r (p_in h29)).1),
(by(try dsimp only at *);exact(p_r (p_in h29)).2.1)⟩,
(by(try dsimp only at *);exact(p_r (p_in h29)).2.2),
(default),trivial,
(by(try dsimp only at *);exact b_1 h29 h30 h31),trivial⟩,
fun g33=>have h33:=dT g33;⟨(default),trivial,
(by(try dsimp only at *);exact b_2 h33),trivial⟩⟩,
fun g35=>have h35:=dT g35;⟨(default),trivial,
(by(try dsimp only at *);exact b_3 h35),trivial⟩⟩,
fun x37=>fun h38=>⟨fun g39=>have h39:=dT g39;⟨⟨⟨trivial,rfl,
(by(try dsimp only at *);exact idN_f (ms_b h15 h39))⟩,
(by(try dsimp only at *);exact(ms_b h15 h39).symm),trivial⟩,
(by(try dsimp only at *);exact idN_f (ms_b h15 h39)),trivial⟩,
fun g40=>have h40:=dF g40;⟨⟨(by(try dsimp only at *);omega),
(by(try dsimp only at *);omega)⟩,
⟨(by(try dsimp only at *);omega),trivial,trivial⟩,
⟨(by(try dsimp only at *);omega),
(by(try dsimp only at *);omega)⟩,
(x13+(1:Nat)),
(by(try dsimp only at *);omega),
(by(try dsimp only at *);exact id_ok h14 h15 h29 h40),
⟨⟨rfl,rfl⟩,
⟨rfl,rfl⟩,trivial,
⟨rfl,rfl⟩,
⟨rfl,rfl⟩,rfl,
(by(try dsimp only at *);omega),rfl,
⟨rfl,rfl⟩,rfl,
⟨rfl,rfl⟩,rfl,rfl,rfl,rfl,
⟨rfl,rfl⟩,trivial⟩,MapEq.rfl',
⟨rl,
(by(try dsimp only at *);exact id_put h15 h29)⟩,
⟨rl,rr⟩,
⟨rl,rr⟩,trivial⟩⟩⟩⟩⟩,
fun g42=>have h42:=dF g42;⟨⟨⟨rfl,
(by(try dsimp only at *);exact(idN_t (ms_t h14 h42)).symm)⟩,
(by(try dsimp only at *);exact(ms_t h14 h42).symm),trivial⟩,
⟨⟨(by(try dsimp only at *);exact Nat.le_of_eq (idN_t (ms_t h14 h42)))⟩,
(by(try dsimp only at *);(rw[idP_t h42 h14.1];exact rr))⟩,trivial⟩⟩⟩⟩⟩⟩)
theorem id_good:Good Tryd.prog 21 idC/\FnOk Tryd.prog 21:=good_of tok conId (fn:=Tryd.f21) rfl (by decide+kernel) (fun _=>rfl) id_keeps
set_option maxRecDepth 100000 in
theorem cloneU_keeps:Keeps cfgN0 Tryd.f22 (cloneC1 kU) noIv:=Eq.mp (show((∀ x1:RX,(((1:Nat)<=x1.n/\x1.n<=(1073741824:Nat))->(((1:Nat)<=x1.n)/\(True/\((0=0/\(((0:Nat)<=(0:Nat))/\(((0:Nat)+x1.n<=x1.n)/\((0:Nat)+x1.n<=(1073741824:Nat)))))/\((0=0/\((0:Nat)+x1.n=x1.n))/\(((RLe x1.n ((0:Nat)+x1.n))/\(RowsEq [.int .i64,.int .i64,.int .i64,.int .i64,.int .i64,.int .i64,.int .i64,.int .i64,.int .i64,.int .i64] x1.n (appRows 0 (litRows (@List.nil (List D))) 0 x1.f) x1.f))/\True))))))))=(Keeps cfgN0 Tryd.f22 (cloneC1 kU) noIv) by kernel_rfl) (fun x1=>fun h2=>⟨(by omega),trivial,
⟨rfl,
(by omega),
(by omega),
(by omega)⟩,
⟨rfl,
(by omega)⟩,
⟨⟨(by omega)⟩,
(by exact app0)⟩,trivial⟩)
theorem cloneU_nil (w:World):Calls Tryd.prog 22 #[.slice none 0 0] w fun e w'=>e= .returned (.slice none 0 0)/\w'=w:=by
 have hq:=run_eql_sl (P:=Tryd.prog) w 29 35 none 0 0 Tryd.underlying29
 go_enter Tryd.func22,Tryd.ntmps22
 go_wp2
 go_ret
 exact⟨rfl,rfl⟩
theorem cloneU_empty (w:World) (a:Addr) (cap:Nat):Calls Tryd.prog 22 #[.slice (some a) 0 cap] w fun e w'=>e= .returned (.slice (some ⟨w.heap.size,0,none⟩) 0 0)/\w'=w.alloc (.cells #[] 35):=by
 have hq:=run_eql_sl (P:=Tryd.prog) w 29 35 (some a) 0 cap Tryd.underlying29
 go_enter Tryd.func22,Tryd.ntmps22
 go_wp2
 go_ret
 exact⟨rfl,rfl⟩
theorem cloneU_good:Good Tryd.prog 22 (cloneC kU)/\FnOk Tryd.prog 22:=
 ⟨clone_both (clone_zero cloneU_nil cloneU_empty) (good_of tok conN0 (fn:=Tryd.f22) rfl (by decide+kernel) (fun _=>rfl) cloneU_keeps).1,Tryd.f22,rfl,by decide+kernel,rfl⟩
def apC:CT where
 X:=IdX
 pre:=fun x=>x.us.length<=1000/\x.l.length<=1000
 args:=fun x=>[.sl 100000 0 x.us.length,.sl 100001 0 x.l.length]
 g0:=fun x=>[(100000,.rows .bor kU x.us.length (encL encU x.us)),(100001,.rows .bor kM x.l.length (encL encM x.l))]
 res:=fun x=>.tup [.sl 1 0 (appU x.us x.l).length,.i .i64 (appE2 x.us x.l)]
 g1:=fun x=>[(1,.rows .own kU (appU x.us x.l).length (encL encU (appU x.us x.l)))]
theorem app_len (us:List Un) (l:List Mv) (k:Nat):(appA us l k).length=us.length:=by
 have key:∀(l:List Mv) (o:List Un),(l.foldl (putU us) o).length=o.length:=by
  intro l
  induction l with
  |nil=>intro o;rfl
  |cons m l ih=>intro o;rw[List.foldl_cons,ih];unfold putU;rw[List.length_set]
 exact key _ _
theorem app_s {us:List Un} {l:List Mv} {k:Nat} (h:k<l.length):appA us l (k+1)=putU us (appA us l k) (l.getD k default):=by
 unfold appA
 rw[take_succ_getD (d:=default) h,List.foldl_append]
 rfl
theorem ms_i {us:List Un} {l:List Mv} (h:okMs us l=true) {k:Nat} (hk:k<l.length):okM us l k:=by
 unfold okMs at h
 rw[Bool.and_eq_true]at h
 exact of_decide_eq_true h.2 k hk
theorem ap_y {us:List Un} {l:List Mv} (h:okMs us l=true):appU us l=appA us l l.length/\appE2 us l=0:=by unfold appU appE2;rw[if_pos h,if_pos h];exact⟨rfl,rfl⟩
theorem ap_n {us:List Un} {l:List Mv} (h:okMs us l=false):appU us l=[]/\appE2 us l=1:=by unfold appU appE2;rw[h];exact⟨rfl,rfl⟩
theorem ms_no {us:List Un} {l:List Mv} (h:(!okMs us l)=true):okMs us l=false:=by simpa using h
theorem ms_ys {us:List Un} {l:List Mv} (h:(!okMs us l)=false):okMs us l=true:=by simpa using h
theorem idL_at {x:IdX} {k:Nat} (h:(k:Int)<x.l.length):(idL x).getD (0+(k:Int).toNat) default=fndU x.us (x.l.getD k default).1:=by
 have h':k<x.l.length:=by omega
 rw[nat0]
 unfold idL idxA
 rw[List.take_length,List.getD_eq_getElem?_getD,List.getElem?_map,List.getElem?_eq_getElem h',List.getD_eq_getElem?_getD,List.getElem?_eq_getElem h']
 rfl
theorem ap_r {x:IdX} (h:okMs x.us x.l=true) {k:Nat} (hk:(k:Int)<x.l.length):0<=(idL x).getD (0+(k:Int).toNat) default/\(idL x).getD (0+(k:Int).toNat) default<x.us.length/\0+((idL x).getD (0+(k:Int).toNat) default).toNat<x.us.length:=by
 rw[idL_at hk]
 have h0:=(ms_i h (k:=k) (by omega)).1
 have:=fnd_lt h0
 omega
theorem ap_put {x:IdX} (h:okMs x.us x.l=true) {k:Nat} (hk:(k:Int)<x.l.length) {n:Nat}:RowsEq kU n (setRow (encL encU (appA x.us x.l k)) (0+((idL x).getD (0+(k:Int).toNat) default).toNat) 4 [D.i (x.l.getD (0+(k:Int).toNat) default).2]) (encL encU (appA x.us x.l (k+1))):=by
 have hr:=ap_r h hk
 rw[idL_at hk]at hr ⊢
 rw[app_s (by omega),nat0,Nat.zero_add]
 exact rowsEq_set (by rw[app_len];omega) ⟨rfl,rfl,rfl,rfl,rfl,rfl,rfl,rfl,rfl,rfl,trivial⟩
def apI (x:IdX) (id:Nat):Option Inv:=match id with
 |0=>some { X:=Nat,ok:=fun k=>k<=x.l.length/\okMs x.us x.l=true,fr:=fun k=>[(1,.sl 100001 0 x.l.length),(8,.sl 341 0 x.us.length),(21,.sl 342 0 x.l.length),(22,.i .i64 x.l.length),(23,.i .i64 k)],hp:=fun k=>[(341,.rows .own kU x.us.length (encL encU (appA x.us x.l k))),(342,.rows .own k1 x.l.length (encL encI (idL x)))],me:=fun k=>x.l.length-k }
 |_=>none
def cfgAp:Cfg:=⟨T,[],[(21,.one idC),(22,.one (cloneC kU))],noInv,60,{ kn:=true }⟩
theorem conAp:ConOk Tryd.prog cfgAp:=ConL.ok (.cons (ConL.one id_good) (.cons (ConL.one cloneU_good) .nil))
theorem ap_t {x:IdX} (h:okMs x.us x.l=true) {k:Nat} (hk:¬ (k:Int)<x.l.length) (hl:k<=x.l.length):appA x.us x.l k=appU x.us x.l:=by
 rw[(ap_y h).1,show k=x.l.length by omega]
theorem ap_tl {x:IdX} (h:okMs x.us x.l=true):x.us.length=(appU x.us x.l).length:=by
 rw[(ap_y h).1,app_len]
set_option maxRecDepth 100000 in
theorem ap_keeps:Keeps cfgAp Tryd.f10 apC apI:=Eq.mp (show((∀ x1:IdX,((x1.us.length<=(1000:Nat)/\x1.l.length<=(1000:Nat))->(∃ x3:IdX,(((x3.us.length<=(1000:Nat))/\(x3.l.length<=(1000:Nat)))/\(((0=0/\x1.us.length=x3.us.length)/\((0=0/\x1.l.length=x3.l.length)/\True))/\((((RLe x3.us.length x1.us.length)/\(RowsEq [.int .i64,.int .i64,.int .i64,.int .i64,.int .i64,.int .i64,.int .i64,.int .i64,.int .i64,.int .i64] x3.us.length (encL encU x1.us) (encL encU x3.us)))/\(((RLe x3.l.length x1.l.length)/\(RowsEq [.int .i64,.int .i64] x3.l.length (encL encM x1.l) (encL encM x3.l)))/\True))/\((((!okMs x3.us x3.l)=true)->(((True/\(0=0/\((appU x1.us x1.l).length=(0:Nat))))/\(((1:Int)=appE2 x1.us x1.l)/\True))/\(((appU x1.us x1.l).length=(0:Nat))/\True)))/\(((!okMs x3.us x3.l)=false)->(∃ x6:RX,((x6.n<=(1073741824:Nat))/\(((0=0/\x1.us.length=x6.n)/\True)/\((((RLe x6.n x1.us.length)/\(RowsEq [.int .i64,.int .i64,.int .i64,.int .i64,.int .i64,.int .i64,.int .i64,.int .i64,.int .i64,.int .i64] x6.n (encL encU x1.us) x6.f))/\True)/\(∃ x7:Nat,((((x7<=x1.l.length)/\(okMs x1.us x1.l=true))/\(((0=0/\x1.l.length=x1.l.length)/\((0=0/\x6.n=x1.us.length)/\((0=0/\(idN x3=x1.l.length))/\(((↑(idN x3):Int)=(x1.l.length:Int))/\((0=(x7:Int))/\((0=0/\x1.us.length=x1.us.length)/\(false=false/\((okMs x3.us x3.l=okMs x3.us x3.l)/\((okMs x3.us x3.l=okMs x3.us x3.l)/\((okMs x3.us x3.l=okMs x3.us x3.l)/\((0=0/\x1.l.length=x1.l.length)/\((0=0/\x1.us.length=x1.us.length)/\(((0:Int)=0)/\(True/\((0=0/\x1.us.length=x1.us.length)/\True)))))))))))))))/\(((RLe x1.us.length x6.n)/\(RowsEq [.int .i64,.int .i64,.int .i64,.int .i64,.int .i64,.int .i64,.int .i64,.int .i64,.int .i64,.int .i64] x1.us.length x6.f (encL encU (appA x1.us x1.l x7))))/\(((RLe x1.l.length (idN x3))/\(RI x1.l.length (idL x3) (idL x1)))/\(((RLe x1.us.length x1.us.length)/\(RowsEq [.int .i64,.int .i64,.int .i64,.int .i64,.int .i64,.int .i64,.int .i64,.int .i64,.int .i64,.int .i64] x1.us.length (encL encU x1.us) (encL encU x1.us)))/\(((RLe x1.l.length x1.l.length)/\(RowsEq [.int .i64,.int .i64] x1.l.length (encL encM x1.l) (encL encM x1.l)))/\True))))))/\(∀ x8:Nat,((x8<=x1.l.length/\okMs x1.us x1.l=true)->(((decide ((x8:Int)<(x1.l.length:Int))=true)->((((0:Int)<=(x8:Int))/\((x8:Int)<(x1.l.length:Int)))/\((0+Int.toNat (x8:Int)<x1.l.length)/\((((0:Int)<=(x8:Int))/\((x8:Int)<(x1.l.length:Int)))/\((0+Int.toNat (x8:Int)<x1.l.length)/\((((0:Int)<=(idL x1).getD (0+Int.toNat (x8:Int)) default)/\((idL x1).getD (0+Int.toNat (x8:Int)) default<(x1.us.length:Int)))/\(((0+Int.toNat ((idL x1).getD (0+Int.toNat (x8:Int)) default)<x1.us.length)/\(True/\True))/\((((-9223372036854775808:Int)<=(x8:Int)+1)/\((x8:Int)+1<=(9223372036854775807:Int)))/\(∃ x11:Nat,((x1.l.length-x11<x1.l.length-x8)/\(((x11<=x1.l.length)/\(okMs x1.us x1.l=true))/\(((0=0/\x1.l.length=x1.l.length)/\((0=0/\x1.us.length=x1.us.length)/\((0=0/\x1.l.length=x1.l.length)/\(((x1.l.length:Int)=(x1.l.length:Int))/\(((x8:Int)+1=(x11:Int))/\((0=0/\x1.us.length=x1.us.length)/\(false=false/\((okMs x3.us x3.l=okMs x3.us x3.l)/\((okMs x3.us x3.l=okMs x3.us x3.l)/\((okMs x3.us x3.l=okMs x3.us x3.l)/\((0=0/\x1.l.length=x1.l.length)/\((0=0/\x1.us.length=x1.us.length)/\(((0:Int)=0)/\(True/\((0=0/\x1.us.length=x1.us.length)/\True)))))))))))))))/\(((RLe x1.us.length x1.us.length)/\(RowsEq [.int .i64,.int .i64,.int .i64,.int .i64,.int .i64,.int .i64,.int .i64,.int .i64,.int .i64,.int .i64] x1.us.length (setRow (encL encU (appA x1.us x1.l x8)) (0+Int.toNat ((idL x1).getD (0+Int.toNat (x8:Int)) default)) 4 (D.i (Prod.snd (x1.l.getD (0+Int.toNat (x8:Int)) default))::@List.nil D)) (encL encU (appA x1.us x1.l x11))))/\(((RLe x1.l.length x1.l.length)/\(RI x1.l.length (idL x1) (idL x1)))/\(((RLe x1.us.length x1.us.length)/\(RowsEq [.int .i64,.int .i64,.int .i64,.int .i64,.int .i64,.int .i64,.int .i64,.int .i64,.int .i64,.int .i64] x1.us.length (encL encU x1.us) (encL encU x1.us)))/\(((RLe x1.l.length x1.l.length)/\(RowsEq [.int .i64,.int .i64] x1.l.length (encL encM x1.l) (encL encM x1.l)))/\True))))))))))))))))/\((decide ((x8:Int)<(x1.l.length:Int))=false)->(((0=0/\(x1.us.length=(appU x1.us x1.l).length))/\(((0:Int)=appE2 x1.us x1.l)/\True))/\(((RLe (appU x1.us x1.l).length x1.us.length)/\(RowsEq [.int .i64,.int .i64,.int .i64,.int .i64,.int .i64,.int .i64,.int .i64,.int .i64,.int .i64,.int .i64] (appU x1.us x1.l).length (encL encU (appA x1.us x1.l x8)) (encL encU (appU x1.us x1.l))))/\True)))))))))))))))))))))=(Keeps cfgAp Tryd.f10 apC apI) by kernel_rfl) (fun x1=>fun h2=>⟨(x1),
⟨(by(try dsimp only at *);omega),
(by(try dsimp only at *);omega)⟩,
⟨⟨rfl,rfl⟩,
⟨rfl,rfl⟩,trivial⟩,
⟨⟨rl,rr⟩,
⟨rl,rr⟩,trivial⟩,
fun h4=>⟨⟨⟨trivial,rfl,
(by(try dsimp only at *);exact congrArg List.length (ap_n (ms_no h4)).1)⟩,
(by(try dsimp only at *);exact(ap_n (ms_no h4)).2.symm),trivial⟩,
(by(try dsimp only at *);exact congrArg List.length (ap_n (ms_no h4)).1),trivial⟩,
fun h5=>⟨({ n:=List.length (IdX.us x1),f:=encL encU (IdX.us x1):RX }),
(by(try dsimp only at *);omega),
⟨⟨rfl,rfl⟩,trivial⟩,
⟨⟨rl,rr⟩,trivial⟩,
((0:Nat)),
⟨⟨(by(try dsimp only at *);omega),
(by(try dsimp only at *);grind)⟩,
⟨⟨rfl,rfl⟩,
⟨rfl,rfl⟩,
⟨rfl,
(by(try dsimp only at *);exact idN_t (ms_ys h5))⟩,
(by(try dsimp only at *);exact congrArg Nat.cast (idN_t (ms_ys h5))),
(by(try dsimp only at *);omega),
⟨rfl,rfl⟩,rfl,rfl,rfl,rfl,
⟨rfl,rfl⟩,
⟨rfl,rfl⟩,rfl,trivial,
⟨rfl,rfl⟩,trivial⟩,
⟨rl,
(by(try dsimp only at *);exact rr)⟩,
⟨⟨(by(try dsimp only at *);exact Nat.le_of_eq (idN_t (ms_ys h5)).symm)⟩,rr⟩,
⟨rl,rr⟩,
⟨rl,rr⟩,trivial⟩,
fun x8=>fun h9=>⟨fun g10=>have h10:=dT g10;⟨⟨(by(try dsimp only at *);omega),
(by(try dsimp only at *);omega)⟩,
(by(try dsimp only at *);omega),
⟨(by(try dsimp only at *);omega),
(by(try dsimp only at *);omega)⟩,
(by(try dsimp only at *);omega),
⟨(by(try dsimp only at *);exact(ap_r h9.2 h10).1),
(by(try dsimp only at *);exact(ap_r h9.2 h10).2.1)⟩,
⟨(by(try dsimp only at *);exact(ap_r h9.2 h10).2.2),trivial,trivial⟩,
⟨(by(try dsimp only at *);omega),
(by(try dsimp only at *);omega)⟩,
(x8+(1:Nat)),
(by(try dsimp only at *);omega),
⟨(by(try dsimp only at *);omega),
(by(try dsimp only at *);grind)⟩,
⟨⟨rfl,rfl⟩,
⟨rfl,rfl⟩,
⟨rfl,rfl⟩,rfl,
(by(try dsimp only at *);omega),
⟨rfl,rfl⟩,rfl,rfl,rfl,rfl,
⟨rfl,rfl⟩,
⟨rfl,rfl⟩,rfl,trivial,
⟨rfl,rfl⟩,trivial⟩,
⟨rl,
(by(try dsimp only at *);exact ap_put h9.2 h10)⟩,
⟨rl,rr⟩,
⟨rl,rr⟩,
⟨rl,rr⟩,trivial⟩,
fun g12=>have h12:=dF g12;⟨⟨⟨rfl,
(by(try dsimp only at *);exact ap_tl h9.2)⟩,
(by(try dsimp only at *);exact(ap_y h9.2).2.symm),trivial⟩,
⟨⟨(by(try dsimp only at *);exact Nat.le_of_eq (ap_tl h9.2).symm)⟩,
(by(try dsimp only at *);(rw[ap_t h9.2 h12 h9.1];exact rr))⟩,trivial⟩⟩⟩⟩)
theorem ap_good:Good Tryd.prog 10 apC/\FnOk Tryd.prog 10:=good_of tok conAp (fn:=Tryd.f10) rfl (by decide+kernel) (fun _=>rfl) ap_keeps
end Go.Sym