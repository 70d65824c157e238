import Derived.Test.YtakbmbmpcenljaaT10
import Derived.Test.YtakbmbmpcenljaaXD
namespace Go.Sym
set_option linter.unusedVariables false
set_option linter.unusedSimpArgs false
open Go.Proofs
set_option maxRecDepth 100000
set_option maxHeartbeats 4000000
def getC (l:List Cl) (k:Int):Cl:=l.getD (posC l k) default
theorem posC_lt {l:List Cl} {k:Int} (h:k∈idsC l):posC l k<l.length/\(getC l k).id=k:=by
 obtain⟨c,hc,rfl⟩:=List.mem_map.1 h
 have h1:posC l c.id<l.length:=List.findIdx_lt_length_of_exists ⟨c,hc,by simp⟩
 refine⟨h1,?_⟩
 have:=List.findIdx_getElem (w:=h1)
 unfold getC
 rw[List.getD_eq_getElem?_getD,List.getElem?_eq_getElem h1]
 exact of_decide_eq_true this
theorem posC_not {l:List Cl} {k:Int} (h:k∉idsC l):posC l k=l.length:=by
 refine List.findIdx_eq_length.2 fun c hc=>?_
 exact decide_eq_false fun e=>h (List.mem_map.2 ⟨c,hc,e⟩)
theorem ids_at {l:List Cl} {i:Nat} (hi:i<l.length):(idsC l)[i]'(by simpa[idsC]using hi)=(l.getD i default).id:=by
 simp[idsC,List.getD_eq_getElem?_getD,hi]
theorem mem_idsC {l:List Cl} {i:Nat} (hi:i<l.length):(l.getD i default).id∈idsC l:=by rw[<- ids_at hi];exact List.getElem_mem _
theorem idsC_inj {l:List Cl} (hn:(idsC l).Nodup) {i j:Nat} (hi:i<l.length) (hj:j<l.length) (h:(l.getD i default).id=(l.getD j default).id):i=j:=by
 rw[<- ids_at hi,<- ids_at hj]at h;exact(List.getElem_inj hn).1 h
theorem posC_get {l:List Cl} (hn:(idsC l).Nodup) {i:Nat} (hi:i<l.length):posC l (l.getD i default).id=i:=by
 obtain⟨h1,h2⟩:=posC_lt (mem_idsC hi)
 exact idsC_inj hn h1 hi h2
theorem getC_get {l:List Cl} (hn:(idsC l).Nodup) {i:Nat} (hi:i<l.length):getC l (l.getD i default).id=l.getD i default:=by unfold getC;rw[posC_get hn hi]
theorem getC_mem {l:List Cl} {k:Int} (h:k∈idsC l):getC l k∈l:=by
 have:=(posC_lt h).1
 unfold getC;rw[List.getD_eq_getElem?_getD,List.getElem?_eq_getElem this];exact List.getElem_mem _
theorem getC_of {l:List Cl} (hn:(idsC l).Nodup) {c:Cl} (h:c∈l):getC l c.id=c:=by
 obtain⟨i,hi,rfl⟩:=List.mem_iff_getElem.1 h
 have:=getC_get hn hi
 rwa [List.getD_eq_getElem?_getD,List.getElem?_eq_getElem hi]at this
theorem ids_len (l:List Cl):(idsC l).length=l.length:=List.length_map ..
structure QOk (q:Qs):Prop where
 m:0<=q.most
 a:1<=q.ages/\q.ages<=1099511627776
 n:(idsC q.l).Nodup
 c:∀ c∈q.l,ClOk c
def badC (k u s:Int):Prop:=k<1∨u<1∨u>5∨s<0∨s>1099511627776
instance (k u s:Int):Decidable (badC k u s):=by unfold badC;infer_instance
def addL (l:List Cl) (k u s:Int):List Cl:=if badC k u s∨k∈idsC l then l else l++[⟨k,u,s⟩]
def addR (l:List Cl) (k u s:Int):Int:=if badC k u s then 1 else if k∈idsC l then 5 else 0
def badU (u:Int):Prop:=u<1∨u>5
instance (u:Int):Decidable (badU u):=by unfold badU;infer_instance
def setL (l:List Cl) (k u:Int):List Cl:=if badU u∨k∉idsC l then l else l.set (posC l k) { getC l k with urg:=u }
def setR (l:List Cl) (k u:Int):Int:=if badU u then 1 else if k∉idsC l then 4 else 0
def delL (l:List Cl) (k:Int):List Cl:=if k∈idsC l then l.take (posC l k)++l.drop (posC l k+1)else l
theorem add_no {l:List Cl} {k u s:Int} (h:badC k u s):addL l k u s=l/\addR l k u s=1:=⟨if_pos (.inl h),if_pos h⟩
theorem add_in {l:List Cl} {k u s:Int} (h:¬ badC k u s) (h2:k∈idsC l):addL l k u s=l/\addR l k u s=5:=⟨if_pos (.inr h2),by unfold addR;rw[if_neg h,if_pos h2]⟩
theorem add_yes {l:List Cl} {k u s:Int} (h:¬ badC k u s) (h2:k∉idsC l):addL l k u s=l++[⟨k,u,s⟩]/\addR l k u s=0:=⟨if_neg (by rintro(q|q);exact h q;exact h2 q),by unfold addR;rw[if_neg h,if_neg h2]⟩
theorem set_no {l:List Cl} {k u:Int} (h:badU u):setL l k u=l/\setR l k u=1:=⟨if_pos (.inl h),if_pos h⟩
theorem set_out {l:List Cl} {k u:Int} (h:¬ badU u) (h2:k∉idsC l):setL l k u=l/\setR l k u=4:=⟨if_pos (.inr h2),by unfold setR;rw[if_neg h,if_pos h2]⟩
theorem set_yes {l:List Cl} {k u:Int} (h:¬ badU u) (h2:k∈idsC l):setL l k u=l.set (posC l k) { getC l k with urg:=u }/\setR l k u=0:=⟨if_neg (by rintro(q|q);exact h q;exact q h2),by unfold setR;rw[if_neg h,if_neg (fun q=>q h2)]⟩
theorem del_no {l:List Cl} {k:Int} (h:k∉idsC l):delL l k=l:=if_neg h
theorem del_yes {l:List Cl} {k:Int} (h:k∈idsC l):delL l k=l.take (posC l k)++l.drop (posC l k+1):=if_pos h
theorem set_id {l:List Cl} {k u:Int} (h:k∈idsC l):idsC (l.set (posC l k) { getC l k with urg:=u })=idsC l:=by
 unfold idsC
 rw[List.map_set]
 obtain⟨p1,p2⟩:=posC_lt h
 refine List.ext_getElem (by simp) fun i h1 h2=>?_
 rw[List.getElem_set]
 by_cases e:posC l k=i
 ·subst e
  rw[if_pos rfl]
  simp[getC,List.getD_eq_getElem?_getD,p1]
 ·rw[if_neg e]
theorem posC_ids {l l':List Cl} (h:idsC l=idsC l') (k:Int):posC l k=posC l' k:=by
 have e:∀ l:List Cl,posC l k=(idsC l).findIdx fun i=>decide (i=k):=fun l=>by unfold posC idsC;rw[List.findIdx_map];rfl
 rw[e,e,h]
theorem set_map {l:List Cl} (hn:(idsC l).Nodup) {k u w s:Int} (h:k∈idsC l) (hu:w=u) (hs:s=(getC l k).since):
  MapEq kW (madd1 (idsC l) k) (idsC (l.set (posC l k) { getC l k with urg:=u })) (mset (valC l) k (fun j=>[D.i w,D.i s].getD j (.i 0))) (valC (l.set (posC l k) { getC l k with urg:=u })):=by
 subst hu hs
 have p:=set_id (u:=w) h
 rw[p]
 refine⟨by unfold madd1;rw[if_pos h],fun x hx=>?_⟩
 obtain⟨p1,p2⟩:=posC_lt h
 obtain⟨q1,q2⟩:=posC_lt hx
 simp only[mset,valC]
 rw[posC_ids p x]
 by_cases e:x=k
 ·subst e
  rw[if_pos rfl,List.getD_eq_getElem?_getD (l:=l.set _ _),List.getElem?_set_self p1]
  exact⟨rfl,rfl,trivial⟩
 ·rw[if_neg e,List.getD_eq_getElem?_getD (l:=l.set _ _),List.getElem?_set_ne,<- List.getD_eq_getElem?_getD]
  ·exact⟨rfl,rfl,trivial⟩
  ·intro e2
   apply e
   rw[<- p2,<- q2];unfold getC;rw[e2]
theorem posC_app {l:List Cl} {c:Cl} {k:Int} (h:k∈idsC l):posC (l++[c]) k=posC l k:=by
 have:=(posC_lt h).1
 unfold posC at this ⊢;rw[List.findIdx_append,if_pos this]
theorem posC_new {l:List Cl} {c:Cl} (h:c.id∉idsC l):posC (l++[c]) c.id=l.length:=by
 have:=posC_not h
 unfold posC at this ⊢
 rw[List.findIdx_append,if_neg (by omega)];simp[List.findIdx_cons]
theorem add_map {l:List Cl} {k u s:Int} (h:k∉idsC l):
  MapEq kW (madd1 (idsC l) k) (idsC (l++[⟨k,u,s⟩])) (mset (valC l) k (fun j=>[D.i u,D.i s].getD j (.i 0))) (valC (l++[⟨k,u,s⟩])):=by
 refine⟨by unfold madd1;rw[if_neg h];simp[idsC],fun x hx=>?_⟩
 simp only[mset,valC]
 by_cases e:x=k
 ·subst e
  have e2:=posC_new (l:=l) (c:=⟨x,u,s⟩) h
  simp only at e2
  rw[if_pos rfl,e2,List.getD_eq_getElem?_getD,List.getElem?_append_right (Nat.le_refl _),Nat.sub_self]
  exact⟨rfl,rfl,trivial⟩
 ·have hx2:x∈idsC l:=by
   have:x∈idsC l++[k]:=by simpa[idsC]using hx
   rcases List.mem_append.1 this with q|q
   ·exact q
   ·exact absurd (List.mem_singleton.1 q) e
  rw[if_neg e,posC_app hx2,List.getD_eq_getElem?_getD (l:=l++_),List.getElem?_append_left (posC_lt hx2).1,<- List.getD_eq_getElem?_getD]
  exact⟨rfl,rfl,trivial⟩
theorem del_ids {l:List Cl} (hn:(idsC l).Nodup) {k:Int} (h:k∈idsC l):idsC (l.take (posC l k)++l.drop (posC l k+1))=(idsC l).erase k:=by
 rw[<- List.eraseIdx_eq_take_drop_succ]
 have e2:∀(l:List Cl) (n:Nat),idsC (l.eraseIdx n)=(idsC l).eraseIdx n:=by
  intro l
  induction l with
  |nil=>intro n;rfl
  |cons c r ih=>
   intro n
   cases n with
   |zero=>rfl
   |succ n=>show c.id::idsC (r.eraseIdx n)=c.id::(idsC r).eraseIdx n;rw[ih]
 have e:posC l k=(idsC l).idxOf k:=by
  rw[show posC l k=(idsC l).findIdx fun i=>decide (i=k) by unfold posC idsC;rw[List.findIdx_map];rfl]
  unfold List.idxOf
  congr 1
 rw[e2,e]
 exact(List.erase_eq_eraseIdx_of_idxOf rfl).symm
theorem del_getC {l:List Cl} (hn:(idsC l).Nodup) {k x:Int} (h:k∈idsC l) (hx:x∈idsC (l.take (posC l k)++l.drop (posC l k+1))):getC (l.take (posC l k)++l.drop (posC l k+1)) x=getC l x:=by
 have hn2:(idsC (l.take (posC l k)++l.drop (posC l k+1))).Nodup:=by rw[del_ids hn h];exact hn.erase _
 have hm:=getC_mem hx
 have hm2:getC (l.take (posC l k)++l.drop (posC l k+1)) x∈l:=by
  rcases List.mem_append.1 hm with q|q
  ·exact List.mem_of_mem_take q
  ·exact List.mem_of_mem_drop q
 have:=getC_of hn hm2
 rw[(posC_lt hx).2]at this
 exact this.symm
theorem del_map {l:List Cl} (hn:(idsC l).Nodup) {k:Int} (h:k∈idsC l):
  MapEq kW (mdel (idsC l) k) (idsC (l.take (posC l k)++l.drop (posC l k+1))) (valC l) (valC (l.take (posC l k)++l.drop (posC l k+1))):=by
 refine⟨by rw[del_ids hn h];rfl,fun x hx=>?_⟩
 have e:=del_getC hn h hx
 unfold getC at e
 unfold valC
 rw[e]
 exact⟨rfl,rfl,trivial⟩
structure Nx where
 most:Int
 ages:Int
def okN (x:Nx):Prop:=0<=x.most/\1<=x.ages/\x.ages<=1099511627776
instance (x:Nx):Decidable (okN x):=by unfold okN;infer_instance
def qnC:CT where
 X:=Nx
 pre:=okN
 args:=fun x=>[.i .i64 x.most,.i .i64 x.ages]
 g0:=fun _=>[]
 res:=fun _=>.tup [.p 1 0 0,.i .i64 0]
 g1:=fun x=>qH 1 .own ⟨x.most,x.ages,[]⟩
def qnNoC:CT where
 X:=Nx
 pre:=fun x=>¬ okN x
 args:=fun x=>[.i .i64 x.most,.i .i64 x.ages]
 g0:=fun _=>[]
 res:=fun _=>.tup [.np,.i .i64 1]
 g1:=fun _=>[]
set_option maxRecDepth 100000 in
theorem qn_keeps:Keeps cfgN0 Try.f11 qnC noIv:=Eq.mp (show((∀ x1:Nx,((okN x1)->(((decide (x1.most<(0:Int))=false)->(((decide (x1.ages<(1:Int))=false)->(((decide (1099511627776<x1.ages)=true)->(((False)/\(((1:Int)=0)/\True))/\((False)/\((False)/\True))))/\((decide (1099511627776<x1.ages)=false)->(((0=0/\0=0)/\(((0:Int)=0)/\True))/\((x1.most=x1.most/\(x1.ages=x1.ages/\(True/\True)))/\((MapEq [.int .i64,.int .i64] (@List.nil Int) (idsC (@List.nil Cl)) (fun(x:Int) (j:Nat)=>zRow [.int .i64,.int .i64] j) (valC (@List.nil Cl)))/\True))))))/\((decide (x1.ages<(1:Int))=true)->(((False)/\(((1:Int)=0)/\True))/\((False)/\((False)/\True))))))/\((decide (x1.most<(0:Int))=true)->(((False)/\(((1:Int)=0)/\True))/\((False)/\((False)/\True))))))))=(Keeps cfgN0 Try.f11 qnC noIv) by kernel_rfl) (fun x1=>fun h2=>⟨fun g3=>have h3:=dF g3;⟨fun g4=>have h4:=dF g4;⟨fun g5=>have h5:=dT g5;⟨⟨(by(unfold okN at h2;exfalso;omega)),
(by(unfold okN at h2;exfalso;omega)),trivial⟩,
(by(unfold okN at h2;exfalso;omega)),
(by(unfold okN at h2;exfalso;omega)),trivial⟩,
fun g6=>have h6:=dF g6;⟨⟨⟨rfl,rfl⟩,rfl,trivial⟩,
⟨rfl,rfl,trivial,trivial⟩,
(by exact⟨List.Perm.refl _,fun k hk=>by simp[idsC]at hk⟩),trivial⟩⟩,
fun g7=>have h7:=dT g7;⟨⟨(by(unfold okN at h2;exfalso;omega)),
(by(unfold okN at h2;exfalso;omega)),trivial⟩,
(by(unfold okN at h2;exfalso;omega)),
(by(unfold okN at h2;exfalso;omega)),trivial⟩⟩,
fun g8=>have h8:=dT g8;⟨⟨(by(unfold okN at h2;exfalso;omega)),
(by(unfold okN at h2;exfalso;omega)),trivial⟩,
(by(unfold okN at h2;exfalso;omega)),
(by(unfold okN at h2;exfalso;omega)),trivial⟩⟩)
theorem qn_good:Good Try.prog 11 qnC/\FnOk Try.prog 11:=good_of tok conN0 (fn:=Try.f11) rfl (by decide+kernel) (fun _=>rfl) qn_keeps
set_option maxRecDepth 100000 in
theorem qnNo_keeps:Keeps cfgN0 Try.f11 qnNoC noIv:=Eq.mp (show((∀ x1:Nx,((¬okN x1)->(((decide (x1.most<(0:Int))=false)->(((decide (x1.ages<(1:Int))=false)->(((decide (1099511627776<x1.ages)=true)->((True/\(((1:Int)=1)/\True))/\True))/\((decide (1099511627776<x1.ages)=false)->(((False)/\(((0:Int)=1)/\True))/\True))))/\((decide (x1.ages<(1:Int))=true)->((True/\(((1:Int)=1)/\True))/\True))))/\((decide (x1.most<(0:Int))=true)->((True/\(((1:Int)=1)/\True))/\True))))))=(Keeps cfgN0 Try.f11 qnNoC noIv) by kernel_rfl) (fun x1=>fun h2=>⟨fun g3=>have h3:=dF g3;⟨fun g4=>have h4:=dF g4;⟨fun g5=>have h5:=dT g5;⟨⟨trivial,rfl,trivial⟩,trivial⟩,
fun g6=>have h6:=dF g6;⟨⟨(by(unfold okN at h2;exfalso;omega)),
(by(unfold okN at h2;exfalso;omega)),trivial⟩,trivial⟩⟩,
fun g7=>have h7:=dT g7;⟨⟨trivial,rfl,trivial⟩,trivial⟩⟩,
fun g8=>have h8:=dT g8;⟨⟨trivial,rfl,trivial⟩,trivial⟩⟩)
theorem qnNo_good:Good Try.prog 11 qnNoC/\FnOk Try.prog 11:=good_of tok conN0 (fn:=Try.f11) rfl (by decide+kernel) (fun _=>rfl) qnNo_keeps
def qlC:CT where
 X:=Qs
 pre:=fun _=>True
 args:=fun _=>[.p 100000 0 0]
 g0:=fun q=>qH 100000 .bor q
 res:=fun q=>.i .i64 q.l.length
 g1:=fun _=>[]
set_option maxRecDepth 100000 in
theorem ql_keeps:Keeps cfgN0 Try.f14 qlC noIv:=Eq.mp (show((∀ x1:Qs,(True->(((↑(idsC x1.l).length:Int)=(x1.l.length:Int))/\True))))=(Keeps cfgN0 Try.f14 qlC noIv) by kernel_rfl) (fun x1=>fun h2=>⟨(by(have e:=ids_len x1.l;omega)),trivial⟩)
theorem ql_good:Good Try.prog 14 qlC/\FnOk Try.prog 14:=good_of tok conN0 (fn:=Try.f14) rfl (by decide+kernel) (fun _=>rfl) ql_keeps
structure Ax where
 q:Qs
 k:Int
 u:Int
 s:Int
def qaC:CT where
 X:=Ax
 pre:=fun x=>(idsC x.q.l).Nodup
 args:=fun x=>[.p 100000 0 0,.i .i64 x.k,.i .i64 x.u,.i .i64 x.s]
 g0:=fun x=>qH 100000 .own x.q
 res:=fun x=>.i .i64 (addR x.q.l x.k x.u x.s)
 g1:=fun x=>qH 100000 .own { x.q with l:=addL x.q.l x.k x.u x.s }
set_option maxRecDepth 100000 in
theorem qa_keeps:Keeps cfgN0 Try.f26 qaC noIv:=Eq.mp (show((∀ x1:Ax,((List.Nodup (idsC x1.q.l))->(((decide (x1.k<(1:Int))=false)->(((decide (x1.u<(1:Int))=false)->(((decide (5<x1.u)=false)->(((decide (x1.s<(0:Int))=false)->(((decide (1099511627776<x1.s)=true)->(((1:Int)=addR x1.q.l x1.k x1.u x1.s)/\((x1.q.most=x1.q.most/\(x1.q.ages=x1.q.ages/\(True/\True)))/\((MapEq [.int .i64,.int .i64] (idsC x1.q.l) (idsC (addL x1.q.l x1.k x1.u x1.s)) (valC x1.q.l) (valC (addL x1.q.l x1.k x1.u x1.s)))/\True))))/\((decide (1099511627776<x1.s)=false)->(((decide (x1.k∈idsC x1.q.l)=true)->(((5:Int)=addR x1.q.l x1.k x1.u x1.s)/\((x1.q.most=x1.q.most/\(x1.q.ages=x1.q.ages/\(True/\True)))/\((MapEq [.int .i64,.int .i64] (idsC x1.q.l) (idsC (addL x1.q.l x1.k x1.u x1.s)) (valC x1.q.l) (valC (addL x1.q.l x1.k x1.u x1.s)))/\True))))/\((decide (x1.k∈idsC x1.q.l)=false)->((True/\(True/\True))/\(((0:Int)=addR x1.q.l x1.k x1.u x1.s)/\((x1.q.most=x1.q.most/\(x1.q.ages=x1.q.ages/\(True/\True)))/\((MapEq [.int .i64,.int .i64] (madd1 (idsC x1.q.l) x1.k) (idsC (addL x1.q.l x1.k x1.u x1.s)) (mset (valC x1.q.l) x1.k fun(j:Nat)=>(D.i x1.u::D.i x1.s::@List.nil D).getD j (D.i 0)) (valC (addL x1.q.l x1.k x1.u x1.s)))/\True)))))))))/\((decide (x1.s<(0:Int))=true)->(((1:Int)=addR x1.q.l x1.k x1.u x1.s)/\((x1.q.most=x1.q.most/\(x1.q.ages=x1.q.ages/\(True/\True)))/\((MapEq [.int .i64,.int .i64] (idsC x1.q.l) (idsC (addL x1.q.l x1.k x1.u x1.s)) (valC x1.q.l) (valC (addL x1.q.l x1.k x1.u x1.s)))/\True))))))/\((decide (5<x1.u)=true)->(((1:Int)=addR x1.q.l x1.k x1.u x1.s)/\((x1.q.most=x1.q.most/\(x1.q.ages=x1.q.ages/\(True/\True)))/\((MapEq [.int .i64,.int .i64] (idsC x1.q.l) (idsC (addL x1.q.l x1.k x1.u x1.s)) (valC x1.q.l) (valC (addL x1.q.l x1.k x1.u x1.s)))/\True))))))/\((decide (x1.u<(1:Int))=true)->(((1:Int)=addR x1.q.l x1.k x1.u x1.s)/\((x1.q.most=x1.q.most/\(x1.q.ages=x1.q.ages/\(True/\True)))/\((MapEq [.int .i64,.int .i64] (idsC x1.q.l) (idsC (addL x1.q.l x1.k x1.u x1.s)) (valC x1.q.l) (valC (addL x1.q.l x1.k x1.u x1.s)))/\True))))))/\((decide (x1.k<(1:Int))=true)->(((1:Int)=addR x1.q.l x1.k x1.u x1.s)/\((x1.q.most=x1.q.most/\(x1.q.ages=x1.q.ages/\(True/\True)))/\((MapEq [.int .i64,.int .i64] (idsC x1.q.l) (idsC (addL x1.q.l x1.k x1.u x1.s)) (valC x1.q.l) (valC (addL x1.q.l x1.k x1.u x1.s)))/\True))))))))=(Keeps cfgN0 Try.f26 qaC noIv) by kernel_rfl) (fun x1=>fun h2=>⟨fun g3=>have h3:=dF g3;⟨fun g4=>have h4:=dF g4;⟨fun g5=>have h5:=dF g5;⟨fun g6=>have h6:=dF g6;⟨fun g7=>have h7:=dT g7;⟨(by((try simp only[decide_eq_true_eq,decide_eq_false_iff_not]at *);have e:=add_no (l:=x1.q.l) (k:=x1.k) (u:=x1.u) (s:=x1.s) (by unfold badC;omega);first|exact e.2.symm|(simp only[e.1];exact MapEq.rfl'))),
⟨rfl,rfl,trivial,trivial⟩,
(by((try simp only[decide_eq_true_eq,decide_eq_false_iff_not]at *);have e:=add_no (l:=x1.q.l) (k:=x1.k) (u:=x1.u) (s:=x1.s) (by unfold badC;omega);first|exact e.2.symm|(simp only[e.1];exact MapEq.rfl'))),trivial⟩,
fun g8=>have h8:=dF g8;⟨fun g9=>have h9:=dT g9;⟨(by((try simp only[decide_eq_true_eq,decide_eq_false_iff_not]at *);have e:=add_in (l:=x1.q.l) (k:=x1.k) (u:=x1.u) (s:=x1.s) (by unfold badC;omega) ‹_›;first|exact e.2.symm|(simp only[e.1];exact MapEq.rfl'))),
⟨rfl,rfl,trivial,trivial⟩,
(by((try simp only[decide_eq_true_eq,decide_eq_false_iff_not]at *);have e:=add_in (l:=x1.q.l) (k:=x1.k) (u:=x1.u) (s:=x1.s) (by unfold badC;omega) ‹_›;first|exact e.2.symm|(simp only[e.1];exact MapEq.rfl'))),trivial⟩,
fun g10=>have h10:=dF g10;⟨⟨trivial,trivial,trivial⟩,
(by((try simp only[decide_eq_true_eq,decide_eq_false_iff_not]at *);have e:=add_yes (l:=x1.q.l) (k:=x1.k) (u:=x1.u) (s:=x1.s) (by unfold badC;omega) ‹_›;first|exact e.2.symm|(simp only[e.1];exact add_map ‹_›))),
⟨rfl,rfl,trivial,trivial⟩,
(by((try simp only[decide_eq_true_eq,decide_eq_false_iff_not]at *);have e:=add_yes (l:=x1.q.l) (k:=x1.k) (u:=x1.u) (s:=x1.s) (by unfold badC;omega) ‹_›;first|exact e.2.symm|(simp only[e.1];exact add_map ‹_›))),trivial⟩⟩⟩,
fun g11=>have h11:=dT g11;⟨(by((try simp only[decide_eq_true_eq,decide_eq_false_iff_not]at *);have e:=add_no (l:=x1.q.l) (k:=x1.k) (u:=x1.u) (s:=x1.s) (by unfold badC;omega);first|exact e.2.symm|(simp only[e.1];exact MapEq.rfl'))),
⟨rfl,rfl,trivial,trivial⟩,
(by((try simp only[decide_eq_true_eq,decide_eq_false_iff_not]at *);have e:=add_no (l:=x1.q.l) (k:=x1.k) (u:=x1.u) (s:=x1.s) (by unfold badC;omega);first|exact e.2.symm|(simp only[e.1];exact MapEq.rfl'))),trivial⟩⟩,
fun g12=>have h12:=dT g12;⟨(by((try simp only[decide_eq_true_eq,decide_eq_false_iff_not]at *);have e:=add_no (l:=x1.q.l) (k:=x1.k) (u:=x1.u) (s:=x1.s) (by unfold badC;omega);first|exact e.2.symm|(simp only[e.1];exact MapEq.rfl'))),
⟨rfl,rfl,trivial,trivial⟩,
(by((try simp only[decide_eq_true_eq,decide_eq_false_iff_not]at *);have e:=add_no (l:=x1.q.l) (k:=x1.k) (u:=x1.u) (s:=x1.s) (by unfold badC;omega);first|exact e.2.symm|(simp only[e.1];exact MapEq.rfl'))),trivial⟩⟩,
fun g13=>have h13:=dT g13;⟨(by((try simp only[decide_eq_true_eq,decide_eq_false_iff_not]at *);have e:=add_no (l:=x1.q.l) (k:=x1.k) (u:=x1.u) (s:=x1.s) (by unfold badC;omega);first|exact e.2.symm|(simp only[e.1];exact MapEq.rfl'))),
⟨rfl,rfl,trivial,trivial⟩,
(by((try simp only[decide_eq_true_eq,decide_eq_false_iff_not]at *);have e:=add_no (l:=x1.q.l) (k:=x1.k) (u:=x1.u) (s:=x1.s) (by unfold badC;omega);first|exact e.2.symm|(simp only[e.1];exact MapEq.rfl'))),trivial⟩⟩,
fun g14=>have h14:=dT g14;⟨(by((try simp only[decide_eq_true_eq,decide_eq_false_iff_not]at *);have e:=add_no (l:=x1.q.l) (k:=x1.k) (u:=x1.u) (s:=x1.s) (by unfold badC;omega);first|exact e.2.symm|(simp only[e.1];exact MapEq.rfl'))),
⟨rfl,rfl,trivial,trivial⟩,
(by((try simp only[decide_eq_true_eq,decide_eq_false_iff_not]at *);have e:=add_no (l:=x1.q.l) (k:=x1.k) (u:=x1.u) (s:=x1.s) (by unfold badC;omega);first|exact e.2.symm|(simp only[e.1];exact MapEq.rfl'))),trivial⟩⟩)
theorem qa_good:Good Try.prog 26 qaC/\FnOk Try.prog 26:=good_of tok conN0 (fn:=Try.f26) rfl (by decide+kernel) (fun _=>rfl) qa_keeps
def qsC:CT where
 X:=Ax
 pre:=fun x=>(idsC x.q.l).Nodup
 args:=fun x=>[.p 100000 0 0,.i .i64 x.k,.i .i64 x.u]
 g0:=fun x=>qH 100000 .own x.q
 res:=fun x=>.i .i64 (setR x.q.l x.k x.u)
 g1:=fun x=>qH 100000 .own { x.q with l:=setL x.q.l x.k x.u }
set_option maxRecDepth 100000 in
theorem qs_keeps:Keeps cfgN0 Try.f27 qsC noIv:=Eq.mp (show((∀ x1:Ax,((List.Nodup (idsC x1.q.l))->(((decide (x1.u<(1:Int))=false)->(((decide (5<x1.u)=true)->(((1:Int)=setR x1.q.l x1.k x1.u)/\((x1.q.most=x1.q.most/\(x1.q.ages=x1.q.ages/\(True/\True)))/\((MapEq [.int .i64,.int .i64] (idsC x1.q.l) (idsC (setL x1.q.l x1.k x1.u)) (valC x1.q.l) (valC (setL x1.q.l x1.k x1.u)))/\True))))/\((decide (5<x1.u)=false)->((((!decide (x1.k∈idsC x1.q.l))=true)->(((4:Int)=setR x1.q.l x1.k x1.u)/\((x1.q.most=x1.q.most/\(x1.q.ages=x1.q.ages/\(True/\True)))/\((MapEq [.int .i64,.int .i64] (idsC x1.q.l) (idsC (setL x1.q.l x1.k x1.u)) (valC x1.q.l) (valC (setL x1.q.l x1.k x1.u)))/\True))))/\(((!decide (x1.k∈idsC x1.q.l))=false)->((True/\(True/\True))/\(((0:Int)=setR x1.q.l x1.k x1.u)/\((x1.q.most=x1.q.most/\(x1.q.ages=x1.q.ages/\(True/\True)))/\((MapEq [.int .i64,.int .i64] (madd1 (idsC x1.q.l) x1.k) (idsC (setL x1.q.l x1.k x1.u)) (mset (valC x1.q.l) x1.k fun(j:Nat)=>(D.i x1.u::D.i (D.toI (if x1.k∈idsC x1.q.l then valC x1.q.l x1.k 1 else D.i 0))::@List.nil D).getD j (D.i 0)) (valC (setL x1.q.l x1.k x1.u)))/\True)))))))))/\((decide (x1.u<(1:Int))=true)->(((1:Int)=setR x1.q.l x1.k x1.u)/\((x1.q.most=x1.q.most/\(x1.q.ages=x1.q.ages/\(True/\True)))/\((MapEq [.int .i64,.int .i64] (idsC x1.q.l) (idsC (setL x1.q.l x1.k x1.u)) (valC x1.q.l) (valC (setL x1.q.l x1.k x1.u)))/\True))))))))=(Keeps cfgN0 Try.f27 qsC noIv) by kernel_rfl) (fun x1=>fun h2=>⟨fun g3=>have h3:=dF g3;⟨fun g4=>have h4:=dT g4;⟨(by((try simp only[decide_eq_true_eq,decide_eq_false_iff_not]at *);have e:=set_no (l:=x1.q.l) (k:=x1.k) (u:=x1.u) (by unfold badU;omega);first|exact e.2.symm|(simp only[e.1];exact MapEq.rfl'))),
⟨rfl,rfl,trivial,trivial⟩,
(by((try simp only[decide_eq_true_eq,decide_eq_false_iff_not]at *);have e:=set_no (l:=x1.q.l) (k:=x1.k) (u:=x1.u) (by unfold badU;omega);first|exact e.2.symm|(simp only[e.1];exact MapEq.rfl'))),trivial⟩,
fun g5=>have h5:=dF g5;⟨fun g6=>have h6:=nT g6;⟨(by(have e:=set_out (l:=x1.q.l) (k:=x1.k) (u:=x1.u) (by unfold badU;omega) ‹_›;first|exact e.2.symm|(simp only[e.1];exact MapEq.rfl'))),
⟨rfl,rfl,trivial,trivial⟩,
(by(have e:=set_out (l:=x1.q.l) (k:=x1.k) (u:=x1.u) (by unfold badU;omega) ‹_›;first|exact e.2.symm|(simp only[e.1];exact MapEq.rfl'))),trivial⟩,
fun g7=>have h7:=nF g7;⟨⟨trivial,trivial,trivial⟩,
(by(have e:=set_yes (l:=x1.q.l) (k:=x1.k) (u:=x1.u) (by unfold badU;omega) ‹_›;first|exact e.2.symm|(simp only[e.1];exact set_map h2 ‹_› rfl (by rw[if_pos ‹_›];rfl)))),
⟨rfl,rfl,trivial,trivial⟩,
(by(have e:=set_yes (l:=x1.q.l) (k:=x1.k) (u:=x1.u) (by unfold badU;omega) ‹_›;first|exact e.2.symm|(simp only[e.1];exact set_map h2 ‹_› rfl (by rw[if_pos ‹_›];rfl)))),trivial⟩⟩⟩,
fun g8=>have h8:=dT g8;⟨(by((try simp only[decide_eq_true_eq,decide_eq_false_iff_not]at *);have e:=set_no (l:=x1.q.l) (k:=x1.k) (u:=x1.u) (by unfold badU;omega);first|exact e.2.symm|(simp only[e.1];exact MapEq.rfl'))),
⟨rfl,rfl,trivial,trivial⟩,
(by((try simp only[decide_eq_true_eq,decide_eq_false_iff_not]at *);have e:=set_no (l:=x1.q.l) (k:=x1.k) (u:=x1.u) (by unfold badU;omega);first|exact e.2.symm|(simp only[e.1];exact MapEq.rfl'))),trivial⟩⟩)
theorem qs_good:Good Try.prog 27 qsC/\FnOk Try.prog 27:=good_of tok conN0 (fn:=Try.f27) rfl (by decide+kernel) (fun _=>rfl) qs_keeps
def qrC:CT where
 X:=Ax
 pre:=fun x=>(idsC x.q.l).Nodup
 args:=fun x=>[.p 100000 0 0,.i .i64 x.k]
 g0:=fun x=>qH 100000 .own x.q
 res:=fun x=>.b (decide (x.k∈idsC x.q.l))
 g1:=fun x=>qH 100000 .own { x.q with l:=delL x.q.l x.k }
set_option maxRecDepth 100000 in
theorem qr_keeps:Keeps cfgN0 Try.f28 qrC noIv:=Eq.mp (show((∀ x1:Ax,((List.Nodup (idsC x1.q.l))->((((!decide (x1.k∈idsC x1.q.l))=true)->((false=decide (x1.k∈idsC x1.q.l))/\((x1.q.most=x1.q.most/\(x1.q.ages=x1.q.ages/\(True/\True)))/\((MapEq [.int .i64,.int .i64] (idsC x1.q.l) (idsC (delL x1.q.l x1.k)) (valC x1.q.l) (valC (delL x1.q.l x1.k)))/\True))))/\(((!decide (x1.k∈idsC x1.q.l))=false)->((true=decide (x1.k∈idsC x1.q.l))/\((x1.q.most=x1.q.most/\(x1.q.ages=x1.q.ages/\(True/\True)))/\((MapEq [.int .i64,.int .i64] (mdel (idsC x1.q.l) x1.k) (idsC (delL x1.q.l x1.k)) (valC x1.q.l) (valC (delL x1.q.l x1.k)))/\True))))))))=(Keeps cfgN0 Try.f28 qrC noIv) by kernel_rfl) (fun x1=>fun h2=>⟨fun g3=>have h3:=nT g3;⟨(by grind),
⟨rfl,rfl,trivial,trivial⟩,
(by(have e:=del_no (l:=x1.q.l) (k:=x1.k) ‹_›;simp only[e];exact MapEq.rfl')),trivial⟩,
fun g4=>have h4:=nF g4;⟨(by grind),
⟨rfl,rfl,trivial,trivial⟩,
(by(have e:=del_yes (l:=x1.q.l) (k:=x1.k) ‹_›;simp only[e];exact del_map h2 ‹_›)),trivial⟩⟩)
theorem qr_good:Good Try.prog 28 qrC/\FnOk Try.prog 28:=good_of tok conN0 (fn:=Try.f28) rfl (by decide+kernel) (fun _=>rfl) qr_keeps
structure Wx where
 q:Qs
 k:Int
 now:Int
def waitF (x:Wx):Int:=if x.k∈idsC x.q.l then elF x.now (getC x.q.l x.k).since else 0
def qwC:CT where
 X:=Wx
 pre:=fun _=>True
 args:=fun x=>[.p 100000 0 0,.i .i64 x.k,.i .i64 x.now]
 g0:=fun x=>qH 100000 .bor x.q
 res:=fun x=>.tup [.i .i64 (waitF x),.b (decide (x.k∈idsC x.q.l))]
 g1:=fun _=>[]
def cfgQw:Cfg:=⟨T,[],[(37,.one elC)],noInv,20,{}⟩
theorem conQw:ConOk Try.prog cfgQw:=ConL.ok (.cons (ConL.one el_good) .nil)
set_option maxRecDepth 100000 in
theorem qw_keeps:Keeps cfgQw Try.f22 qwC noIv:=Eq.mp (show((∀ x1:Wx,(True->((((!decide (x1.k∈idsC x1.q.l))=true)->((((0:Int)=waitF x1)/\((false=decide (x1.k∈idsC x1.q.l))/\True))/\True))/\(((!decide (x1.k∈idsC x1.q.l))=false)->(∃ x5:I2x,(True/\((x1.now=x5.a/\((D.toI (if x1.k∈idsC x1.q.l then valC x1.q.l x1.k 1 else D.i 0)=x5.b)/\True))/\(True/\(((elF x5.a x5.b=waitF x1)/\((true=decide (x1.k∈idsC x1.q.l))/\True))/\True))))))))))=(Keeps cfgQw Try.f22 qwC noIv) by kernel_rfl) (fun x1=>fun h2=>⟨fun g3=>have h3:=nT g3;⟨⟨(by(exact(if_neg ‹_›).symm)),
(by grind),trivial⟩,trivial⟩,
fun g4=>have h4:=nF g4;⟨({ a:=Wx.now x1,b:=D.toI (if Wx.k x1∈idsC (Qs.l (Wx.q x1))then valC (Qs.l (Wx.q x1)) (Wx.k x1) (1:Nat)else D.i (0:Int)):I2x }),trivial,
⟨rfl,rfl,trivial⟩,trivial,
⟨(by(try dsimp only at *);(unfold waitF;rw[if_pos ‹_›,if_pos ‹_›];rfl)),
(by(try dsimp only at *);grind),trivial⟩,trivial⟩⟩)
theorem qw_good:Good Try.prog 22 qwC/\FnOk Try.prog 22:=good_of tok conQw (fn:=Try.f22) rfl (by decide+kernel) (fun _=>rfl) qw_keeps
end Go.Sym