import Derived.Test.YtakbmbmpcenljaaT11
import Derived.Test.YtakbmbmpcenljaaT09
import Derived.Test.YtakbmbmpcenljaaXD
namespace Go.Sym
set_option linter.unusedVariables false
set_option linter.unusedSimpArgs false
open Go.Proofs
set_option maxRecDepth 100000
set_option maxHeartbeats 4000000
def pAt (q:Qs) (now k:Int):Pl:=plF q.ages now (getC q.l k)
theorem pok_of {q:Qs} (h:QOk q) (now:Int) {c:Cl} (hc:c∈q.l):Pok ⟨q,c,now⟩:=⟨h.a.1,(h.c c hc).u⟩
theorem perm_erase {l:List Int} {k:Int} (h:k∈l):l.Perm (k::l.erase k):=List.perm_cons_erase h
def aheadF (x:Wx):Nat:=(idsC x.q.l).countP fun k=>ltP (pAt x.q x.now k) (pAt x.q x.now x.k)
def poC:CT where
 X:=Wx
 pre:=fun x=>QOk x.q/\x.q.l.length<=30
 args:=fun x=>[.p 100000 0 0,.i .i64 x.k,.i .i64 x.now]
 g0:=fun x=>qH 100000 .bor x.q
 res:=fun x=>.tup [.i .i64 (if x.k∈idsC x.q.l then aheadF x else 0),.b (decide (x.k∈idsC x.q.l))]
 g1:=fun _=>[]
structure CntX where
 left:List Int
 n:Nat
structure CntI (x:Wx) (s:CntX):Prop where
 m:∀ k∈s.left,k∈idsC x.q.l
 c:s.n+s.left.countP (fun k=>ltP (pAt x.q x.now k) (pAt x.q x.now x.k))=aheadF x
def poI (x:Wx) (id:Nat):Option Inv:=match id with
 |0=>some { X:=CntX,ok:=CntI x,fr:=fun s=>[(11,.i .i64 s.n)],hp:=fun _=>[],me:=fun _=>0,left:=fun s=>s.left }
 |_=>none
def cfgPo:Cfg:=⟨T,[],[(33,.one qpC),(35,.one qcC)],noInv,60,{ scp:=true }⟩
theorem conPo:ConOk Try.prog cfgPo:=ConL.ok (.cons (ConL.one qp_good) (.cons (ConL.one qc_good) .nil))
theorem cnt_yes {x:Wx} {s:CntX} (h:CntI x s) {k:Int} (hk:k∈s.left) (hl:cmpP (pAt x.q x.now k) (pAt x.q x.now x.k)<0):CntI x ⟨s.left.erase k,s.n+1⟩:=by
 refine⟨fun j hj=>h.m j (List.mem_of_mem_erase hj),?_⟩
 have e:=h.c
 rw[(perm_erase hk).countP_eq,List.countP_cons,if_pos (show ltP _ _=true from decide_eq_true hl)]at e
 show s.n+1+List.countP (fun k=>ltP (pAt x.q x.now k) (pAt x.q x.now x.k)) (s.left.erase k)=_
 omega
theorem cnt_no {x:Wx} {s:CntX} (h:CntI x s) {k:Int} (hk:k∈s.left) (hl:¬ cmpP (pAt x.q x.now k) (pAt x.q x.now x.k)<0):CntI x ⟨s.left.erase k,s.n⟩:=by
 refine⟨fun j hj=>h.m j (List.mem_of_mem_erase hj),?_⟩
 have e:=h.c
 rw[(perm_erase hk).countP_eq,List.countP_cons,if_neg (by show ¬ ltP _ _=true;unfold ltP;rw[decide_eq_false hl];decide)]at e
 show s.n+List.countP (fun k=>ltP (pAt x.q x.now k) (pAt x.q x.now x.k)) (s.left.erase k)=_
 omega
theorem ahead_le (x:Wx):aheadF x<=x.q.l.length:=by have:=List.countP_le_length (p:=fun k=>ltP (pAt x.q x.now k) (pAt x.q x.now x.k)) (l:=idsC x.q.l);rw[ids_len]at this;exact this
theorem cnt_le {x:Wx} {s:CntX} (h:CntI x s):s.n<=x.q.l.length:=by have:=ahead_le x;have:=h.c;omega
theorem cnt_end {x:Wx} {s:CntX} (h:CntI x s) (e:s.left=[]):s.n=aheadF x:=by have:=h.c;rw[e]at this;simpa using this
theorem pok_at {q:Qs} (h:QOk q) {now:Int} {k:Int} (hk:k∈idsC q.l):Pok ⟨q,getC q.l k,now⟩:=pok_of h now (getC_mem hk)
set_option maxRecDepth 100000 in
theorem po_keeps:Keeps cfgPo Try.f21 poC poI:=Eq.mp (show((∀ x1:Wx,((QOk x1.q/\x1.q.l.length<=(30:Nat))->((((!decide (x1.k∈idsC x1.q.l))=true)->((((0:Int)=if x1.k∈idsC x1.q.l then(↑(aheadF x1):Int)else(0:Int))/\((false=decide (x1.k∈idsC x1.q.l))/\True))/\True))/\(((!decide (x1.k∈idsC x1.q.l))=false)->(∃ x5:Px,((Pok x5)/\(((0=0/\0=0)/\(x1.k=x5.c.id/\(((D.toI (if x1.k∈idsC x1.q.l then valC x1.q.l x1.k 0 else D.i 0)=x5.c.urg)/\((D.toI (if x1.k∈idsC x1.q.l then valC x1.q.l x1.k 1 else D.i 0)=x5.c.since)/\True))/\(x1.now=x5.now/\True))))/\(((x1.q.most=x5.q.most/\(x1.q.ages=x5.q.ages/\(True/\True)))/\((MapEq [.int .i64,.int .i64] (idsC x1.q.l) (idsC x5.q.l) (valC x1.q.l) (valC x5.q.l))/\True))/\(∃ x6:CntX,(((CntI x1 x6)/\(((0=(x6.n:Int))/\(True/\((0=0/\((2:Nat)=(2:Nat)))/\((0=0/\0=0)/\((0=0/\0=0)/\((0=0/\0=0)/\((((plF x5.q.ages x5.now x5.c).rk=(plF x5.q.ages x5.now x5.c).rk)/\(((plF x5.q.ages x5.now x5.c).si=(plF x5.q.ages x5.now x5.c).si)/\(((plF x5.q.ages x5.now x5.c).ca=(plF x5.q.ages x5.now x5.c).ca)/\True)))/\(x1.now=x1.now/\(((D.toI (if x1.k∈idsC x1.q.l then valC x1.q.l x1.k 0 else D.i 0)=D.toI (if x1.k∈idsC x1.q.l then valC x1.q.l x1.k 0 else D.i 0))/\((D.toI (if x1.k∈idsC x1.q.l then valC x1.q.l x1.k 1 else D.i 0)=D.toI (if x1.k∈idsC x1.q.l then valC x1.q.l x1.k 1 else D.i 0))/\True))/\(x1.k=x1.k/\((0=0/\0=0)/\(((!decide (x1.k∈idsC x1.q.l))= !decide (x1.k∈idsC x1.q.l))/\((decide (x1.k∈idsC x1.q.l)=decide (x1.k∈idsC x1.q.l))/\((decide (x1.k∈idsC x1.q.l)=decide (x1.k∈idsC x1.q.l))/\((0=0/\0=0)/\((decide (x1.k∈idsC x1.q.l)=decide (x1.k∈idsC x1.q.l))/\(((D.toI (if x1.k∈idsC x1.q.l then valC x1.q.l x1.k 0 else D.i 0)=D.toI (if x1.k∈idsC x1.q.l then valC x1.q.l x1.k 0 else D.i 0))/\((D.toI (if x1.k∈idsC x1.q.l then valC x1.q.l x1.k 1 else D.i 0)=D.toI (if x1.k∈idsC x1.q.l then valC x1.q.l x1.k 1 else D.i 0))/\True))/\((((D.toI (if x1.k∈idsC x1.q.l then valC x1.q.l x1.k 0 else D.i 0)=D.toI (if x1.k∈idsC x1.q.l then valC x1.q.l x1.k 0 else D.i 0))/\((D.toI (if x1.k∈idsC x1.q.l then valC x1.q.l x1.k 1 else D.i 0)=D.toI (if x1.k∈idsC x1.q.l then valC x1.q.l x1.k 1 else D.i 0))/\True))/\((decide (x1.k∈idsC x1.q.l)=decide (x1.k∈idsC x1.q.l))/\True))/\((((D.toI (if x1.k∈idsC x1.q.l then valC x1.q.l x1.k 0 else D.i 0)=D.toI (if x1.k∈idsC x1.q.l then valC x1.q.l x1.k 0 else D.i 0))/\((D.toI (if x1.k∈idsC x1.q.l then valC x1.q.l x1.k 1 else D.i 0)=D.toI (if x1.k∈idsC x1.q.l then valC x1.q.l x1.k 1 else D.i 0))/\True))/\((decide (x1.k∈idsC x1.q.l)=decide (x1.k∈idsC x1.q.l))/\True))/\(x1.k=x1.k/\(True/\((0=0/\((2:Nat)=(2:Nat)))/\((0=0/\0=0)/\((0=0/\0=0)/\(false=false/\(((0:Int)=0)/\((0=0/\0=0)/\(x1.k=x1.k/\(x1.now=x1.now/\True)))))))))))))))))))))))))))))/\((((plF x5.q.ages x5.now x5.c).rk=(plF x5.q.ages x5.now x5.c).rk)/\(((plF x5.q.ages x5.now x5.c).si=(plF x5.q.ages x5.now x5.c).si)/\(((plF x5.q.ages x5.now x5.c).ca=(plF x5.q.ages x5.now x5.c).ca)/\True)))/\(((D.toI (if x1.k∈idsC x1.q.l then valC x1.q.l x1.k 0 else D.i 0)=D.toI (if x1.k∈idsC x1.q.l then valC x1.q.l x1.k 0 else D.i 0))/\((D.toI (if x1.k∈idsC x1.q.l then valC x1.q.l x1.k 1 else D.i 0)=D.toI (if x1.k∈idsC x1.q.l then valC x1.q.l x1.k 1 else D.i 0))/\True))/\((x1.q.most=x1.q.most/\(x1.q.ages=x1.q.ages/\(True/\True)))/\((MapEq [.int .i64,.int .i64] (idsC x1.q.l) (idsC x1.q.l) (valC x1.q.l) (valC x1.q.l))/\True))))))/\((List.Perm (idsC x1.q.l) x6.left)/\(∀ x7:CntX,((CntI x1 x7)->(((x7.left=@List.nil Int)->((((x7.n:Int)=if x1.k∈idsC x1.q.l then(↑(aheadF x1):Int)else(0:Int))/\((true=decide (x1.k∈idsC x1.q.l))/\True))/\True))/\(∀ k10:Int,((k10∈x7.left)->((k10∈idsC x1.q.l)->(∃ x13:Px,((Pok x13)/\(((0=0/\0=0)/\(k10=x13.c.id/\((((x1.q.l.getD (posC x1.q.l k10) default).urg=x13.c.urg)/\(((x1.q.l.getD (posC x1.q.l k10) default).since=x13.c.since)/\True))/\(x1.now=x13.now/\True))))/\(((x1.q.most=x13.q.most/\(x1.q.ages=x13.q.ages/\(True/\True)))/\((MapEq [.int .i64,.int .i64] (idsC x1.q.l) (idsC x13.q.l) (valC x1.q.l) (valC x13.q.l))/\True))/\(∃ x14:P2x,(True/\(((((plF x13.q.ages x13.now x13.c).rk=x14.a.rk)/\(((plF x13.q.ages x13.now x13.c).si=x14.a.si)/\(((plF x13.q.ages x13.now x13.c).ca=x14.a.ca)/\True)))/\((((plF x5.q.ages x5.now x5.c).rk=x14.b.rk)/\(((plF x5.q.ages x5.now x5.c).si=x14.b.si)/\(((plF x5.q.ages x5.now x5.c).ca=x14.b.ca)/\True)))/\True))/\(True/\(((decide (cmpP x14.a x14.b<(0:Int))=true)->((((-9223372036854775808:Int)<=(x7.n:Int)+1)/\((x7.n:Int)+1<=(9223372036854775807:Int)))/\(∃ x16:CntX,((List.Perm x7.left (k10::x16.left))/\((CntI x1 x16)/\(((0=0/\0=0)/\(((x7.n:Int)+1=(x16.n:Int))/\(True/\((0=0/\((2:Nat)=(2:Nat)))/\((0=0/\0=0)/\((0=0/\0=0)/\((0=0/\0=0)/\((((plF x5.q.ages x5.now x5.c).rk=(plF x5.q.ages x5.now x5.c).rk)/\(((plF x5.q.ages x5.now x5.c).si=(plF x5.q.ages x5.now x5.c).si)/\(((plF x5.q.ages x5.now x5.c).ca=(plF x5.q.ages x5.now x5.c).ca)/\True)))/\(x1.now=x1.now/\(((D.toI (if x1.k∈idsC x1.q.l then valC x1.q.l x1.k 0 else D.i 0)=D.toI (if x1.k∈idsC x1.q.l then valC x1.q.l x1.k 0 else D.i 0))/\((D.toI (if x1.k∈idsC x1.q.l then valC x1.q.l x1.k 1 else D.i 0)=D.toI (if x1.k∈idsC x1.q.l then valC x1.q.l x1.k 1 else D.i 0))/\True))/\(x1.k=x1.k/\((0=0/\0=0)/\(((!decide (x1.k∈idsC x1.q.l))= !decide (x1.k∈idsC x1.q.l))/\((decide (x1.k∈idsC x1.q.l)=decide (x1.k∈idsC x1.q.l))/\((decide (x1.k∈idsC x1.q.l)=decide (x1.k∈idsC x1.q.l))/\((0=0/\0=0)/\((decide (x1.k∈idsC x1.q.l)=decide (x1.k∈idsC x1.q.l))/\(((D.toI (if x1.k∈idsC x1.q.l then valC x1.q.l x1.k 0 else D.i 0)=D.toI (if x1.k∈idsC x1.q.l then valC x1.q.l x1.k 0 else D.i 0))/\((D.toI (if x1.k∈idsC x1.q.l then valC x1.q.l x1.k 1 else D.i 0)=D.toI (if x1.k∈idsC x1.q.l then valC x1.q.l x1.k 1 else D.i 0))/\True))/\((((D.toI (if x1.k∈idsC x1.q.l then valC x1.q.l x1.k 0 else D.i 0)=D.toI (if x1.k∈idsC x1.q.l then valC x1.q.l x1.k 0 else D.i 0))/\((D.toI (if x1.k∈idsC x1.q.l then valC x1.q.l x1.k 1 else D.i 0)=D.toI (if x1.k∈idsC x1.q.l then valC x1.q.l x1.k 1 else D.i 0))/\True))/\((decide (x1.k∈idsC x1.q.l)=decide (x1.k∈idsC x1.q.l))/\True))/\((((D.toI (if x1.k∈idsC x1.q.l then valC x1.q.l x1.k 0 else D.i 0)=D.toI (if x1.k∈idsC x1.q.l then valC x1.q.l x1.k 0 else D.i 0))/\((D.toI (if x1.k∈idsC x1.q.l then valC x1.q.l x1.k 1 else D.i 0)=D.toI (if x1.k∈idsC x1.q.l then valC x1.q.l x1.k 1 else D.i 0))/\True))/\((decide (x1.k∈idsC x1.q.l)=decide (x1.k∈idsC x1.q.l))/\True))/\(x1.k=x1.k/\(True/\((0=0/\((2:Nat)=(2:Nat)))/\((0=0/\0=0)/\((0=0/\0=0)/\(false=false/\(((0:Int)=0)/\((0=0/\0=0)/\(x1.k=x1.k/\(x1.now=x1.now/\True))))))))))))))))))))))))))))))/\(True/\((((plF x5.q.ages x5.now x5.c).rk=(plF x5.q.ages x5.now x5.c).rk)/\(((plF x5.q.ages x5.now x5.c).si=(plF x5.q.ages x5.now x5.c).si)/\(((plF x5.q.ages x5.now x5.c).ca=(plF x5.q.ages x5.now x5.c).ca)/\True)))/\(((D.toI (if x1.k∈idsC x1.q.l then valC x1.q.l x1.k 0 else D.i 0)=D.toI (if x1.k∈idsC x1.q.l then valC x1.q.l x1.k 0 else D.i 0))/\((D.toI (if x1.k∈idsC x1.q.l then valC x1.q.l x1.k 1 else D.i 0)=D.toI (if x1.k∈idsC x1.q.l then valC x1.q.l x1.k 1 else D.i 0))/\True))/\((x1.q.most=x1.q.most/\(x1.q.ages=x1.q.ages/\(True/\True)))/\((MapEq [.int .i64,.int .i64] (idsC x1.q.l) (idsC x1.q.l) (valC x1.q.l) (valC x1.q.l))/\True)))))))))))/\((decide (cmpP x14.a x14.b<(0:Int))=false)->(∃ x18:CntX,((List.Perm x7.left (k10::x18.left))/\((CntI x1 x18)/\(((0=0/\0=0)/\(((x7.n:Int)=(x18.n:Int))/\(True/\((0=0/\((2:Nat)=(2:Nat)))/\((0=0/\0=0)/\((0=0/\0=0)/\((0=0/\0=0)/\((((plF x5.q.ages x5.now x5.c).rk=(plF x5.q.ages x5.now x5.c).rk)/\(((plF x5.q.ages x5.now x5.c).si=(plF x5.q.ages x5.now x5.c).si)/\(((plF x5.q.ages x5.now x5.c).ca=(plF x5.q.ages x5.now x5.c).ca)/\True)))/\(x1.now=x1.now/\(((D.toI (if x1.k∈idsC x1.q.l then valC x1.q.l x1.k 0 else D.i 0)=D.toI (if x1.k∈idsC x1.q.l then valC x1.q.l x1.k 0 else D.i 0))/\((D.toI (if x1.k∈idsC x1.q.l then valC x1.q.l x1.k 1 else D.i 0)=D.toI (if x1.k∈idsC x1.q.l then valC x1.q.l x1.k 1 else D.i 0))/\True))/\(x1.k=x1.k/\((0=0/\0=0)/\(((!decide (x1.k∈idsC x1.q.l))= !decide (x1.k∈idsC x1.q.l))/\((decide (x1.k∈idsC x1.q.l)=decide (x1.k∈idsC x1.q.l))/\((decide (x1.k∈idsC x1.q.l)=decide (x1.k∈idsC x1.q.l))/\((0=0/\0=0)/\((decide (x1.k∈idsC x1.q.l)=decide (x1.k∈idsC x1.q.l))/\(((D.toI (if x1.k∈idsC x1.q.l then valC x1.q.l x1.k 0 else D.i 0)=D.toI (if x1.k∈idsC x1.q.l then valC x1.q.l x1.k 0 else D.i 0))/\((D.toI (if x1.k∈idsC x1.q.l then valC x1.q.l x1.k 1 else D.i 0)=D.toI (if x1.k∈idsC x1.q.l then valC x1.q.l x1.k 1 else D.i 0))/\True))/\((((D.toI (if x1.k∈idsC x1.q.l then valC x1.q.l x1.k 0 else D.i 0)=D.toI (if x1.k∈idsC x1.q.l then valC x1.q.l x1.k 0 else D.i 0))/\((D.toI (if x1.k∈idsC x1.q.l then valC x1.q.l x1.k 1 else D.i 0)=D.toI (if x1.k∈idsC x1.q.l then valC x1.q.l x1.k 1 else D.i 0))/\True))/\((decide (x1.k∈idsC x1.q.l)=decide (x1.k∈idsC x1.q.l))/\True))/\((((D.toI (if x1.k∈idsC x1.q.l then valC x1.q.l x1.k 0 else D.i 0)=D.toI (if x1.k∈idsC x1.q.l then valC x1.q.l x1.k 0 else D.i 0))/\((D.toI (if x1.k∈idsC x1.q.l then valC x1.q.l x1.k 1 else D.i 0)=D.toI (if x1.k∈idsC x1.q.l then valC x1.q.l x1.k 1 else D.i 0))/\True))/\((decide (x1.k∈idsC x1.q.l)=decide (x1.k∈idsC x1.q.l))/\True))/\(x1.k=x1.k/\(True/\((0=0/\((2:Nat)=(2:Nat)))/\((0=0/\0=0)/\((0=0/\0=0)/\(false=false/\(((0:Int)=0)/\((0=0/\0=0)/\(x1.k=x1.k/\(x1.now=x1.now/\True))))))))))))))))))))))))))))))/\(True/\((((plF x5.q.ages x5.now x5.c).rk=(plF x5.q.ages x5.now x5.c).rk)/\(((plF x5.q.ages x5.now x5.c).si=(plF x5.q.ages x5.now x5.c).si)/\(((plF x5.q.ages x5.now x5.c).ca=(plF x5.q.ages x5.now x5.c).ca)/\True)))/\(((D.toI (if x1.k∈idsC x1.q.l then valC x1.q.l x1.k 0 else D.i 0)=D.toI (if x1.k∈idsC x1.q.l then valC x1.q.l x1.k 0 else D.i 0))/\((D.toI (if x1.k∈idsC x1.q.l then valC x1.q.l x1.k 1 else D.i 0)=D.toI (if x1.k∈idsC x1.q.l then valC x1.q.l x1.k 1 else D.i 0))/\True))/\((x1.q.most=x1.q.most/\(x1.q.ages=x1.q.ages/\(True/\True)))/\((MapEq [.int .i64,.int .i64] (idsC x1.q.l) (idsC x1.q.l) (valC x1.q.l) (valC x1.q.l))/\True)))))))))))))))))))))))))))))))))))))=(Keeps cfgPo Try.f21 poC poI) by kernel_rfl) (fun x1=>fun h2=>⟨fun g3=>have h3:=nT g3;⟨⟨(by grind),
(by grind),trivial⟩,trivial⟩,
fun g4=>have h4:=nF g4;⟨({ q:=Wx.q x1,c:=getC (Qs.l (Wx.q x1)) (Wx.k x1),now:=Wx.now x1:Px }),
(by(try dsimp only at *);exact pok_at h2.1 ‹_›),
⟨⟨rfl,rfl⟩,
(by(try dsimp only at *);exact(posC_lt ‹_›).2.symm),
⟨(by(try dsimp only at *);(rw[if_pos ‹_›];rfl)),
(by(try dsimp only at *);(rw[if_pos ‹_›];rfl)),trivial⟩,rfl,trivial⟩,
⟨⟨rfl,rfl,trivial,trivial⟩,
(by(try dsimp only at *);exact MapEq.rfl'),trivial⟩,
({ left:=idsC (Qs.l (Wx.q x1)),n:=(0:Nat):CntX }),
⟨(by(try dsimp only at *);exact⟨fun k hk=>hk,Nat.zero_add _⟩),
⟨(by(try dsimp only at *);omega),trivial,
⟨rfl,rfl⟩,
⟨rfl,rfl⟩,
⟨rfl,rfl⟩,
⟨rfl,rfl⟩,
⟨rfl,rfl,rfl,trivial⟩,rfl,
⟨rfl,rfl,trivial⟩,rfl,
⟨rfl,rfl⟩,rfl,rfl,rfl,
⟨rfl,rfl⟩,rfl,
⟨rfl,rfl,trivial⟩,
⟨⟨rfl,rfl,trivial⟩,rfl,trivial⟩,
⟨⟨rfl,rfl,trivial⟩,rfl,trivial⟩,rfl,trivial,
⟨rfl,rfl⟩,
⟨rfl,rfl⟩,
⟨rfl,rfl⟩,rfl,rfl,
⟨rfl,rfl⟩,rfl,rfl,trivial⟩,
⟨rfl,rfl,rfl,trivial⟩,
⟨rfl,rfl,trivial⟩,
⟨rfl,rfl,trivial,trivial⟩,MapEq.rfl',trivial⟩,
(by(try dsimp only at *);grind),
fun x7=>fun h8=>⟨fun h9=>⟨⟨(by(try dsimp only at *);(rw[if_pos ‹_›,cnt_end ‹CntI x1 _› ‹_›])),
(by(try dsimp only at *);grind),trivial⟩,trivial⟩,
fun k10=>fun h11=>fun h12=>⟨({ q:=Wx.q x1,c:=getC (Qs.l (Wx.q x1)) k10,now:=Wx.now x1:Px }),
(by(try dsimp only at *);exact pok_at h2.1 ‹_›),
⟨⟨rfl,rfl⟩,
(by(try dsimp only at *);exact(posC_lt ‹_›).2.symm),
⟨(by(try dsimp only at *);rfl),
(by(try dsimp only at *);rfl),trivial⟩,rfl,trivial⟩,
⟨⟨rfl,rfl,trivial,trivial⟩,
(by(try dsimp only at *);exact MapEq.rfl'),trivial⟩,
({ a:=pAt (Wx.q x1) (Wx.now x1) k10,b:=pAt (Wx.q x1) (Wx.now x1) (Wx.k x1):P2x }),trivial,
⟨⟨(by(try dsimp only at *);rfl),
(by(try dsimp only at *);rfl),
(by(try dsimp only at *);rfl),trivial⟩,
⟨(by(try dsimp only at *);rfl),
(by(try dsimp only at *);rfl),
(by(try dsimp only at *);rfl),trivial⟩,trivial⟩,trivial,
fun g15=>have h15:=dT g15;⟨⟨(by(try dsimp only at *);omega),
(by(try dsimp only at *);(have e:=cnt_le ‹CntI x1 _›;have e2:=h2.2;omega))⟩,
({ left:=List.erase (CntX.left x7) k10,n:=CntX.n x7+(1:Nat):CntX }),
(by(try dsimp only at *);grind),
(by(try dsimp only at *);exact cnt_yes ‹CntI x1 _› ‹_› ‹_›),
⟨⟨rfl,rfl⟩,
(by(try dsimp only at *);omega),trivial,
⟨rfl,rfl⟩,
⟨rfl,rfl⟩,
⟨rfl,rfl⟩,
⟨rfl,rfl⟩,
⟨rfl,rfl,rfl,trivial⟩,rfl,
⟨rfl,rfl,trivial⟩,rfl,
⟨rfl,rfl⟩,rfl,rfl,rfl,
⟨rfl,rfl⟩,rfl,
⟨rfl,rfl,trivial⟩,
⟨⟨rfl,rfl,trivial⟩,rfl,trivial⟩,
⟨⟨rfl,rfl,trivial⟩,rfl,trivial⟩,rfl,trivial,
⟨rfl,rfl⟩,
⟨rfl,rfl⟩,
⟨rfl,rfl⟩,rfl,rfl,
⟨rfl,rfl⟩,rfl,rfl,trivial⟩,trivial,
⟨rfl,rfl,rfl,trivial⟩,
⟨rfl,rfl,trivial⟩,
⟨rfl,rfl,trivial,trivial⟩,MapEq.rfl',trivial⟩,
fun g17=>have h17:=dF g17;⟨({ left:=List.erase (CntX.left x7) k10,n:=CntX.n x7:CntX }),
(by(try dsimp only at *);grind),
(by(try dsimp only at *);exact cnt_no ‹CntI x1 _› ‹_› ‹_›),
⟨⟨rfl,rfl⟩,rfl,trivial,
⟨rfl,rfl⟩,
⟨rfl,rfl⟩,
⟨rfl,rfl⟩,
⟨rfl,rfl⟩,
⟨rfl,rfl,rfl,trivial⟩,rfl,
⟨rfl,rfl,trivial⟩,rfl,
⟨rfl,rfl⟩,rfl,rfl,rfl,
⟨rfl,rfl⟩,rfl,
⟨rfl,rfl,trivial⟩,
⟨⟨rfl,rfl,trivial⟩,rfl,trivial⟩,
⟨⟨rfl,rfl,trivial⟩,rfl,trivial⟩,rfl,trivial,
⟨rfl,rfl⟩,
⟨rfl,rfl⟩,
⟨rfl,rfl⟩,rfl,rfl,
⟨rfl,rfl⟩,rfl,rfl,trivial⟩,trivial,
⟨rfl,rfl,rfl,trivial⟩,
⟨rfl,rfl,trivial⟩,
⟨rfl,rfl,trivial,trivial⟩,MapEq.rfl',trivial⟩⟩⟩⟩⟩)
theorem po_good:Good Try.prog 21 poC/\FnOk Try.prog 21:=good_of tok conPo (fn:=Try.f21) rfl (by decide+kernel) (fun _=>rfl) po_keeps
def leP (x y:Pl):Bool:= !ltP y x
theorem ltP_f (a b:Pl):ltP a b=false↔¬ (a.rk<b.rk∨(a.rk=b.rk/\(a.si<b.si∨(a.si=b.si/\a.ca<b.ca)))):=by rw[<- ltP_iff,Bool.not_eq_true]
theorem leP_trans (a b c:Pl) (h1:leP a b=true) (h2:leP b c=true):leP a c=true:=by
 unfold leP at*
 rw[Bool.not_eq_true',ltP_f]at*
 omega
theorem leP_tot (a b:Pl):(leP a b||leP b a)=true:=by
 unfold leP
 rw[Bool.or_eq_true,Bool.not_eq_true',Bool.not_eq_true',ltP_f,ltP_f]
 omega
theorem ltP_irr (a:Pl):ltP a a=false:=by rw[ltP_f];omega
theorem ltP_asym {a b:Pl} (h:ltP a b=true):ltP b a=false:=by rw[ltP_iff]at h;rw[ltP_f];omega
theorem ordP_perm (l:List Pl):(ordP l).Perm l:=List.mergeSort_perm l _
theorem ordP_sorted (l:List Pl):(ordP l).Pairwise fun a b=>leP a b=true:=List.pairwise_mergeSort leP_trans leP_tot l
theorem ordP_eq {l l':List Pl} (h:l.Perm l'):ordP l=ordP l':=by
 refine List.Perm.eq_of_pairwise (le:=fun a b=>leP a b=true) (fun a b _ _ h1 h2=>?_) (ordP_sorted l) (ordP_sorted l') (((ordP_perm l).trans h).trans (ordP_perm l').symm)
 unfold leP at h1 h2
 exact ltP_tot a b (by simpa using h2) (by simpa using h1)
def zP:Pl:=⟨0,0,0⟩
theorem ordP_head {l:List Pl} {p:Pl} (h:p∈l) (hm:∀ y∈l,ltP y p=false):(ordP l).headD zP=p:=by
 have h2:p∈ordP l:=(ordP_perm l).mem_iff.2 h
 have hs:=ordP_sorted l
 have hp:=ordP_perm l
 generalize ordP l=o at*
 cases o with
 |nil=>cases h2
 |cons y t=>
  show y=p
  rcases List.mem_cons.1 h2 with e|e
  ·exact e.symm
  ·have e1:=(List.pairwise_cons.1 hs).1 p e
   unfold leP at e1
   exact ltP_tot y p (hm y (hp.mem_iff.1 (by simp))) (by simpa using e1)
def plsF (q:Qs) (now:Int):List Pl:=ordP (q.l.map (plF q.ages now))
def orderF (q:Qs) (now:Int):List Int:=(plsF q now).map Pl.ca
theorem plsF_len (q:Qs) (now:Int):(plsF q now).length=q.l.length:=by unfold plsF;rw[(ordP_perm _).length_eq,List.length_map]
theorem orderF_len (q:Qs) (now:Int):(orderF q now).length=q.l.length:=by unfold orderF;rw[List.length_map,plsF_len]
theorem pAt_ids {q:Qs} (hn:(idsC q.l).Nodup) (now:Int):(idsC q.l).map (pAt q now)=q.l.map (plF q.ages now):=by
 unfold idsC
 rw[List.map_map]
 refine List.map_congr_left fun c hc=>?_
 show plF _ _ (getC q.l c.id)=_
 rw[getC_of hn hc]
theorem pls_perm {q:Qs} (hn:(idsC q.l).Nodup) {now:Int} {d:List Int} (h:d.Perm (idsC q.l)):ordP (d.map (pAt q now))=plsF q now:=by
 unfold plsF;rw[<- pAt_ids hn];exact ordP_eq (h.map _)
def nextF (q:Qs) (now:Int):Pl:=(plsF q now).headD zP
structure NwX where
 q:Qs
 now:Int
def qxC:CT where
 X:=NwX
 pre:=fun x=>QOk x.q
 args:=fun x=>[.p 100000 0 0,.i .i64 x.now]
 g0:=fun x=>qH 100000 .bor x.q
 res:=fun x=>.tup [.i .i64 (nextF x.q x.now).ca,.b (!x.q.l.isEmpty)]
 g1:=fun _=>[]
structure NxtX where
 left:List Int
 done:List Int
 p:Pl
 f:Bool
structure NxtI (x:NwX) (s:NxtX):Prop where
 m:(s.done++s.left).Perm (idsC x.q.l)
 e:s.f= !s.done.isEmpty
 y:s.f=true->(∃ k∈s.done,s.p=pAt x.q x.now k)/\∀ k∈s.done,ltP (pAt x.q x.now k) s.p=false
 z:s.f=false->s.p=zP
def nxI (x:NwX) (id:Nat):Option Inv:=match id with
 |0=>some { X:=NxtX,ok:=NxtI x,fr:=fun s=>[(7,.b s.f)],hp:=fun s=>[(6,.one .own [.i .i64 s.p.rk,.i .i64 s.p.si,.i .i64 s.p.ca])],me:=fun _=>0,left:=fun s=>s.left }
 |_=>none
theorem nxt_0 (x:NwX):NxtI x ⟨idsC x.q.l,[],zP,false⟩:=⟨List.Perm.refl _,rfl,fun h=>(by cases h),fun _=>rfl⟩
theorem nxt_perm {l d c:List Int} {k:Int} (h:(d++l).Perm c) (hk:k∈l):((k::d)++l.erase k).Perm c:=by
 refine List.Perm.trans ?_ h
 refine List.Perm.trans ?_ ((perm_erase hk).symm.append_left d)
 exact(List.perm_middle).symm
theorem nxt_take {x:NwX} {s:NxtX} (h:NxtI x s) {k:Int} (hk:k∈s.left) (hl:s.f=false∨cmpP (pAt x.q x.now k) s.p<0):NxtI x ⟨s.left.erase k,k::s.done,pAt x.q x.now k,true⟩:=by
 refine⟨nxt_perm h.m hk,rfl,fun _=>⟨⟨k,by simp,rfl⟩,fun j hj=>?_⟩,fun q=>by cases q⟩
 rcases List.mem_cons.1 hj with e|e
 ·subst e;exact ltP_irr _
 ·cases hf:s.f with
  |false=>
   have e2:=h.e
   rw[hf]at e2
   have:s.done=[]:=by simpa using e2.symm
   rw[this]at e;cases e
  |true=>
   have a1:=(h.y hf).2 j e
   have a2:ltP (pAt x.q x.now k) s.p=true:=by
    rcases hl with q|q
    ·rw[hf]at q;cases q
    ·exact decide_eq_true q
   have b1:leP s.p (pAt x.q x.now j)=true:=by unfold leP;rw[a1];rfl
   have b2:leP (pAt x.q x.now k) s.p=true:=by unfold leP;rw[ltP_asym a2];rfl
   have:=leP_trans _ _ _ b2 b1
   unfold leP at this
   simpa using this
theorem nxt_keep {x:NwX} {s:NxtX} (h:NxtI x s) {k:Int} (hk:k∈s.left) (hf:s.f=true) (hl:¬ cmpP (pAt x.q x.now k) s.p<0):NxtI x ⟨s.left.erase k,k::s.done,s.p,s.f⟩:=by
 refine⟨nxt_perm h.m hk,hf,fun _=>⟨?_,fun j hj=>?_⟩,fun q=>h.z q⟩
 ·obtain⟨j,hj,e⟩:=(h.y hf).1
  exact⟨j,by simp[hj],e⟩
 ·rcases List.mem_cons.1 hj with e|e
  ·subst e;exact decide_eq_false hl
  ·exact(h.y hf).2 j e
theorem nxt_end {x:NwX} (hq:QOk x.q) {s:NxtX} (h:NxtI x s) (e:s.left=[]):s.p.ca=(nextF x.q x.now).ca/\s.f= !x.q.l.isEmpty:=by
 have hm:=h.m
 rw[e,List.append_nil]at hm
 have hi:s.done.isEmpty=x.q.l.isEmpty:=by
  have:=hm.length_eq
  rw[ids_len]at this
  cases h1:s.done <;>cases h2:x.q.l <;>simp_all
 refine⟨?_,by rw[h.e,hi]⟩
 congr 1
 unfold nextF
 rw[<- pls_perm hq.n hm]
 cases hf:s.f with
 |false=>
  have e2:=h.e
  rw[hf]at e2
  have:s.done=[]:=by simpa using e2.symm
  rw[this,h.z hf]
  have:ordP (([]:List Int).map (pAt x.q x.now))=[]:=by
   have:=(ordP_perm (([]:List Int).map (pAt x.q x.now))).length_eq
   exact List.length_eq_zero_iff.1 this
  rw[this];rfl
 |true=>
  obtain⟨⟨j,hj,e1⟩,e2⟩:=h.y hf
  refine(ordP_head (List.mem_map.2 ⟨j,hj,e1.symm⟩) fun y hy=>?_).symm
  obtain⟨i,hi,rfl⟩:=List.mem_map.1 hy
  exact e2 i hi
set_option maxRecDepth 100000 in
theorem nxt_keeps:Keeps cfgPo Try.f25 qxC nxI:=Eq.mp (show((∀ x1:NwX,((QOk x1.q)->(∃ x3:NxtX,(((NxtI x1 x3)/\((false=x3.f/\(True/\((0=0/\((2:Nat)=(2:Nat)))/\((0=0/\0=0)/\((0=0/\0=0)/\((0=0/\0=0)/\(false=false/\(((0:Int)=0)/\((0=0/\0=0)/\(x1.now=x1.now/\True))))))))))/\((0=x3.p.rk/\(0=x3.p.si/\(0=x3.p.ca/\True)))/\((x1.q.most=x1.q.most/\(x1.q.ages=x1.q.ages/\(True/\True)))/\((MapEq [.int .i64,.int .i64] (idsC x1.q.l) (idsC x1.q.l) (valC x1.q.l) (valC x1.q.l))/\True)))))/\((List.Perm (idsC x1.q.l) x3.left)/\(∀ x4:NxtX,((NxtI x1 x4)->(((x4.left=@List.nil Int)->(((x4.p.ca=(nextF x1.q x1.now).ca)/\((x4.f= !List.isEmpty x1.q.l)/\True))/\True))/\(∀ k7:Int,((k7∈x4.left)->((k7∈idsC x1.q.l)->(∃ x10:Px,((Pok x10)/\(((0=0/\0=0)/\(k7=x10.c.id/\((((x1.q.l.getD (posC x1.q.l k7) default).urg=x10.c.urg)/\(((x1.q.l.getD (posC x1.q.l k7) default).since=x10.c.since)/\True))/\(x1.now=x10.now/\True))))/\(((x1.q.most=x10.q.most/\(x1.q.ages=x10.q.ages/\(True/\True)))/\((MapEq [.int .i64,.int .i64] (idsC x1.q.l) (idsC x10.q.l) (valC x1.q.l) (valC x10.q.l))/\True))/\((((!x4.f)=false)->(∃ x12:P2x,(True/\(((((plF x10.q.ages x10.now x10.c).rk=x12.a.rk)/\(((plF x10.q.ages x10.now x10.c).si=x12.a.si)/\(((plF x10.q.ages x10.now x10.c).ca=x12.a.ca)/\True)))/\((x4.p.rk=x12.b.rk/\(x4.p.si=x12.b.si/\(x4.p.ca=x12.b.ca/\True)))/\True))/\(True/\(((decide (cmpP x12.a x12.b<(0:Int))=true)->(∃ x14:NxtX,((List.Perm x4.left (k7::x14.left))/\((NxtI x1 x14)/\(((0=0/\0=0)/\(true=x14.f/\(True/\((0=0/\((2:Nat)=(2:Nat)))/\((0=0/\0=0)/\((0=0/\0=0)/\((0=0/\0=0)/\(false=false/\(((0:Int)=0)/\((0=0/\0=0)/\(x1.now=x1.now/\True)))))))))))/\(True/\((((plF x10.q.ages x10.now x10.c).rk=x14.p.rk)/\(((plF x10.q.ages x10.now x10.c).si=x14.p.si)/\(((plF x10.q.ages x10.now x10.c).ca=x14.p.ca)/\True)))/\((x1.q.most=x1.q.most/\(x1.q.ages=x1.q.ages/\(True/\True)))/\((MapEq [.int .i64,.int .i64] (idsC x1.q.l) (idsC x1.q.l) (valC x1.q.l) (valC x1.q.l))/\True)))))))))/\((decide (cmpP x12.a x12.b<(0:Int))=false)->(∃ x16:NxtX,((List.Perm x4.left (k7::x16.left))/\((NxtI x1 x16)/\(((0=0/\0=0)/\(x4.f=x16.f/\(True/\((0=0/\((2:Nat)=(2:Nat)))/\((0=0/\0=0)/\((0=0/\0=0)/\((0=0/\0=0)/\(false=false/\(((0:Int)=0)/\((0=0/\0=0)/\(x1.now=x1.now/\True)))))))))))/\(True/\((x4.p.rk=x16.p.rk/\(x4.p.si=x16.p.si/\(x4.p.ca=x16.p.ca/\True)))/\((x1.q.most=x1.q.most/\(x1.q.ages=x1.q.ages/\(True/\True)))/\((MapEq [.int .i64,.int .i64] (idsC x1.q.l) (idsC x1.q.l) (valC x1.q.l) (valC x1.q.l))/\True)))))))))))))))/\(((!x4.f)=true)->(∃ x18:NxtX,((List.Perm x4.left (k7::x18.left))/\((NxtI x1 x18)/\(((0=0/\0=0)/\(true=x18.f/\(True/\((0=0/\((2:Nat)=(2:Nat)))/\((0=0/\0=0)/\((0=0/\0=0)/\((0=0/\0=0)/\(false=false/\(((0:Int)=0)/\((0=0/\0=0)/\(x1.now=x1.now/\True)))))))))))/\(True/\((((plF x10.q.ages x10.now x10.c).rk=x18.p.rk)/\(((plF x10.q.ages x10.now x10.c).si=x18.p.si)/\(((plF x10.q.ages x10.now x10.c).ca=x18.p.ca)/\True)))/\((x1.q.most=x1.q.most/\(x1.q.ages=x1.q.ages/\(True/\True)))/\((MapEq [.int .i64,.int .i64] (idsC x1.q.l) (idsC x1.q.l) (valC x1.q.l) (valC x1.q.l))/\True))))))))))))))))))))))))))=(Keeps cfgPo Try.f25 qxC nxI) by kernel_rfl) (fun x1=>fun h2=>⟨({ left:=idsC (Qs.l (NwX.q x1)),done:=@List.nil Int,p:=zP,f:=false:NxtX }),
⟨(by(try dsimp only at *);exact nxt_0 _),
⟨rfl,trivial,
⟨rfl,rfl⟩,
⟨rfl,rfl⟩,
⟨rfl,rfl⟩,
⟨rfl,rfl⟩,rfl,rfl,
⟨rfl,rfl⟩,rfl,trivial⟩,
⟨(by(try dsimp only at *);rfl),
(by(try dsimp only at *);rfl),
(by(try dsimp only at *);rfl),trivial⟩,
⟨rfl,rfl,trivial,trivial⟩,MapEq.rfl',trivial⟩,
(by(try dsimp only at *);grind),
fun x4=>fun h5=>⟨fun h6=>⟨⟨(by(try dsimp only at *);exact(nxt_end h2 ‹NxtI x1 _› ‹_›).1),
(by(try dsimp only at *);exact(nxt_end h2 ‹NxtI x1 _› ‹_›).2),trivial⟩,trivial⟩,
fun k7=>fun h8=>fun h9=>⟨({ q:=NwX.q x1,c:=getC (Qs.l (NwX.q x1)) k7,now:=NwX.now x1:Px }),
(by(try dsimp only at *);exact pok_at h2 ‹_›),
⟨⟨rfl,rfl⟩,
(by(try dsimp only at *);exact(posC_lt ‹_›).2.symm),
⟨(by(try dsimp only at *);rfl),
(by(try dsimp only at *);rfl),trivial⟩,rfl,trivial⟩,
⟨⟨rfl,rfl,trivial,trivial⟩,
(by(try dsimp only at *);exact MapEq.rfl'),trivial⟩,
fun h11=>⟨({ a:=pAt (NwX.q x1) (NwX.now x1) k7,b:=NxtX.p x4:P2x }),trivial,
⟨⟨(by(try dsimp only at *);rfl),
(by(try dsimp only at *);rfl),
(by(try dsimp only at *);rfl),trivial⟩,
⟨rfl,rfl,rfl,trivial⟩,trivial⟩,trivial,
fun g13=>have h13:=dT g13;⟨({ left:=List.erase (NxtX.left x4) k7,done:=k7::NxtX.done x4,p:=pAt (NwX.q x1) (NwX.now x1) k7,f:=true:NxtX }),
(by(try dsimp only at *);grind),
(by(try dsimp only at *);exact nxt_take ‹NxtI x1 _› ‹_› (.inr ‹_›)),
⟨⟨rfl,rfl⟩,rfl,trivial,
⟨rfl,rfl⟩,
⟨rfl,rfl⟩,
⟨rfl,rfl⟩,
⟨rfl,rfl⟩,rfl,rfl,
⟨rfl,rfl⟩,rfl,trivial⟩,trivial,
⟨(by(try dsimp only at *);rfl),
(by(try dsimp only at *);rfl),
(by(try dsimp only at *);rfl),trivial⟩,
⟨rfl,rfl,trivial,trivial⟩,MapEq.rfl',trivial⟩,
fun g15=>have h15:=dF g15;⟨({ left:=List.erase (NxtX.left x4) k7,done:=k7::NxtX.done x4,p:=NxtX.p x4,f:=NxtX.f x4:NxtX }),
(by(try dsimp only at *);grind),
(by(try dsimp only at *);exact nxt_keep ‹NxtI x1 _› ‹_› (by simpa using ‹(!_)=false›) ‹_›),
⟨⟨rfl,rfl⟩,rfl,trivial,
⟨rfl,rfl⟩,
⟨rfl,rfl⟩,
⟨rfl,rfl⟩,
⟨rfl,rfl⟩,rfl,rfl,
⟨rfl,rfl⟩,rfl,trivial⟩,trivial,
⟨rfl,rfl,rfl,trivial⟩,
⟨rfl,rfl,trivial,trivial⟩,MapEq.rfl',trivial⟩⟩,
fun h17=>⟨({ left:=List.erase (NxtX.left x4) k7,done:=k7::NxtX.done x4,p:=pAt (NwX.q x1) (NwX.now x1) k7,f:=true:NxtX }),
(by(try dsimp only at *);grind),
(by(try dsimp only at *);exact nxt_take ‹NxtI x1 _› ‹_› (.inl (by simpa using ‹(!_)=true›))),
⟨⟨rfl,rfl⟩,rfl,trivial,
⟨rfl,rfl⟩,
⟨rfl,rfl⟩,
⟨rfl,rfl⟩,
⟨rfl,rfl⟩,rfl,rfl,
⟨rfl,rfl⟩,rfl,trivial⟩,trivial,
⟨(by(try dsimp only at *);rfl),
(by(try dsimp only at *);rfl),
(by(try dsimp only at *);rfl),trivial⟩,
⟨rfl,rfl,trivial,trivial⟩,MapEq.rfl',trivial⟩⟩⟩⟩)
theorem nxt_good:Good Try.prog 25 qxC/\FnOk Try.prog 25:=good_of tok conPo (fn:=Try.f25) rfl (by decide+kernel) (fun _=>rfl) nxt_keeps
structure OrdX where
 left:List Int
 done:List Int
def oaF (q:Qs) (now:Int) (k:Nat):List Int:=((plsF q now).take k).map Pl.ca++List.replicate (q.l.length-k) 0
theorem oa_len {q:Qs} {now:Int} {k:Nat} (h:k<=q.l.length):(oaF q now k).length=q.l.length:=by
 unfold oaF;rw[List.length_append,List.length_map,List.length_take,List.length_replicate,plsF_len];omega
theorem oa_full (q:Qs) (now:Int):oaF q now q.l.length=orderF q now:=by
 unfold oaF orderF;rw[Nat.sub_self,List.take_of_length_le (by rw[plsF_len];exact Nat.le_refl _)];simp
theorem oa_step {q:Qs} {now:Int} {k:Nat} (h:k<q.l.length):(oaF q now k).set k ((plsF q now).getD k default).ca=oaF q now (k+1):=by
 unfold oaF
 have h1:k<(plsF q now).length:=by rw[plsF_len];exact h
 rw[take_succ_getD (d:=default) h1,List.map_append,List.set_append_right _ _ (by rw[List.length_map,List.length_take];omega)]
 rw[List.length_map,List.length_take,Nat.min_eq_left (by omega),Nat.sub_self,show q.l.length-k=(q.l.length-(k+1))+1 by omega,List.replicate_succ]
 simp
def qoC:CT where
 X:=NwX
 pre:=fun x=>QOk x.q/\x.q.l.length<=30
 args:=fun x=>[.p 100000 0 0,.i .i64 x.now]
 g0:=fun x=>qH 100000 .bor x.q
 res:=fun x=>.sl 1 0 x.q.l.length
 g1:=fun x=>[(1,.rows .own k1 x.q.l.length (encL encI (orderF x.q x.now)))]
def qoI (x:NwX) (id:Nat):Option Inv:=match id with
 |0=>some { X:=OrdX,ok:=fun s=>(s.done++s.left).Perm (idsC x.q.l),fr:=fun s=>[(5,.sl 101 0 s.done.length)],hp:=fun s=>[(101,.rows .own kP s.done.length (encL encP (s.done.map (pAt x.q x.now))))],me:=fun _=>0,left:=fun s=>s.left }
 |2=>some { X:=Nat,ok:=fun k=>k<=x.q.l.length,fr:=fun k=>[(42,.i .i64 k),(40,.sl 101 0 x.q.l.length),(8,.sl 102 0 x.q.l.length)],hp:=fun k=>[(101,.rows .own kP x.q.l.length (encL encP (plsF x.q x.now))),(102,.rows .own k1 x.q.l.length (encL encI (oaF x.q x.now k)))],me:=fun k=>x.q.l.length-k }
 |_=>none
def cfgQo:Cfg:=⟨T,[],[(33,.one qpC),(34,.one sfC)],noInv,60,{ scp:=true }⟩
theorem conQo:ConOk Try.prog cfgQo:=ConL.ok (.cons (ConL.one qp_good) (.cons (ConL.one sf_good) .nil))
theorem oa_rows0 (q:Qs) (now:Int):RowsEq k1 q.l.length (fun _ j=>zRow k1 j) (encL encI (oaF q now 0)):=by
 have h:RowsEq k1 q.l.length (fun _ j=>zRow k1 j) (encL encI (List.replicate q.l.length 0)):=rowsEq_zero (e:=encI) (ks:=k1) (n:=q.l.length) (k:=q.l.length) ⟨rfl,trivial⟩
 unfold oaF;rw[List.take_zero,Nat.sub_zero];exact h
theorem oa_rows {q:Qs} {now:Int} {k:Nat} (h:k<q.l.length):RowsEq k1 q.l.length (setRow (encL encI (oaF q now k)) (0+(k:Int).toNat) 0 [D.i ((plsF q now).getD (0+(k:Int).toNat) default).ca]) (encL encI (oaF q now (k+1))):=by
 rw[nat0,<- oa_step h]
 exact rowsEq_set (by rw[oa_len (by omega)];exact h) ⟨rfl,trivial⟩
theorem done_len {q:Qs} {s:OrdX} (h:(s.done++s.left).Perm (idsC q.l)):s.done.length+s.left.length=q.l.length:=by
 have:=h.length_eq;rw[List.length_append,ids_len]at this;exact this
theorem done_less {q:Qs} {s:OrdX} (h:(s.done++s.left).Perm (idsC q.l)) {k:Int} (hk:k∈s.left):s.done.length+1<=q.l.length:=by
 have:=done_len h
 have:=List.length_pos_of_mem hk
 omega
theorem done_size {q:Qs} {now:Int} {s:OrdX}:(s.done.map (pAt q now)).toArray.size=s.done.length:=by simp
theorem done_sort {q:Qs} (hq:QOk q/\q.l.length<=30) {now:Int} {s:OrdX} (h:(s.done++s.left).Perm (idsC q.l)) (e:s.left=[]):
  (pqF ⟨(s.done.map (pAt q now)).toArray,0,(s.done.map (pAt q now)).toArray.size,len5 (s.done.map (pAt q now)).toArray.size⟩).toList=plsF q now:=by
 have hl:=done_len h
 rw[sf_list (by rw[done_size];omega)]
 rw[e,List.append_nil]at h
 exact pls_perm hq.1.n h
theorem push_rowsP {q:Qs} {now:Int} {l:List Int} {k:Int} {a b c:Int} (ha:a=(pAt q now k).rk) (hb:b=(pAt q now k).si) (hc:c=(pAt q now k).ca):
  RowsEq kP (l++[k]).length (appRows l.length (encL encP (l.map (pAt q now))) 0 (litRows [[.i a,.i b,.i c]])) (encL encP ((l++[k]).map (pAt q now))):=by
 rw[List.map_append]
 subst ha hb hc
 exact rowsEq_push (by rw[List.length_map]) (by rw[List.length_append,List.length_map];exact Nat.le_refl _) ⟨rfl,rfl,rfl,trivial⟩
set_option maxRecDepth 100000 in
theorem qo_keeps:Keeps cfgQo Try.f16 qoC qoI:=Eq.mp (show((∀ x1:NwX,((QOk x1.q/\x1.q.l.length<=(30:Nat))->((((0:Int)<=(0:Int))/\(((0:Int)<=(↑(idsC x1.q.l).length:Int))/\((↑(idsC x1.q.l).length:Int)<=(↑(1073741824:Nat):Int))))/\(∃ x3:OrdX,(((List.Perm (x3.done++x3.left) (idsC x1.q.l))/\(((0=0/\(Int.toNat 0=x3.done.length))/\(True/\((0=0/\((2:Nat)=(2:Nat)))/\((0=0/\0=0)/\((0=0/\0=0)/\(((↑(idsC x1.q.l).length:Int)=(↑(idsC x1.q.l).length:Int))/\(True/\((0=0/\((2:Nat)=(2:Nat)))/\((0=0/\0=0)/\((0=0/\0=0)/\(True/\((0=0/\0=0)/\(x1.now=x1.now/\True)))))))))))))/\(((RLe x3.done.length (Int.toNat (0:Int)))/\(RowsEq [.int .i64,.int .i64,.int .i64] x3.done.length (fun(x j:Nat)=>zRow [.int .i64,.int .i64,.int .i64] j) (encL encP (List.map (pAt x1.q x1.now) x3.done))))/\((x1.q.most=x1.q.most/\(x1.q.ages=x1.q.ages/\(True/\True)))/\((MapEq [.int .i64,.int .i64] (idsC x1.q.l) (idsC x1.q.l) (valC x1.q.l) (valC x1.q.l))/\True)))))/\((List.Perm (idsC x1.q.l) x3.left)/\(∀ x4:OrdX,((List.Perm (x4.done++x4.left) (idsC x1.q.l))->(((x4.left=@List.nil Int)->(∃ x7:Array Pl,((Array.size x7<=(30:Nat))/\(((0=0/\(x4.done.length=Array.size x7))/\(True/\True))/\((((RLe (Array.size x7) x4.done.length)/\(RowsEq [.int .i64,.int .i64,.int .i64] (Array.size x7) (encL encP (List.map (pAt x1.q x1.now) x4.done)) (aR x7)))/\True)/\((((0:Int)<=(x4.done.length:Int))/\(((x4.done.length:Int)<=(x4.done.length:Int))/\((x4.done.length:Int)<=(↑(1073741824:Nat):Int))))/\(∃ x8:Nat,(((x8<=x1.q.l.length)/\(((0=(x8:Int))/\((0=0/\x4.done.length=x1.q.l.length)/\((0=0/\(Int.toNat (x4.done.length:Int)=x1.q.l.length))/\(((x4.done.length:Int)=(x4.done.length:Int))/\(((x4.done.length:Int)=(x4.done.length:Int))/\((0=0/\x4.done.length=x4.done.length)/\(True/\((0=0/\x4.done.length=x4.done.length)/\(false=false/\(True/\(True/\((0=0/\x4.done.length=x4.done.length)/\(True/\((0=0/\((2:Nat)=(2:Nat)))/\((0=0/\0=0)/\((0=0/\0=0)/\(((↑(idsC x1.q.l).length:Int)=(↑(idsC x1.q.l).length:Int))/\(True/\((0=0/\((2:Nat)=(2:Nat)))/\((0=0/\0=0)/\((0=0/\0=0)/\(True/\((0=0/\0=0)/\(x1.now=x1.now/\True))))))))))))))))))))))))/\(((RLe x1.q.l.length (Array.size x7))/\(RowsEq [.int .i64,.int .i64,.int .i64] x1.q.l.length (aR (pqF (PQx.mk x7 0 (Array.size x7) (len5 (Array.size x7))))) (encL encP (plsF x1.q x1.now))))/\(((RLe x1.q.l.length (Int.toNat (x4.done.length:Int)))/\(RowsEq [.int .i64] x1.q.l.length (fun(x j:Nat)=>zRow [.int .i64] j) (encL encI (oaF x1.q x1.now x8))))/\((x1.q.most=x1.q.most/\(x1.q.ages=x1.q.ages/\(True/\True)))/\((MapEq [.int .i64,.int .i64] (idsC x1.q.l) (idsC x1.q.l) (valC x1.q.l) (valC x1.q.l))/\True))))))/\(∀ x9:Nat,((x9<=x1.q.l.length)->(((decide ((x9:Int)<(x4.done.length:Int))=true)->((((0:Int)<=(x9:Int))/\((x9:Int)<(x1.q.l.length:Int)))/\((0+Int.toNat (x9:Int)<x1.q.l.length)/\((((0:Int)<=(x9:Int))/\((x9:Int)<(x1.q.l.length:Int)))/\(((0+Int.toNat (x9:Int)<x1.q.l.length)/\(True/\True))/\((((-9223372036854775808:Int)<=(x9:Int)+1)/\((x9:Int)+1<=(9223372036854775807:Int)))/\(∃ x12:Nat,((x1.q.l.length-x12<x1.q.l.length-x9)/\((x12<=x1.q.l.length)/\((((x9:Int)+1=(x12:Int))/\((0=0/\x1.q.l.length=x1.q.l.length)/\((0=0/\x1.q.l.length=x1.q.l.length)/\(((x4.done.length:Int)=(x4.done.length:Int))/\(((x4.done.length:Int)=(x4.done.length:Int))/\((0=0/\x4.done.length=x4.done.length)/\(True/\((0=0/\x4.done.length=x4.done.length)/\(false=false/\(True/\(True/\((0=0/\x4.done.length=x4.done.length)/\(True/\((0=0/\((2:Nat)=(2:Nat)))/\((0=0/\0=0)/\((0=0/\0=0)/\(((↑(idsC x1.q.l).length:Int)=(↑(idsC x1.q.l).length:Int))/\(True/\((0=0/\((2:Nat)=(2:Nat)))/\((0=0/\0=0)/\((0=0/\0=0)/\(True/\((0=0/\0=0)/\(x1.now=x1.now/\True))))))))))))))))))))))))/\(((RLe x1.q.l.length x1.q.l.length)/\(RowsEq [.int .i64,.int .i64,.int .i64] x1.q.l.length (encL encP (plsF x1.q x1.now)) (encL encP (plsF x1.q x1.now))))/\(((RLe x1.q.l.length x1.q.l.length)/\(RowsEq [.int .i64] x1.q.l.length (setRow (encL encI (oaF x1.q x1.now x9)) (0+Int.toNat (x9:Int)) 0 (D.i ((plsF x1.q x1.now).getD (0+Int.toNat (x9:Int)) default).ca::@List.nil D)) (encL encI (oaF x1.q x1.now x12))))/\((x1.q.most=x1.q.most/\(x1.q.ages=x1.q.ages/\(True/\True)))/\((MapEq [.int .i64,.int .i64] (idsC x1.q.l) (idsC x1.q.l) (valC x1.q.l) (valC x1.q.l))/\True))))))))))))))/\((decide ((x9:Int)<(x4.done.length:Int))=false)->((0=0/\x1.q.l.length=x1.q.l.length)/\(((RLe x1.q.l.length x1.q.l.length)/\(RI x1.q.l.length (oaF x1.q x1.now x9) (orderF x1.q x1.now)))/\True))))))))))))))/\(∀ k14:Int,((k14∈x4.left)->((k14∈idsC x1.q.l)->(∃ x17:Px,((Pok x17)/\(((0=0/\0=0)/\(k14=x17.c.id/\((((x1.q.l.getD (posC x1.q.l k14) default).urg=x17.c.urg)/\(((x1.q.l.getD (posC x1.q.l k14) default).since=x17.c.since)/\True))/\(x1.now=x17.now/\True))))/\(((x1.q.most=x17.q.most/\(x1.q.ages=x17.q.ages/\(True/\True)))/\((MapEq [.int .i64,.int .i64] (idsC x1.q.l) (idsC x17.q.l) (valC x1.q.l) (valC x17.q.l))/\True))/\(((True/\(True/\(True/\True)))/\True)/\((0=0/\((x4.done.length<=x4.done.length)/\(((1:Nat)<=(1:Nat))/\(x4.done.length+(1:Nat)<=(5864062014805:Nat)))))/\(∃ x18:OrdX,((List.Perm x4.left (k14::x18.left))/\((List.Perm (x18.done++x18.left) (idsC x1.q.l))/\(((0=0/\0=0)/\((0=0/\(x4.done.length+(1:Nat)=x18.done.length))/\(True/\((0=0/\((2:Nat)=(2:Nat)))/\((0=0/\0=0)/\((0=0/\0=0)/\(((↑(idsC x1.q.l).length:Int)=(↑(idsC x1.q.l).length:Int))/\(True/\((0=0/\((2:Nat)=(2:Nat)))/\((0=0/\0=0)/\((0=0/\0=0)/\(True/\((0=0/\0=0)/\(x1.now=x1.now/\True))))))))))))))/\(True/\(((RLe x18.done.length (x4.done.length+(1:Nat)))/\(RowsEq [.int .i64,.int .i64,.int .i64] x18.done.length (appRows x4.done.length (encL encP (List.map (pAt x1.q x1.now) x4.done)) 0 (litRows ((D.i (plF x17.q.ages x17.now x17.c).rk::D.i (plF x17.q.ages x17.now x17.c).si::D.i (plF x17.q.ages x17.now x17.c).ca::@List.nil D)::@List.nil (List D)))) (encL encP (List.map (pAt x1.q x1.now) x18.done))))/\((x1.q.most=x1.q.most/\(x1.q.ages=x1.q.ages/\(True/\True)))/\((MapEq [.int .i64,.int .i64] (idsC x1.q.l) (idsC x1.q.l) (valC x1.q.l) (valC x1.q.l))/\True)))))))))))))))))))))))))))=(Keeps cfgQo Try.f16 qoC qoI) by kernel_rfl) (fun x1=>fun h2=>⟨⟨(by omega),
(by omega),
(by(have e:=ids_len x1.q.l;have e2:=h2.2;omega))⟩,
({ left:=idsC (Qs.l (NwX.q x1)),done:=@List.nil Int:OrdX }),
⟨(by(try dsimp only at *);grind),
⟨⟨rfl,
(by(try dsimp only at *);grind)⟩,trivial,
⟨rfl,rfl⟩,
⟨rfl,rfl⟩,
⟨rfl,rfl⟩,rfl,trivial,
⟨rfl,rfl⟩,
⟨rfl,rfl⟩,
⟨rfl,rfl⟩,trivial,
⟨rfl,rfl⟩,rfl,trivial⟩,
⟨⟨(by(try dsimp only at *);grind)⟩,
(by(try dsimp only at *);exact rowsEq0)⟩,
⟨rfl,rfl,trivial,trivial⟩,MapEq.rfl',trivial⟩,
(by(try dsimp only at *);grind),
fun x4=>fun h5=>⟨fun h6=>⟨(List.toArray (List.map (pAt (NwX.q x1) (NwX.now x1)) (OrdX.done x4))),
(by(try dsimp only at *);(have e:=done_len h5;have e2:=h2.2;have e3:=done_size (q:=x1.q) (now:=x1.now) (s:=x4);have e4:x4.left.length=0:=(by rw[h6];rfl);omega)),
⟨⟨rfl,
(by(try dsimp only at *);grind)⟩,trivial,trivial⟩,
⟨⟨⟨(by(try dsimp only at *);grind)⟩,
(by(try dsimp only at *);exact rr)⟩,trivial⟩,
⟨(by(try dsimp only at *);omega),
(by(try dsimp only at *);omega),
(by(try dsimp only at *);(have e:=done_len h5;have e2:=h2.2;have e3:=done_size (q:=x1.q) (now:=x1.now) (s:=x4);have e4:x4.left.length=0:=(by rw[h6];rfl);omega))⟩,
((0:Nat)),
⟨(by(try dsimp only at *);omega),
⟨(by(try dsimp only at *);omega),
⟨rfl,
(by(try dsimp only at *);(have e:=done_len h5;have e2:=h2.2;have e3:=done_size (q:=x1.q) (now:=x1.now) (s:=x4);have e4:x4.left.length=0:=(by rw[h6];rfl);omega))⟩,
⟨rfl,
(by(try dsimp only at *);(have e:=done_len h5;have e2:=h2.2;have e3:=done_size (q:=x1.q) (now:=x1.now) (s:=x4);have e4:x4.left.length=0:=(by rw[h6];rfl);omega))⟩,rfl,rfl,
⟨rfl,rfl⟩,trivial,
⟨rfl,rfl⟩,rfl,trivial,trivial,
⟨rfl,rfl⟩,trivial,
⟨rfl,rfl⟩,
⟨rfl,rfl⟩,
⟨rfl,rfl⟩,rfl,trivial,
⟨rfl,rfl⟩,
⟨rfl,rfl⟩,
⟨rfl,rfl⟩,trivial,
⟨rfl,rfl⟩,rfl,trivial⟩,
⟨⟨(by(try dsimp only at *);(have e:=done_len h5;have e2:=h2.2;have e3:=done_size (q:=x1.q) (now:=x1.now) (s:=x4);have e4:x4.left.length=0:=(by rw[h6];rfl);omega))⟩,
(by(try dsimp only at *);(have e:=done_sort h2 (now:=x1.now) h5 h6;unfold aR;rw[e];exact rr))⟩,
⟨⟨(by(try dsimp only at *);(have e:=done_len h5;have e2:=h2.2;have e3:=done_size (q:=x1.q) (now:=x1.now) (s:=x4);have e4:x4.left.length=0:=(by rw[h6];rfl);omega))⟩,
(by(try dsimp only at *);exact oa_rows0 _ _)⟩,
⟨rfl,rfl,trivial,trivial⟩,MapEq.rfl',trivial⟩,
fun x9=>fun h10=>⟨fun g11=>have h11:=dT g11;⟨⟨(by(try dsimp only at *);omega),
(by(try dsimp only at *);(have e:=done_len h5;have e2:=h2.2;have e3:=done_size (q:=x1.q) (now:=x1.now) (s:=x4);have e4:x4.left.length=0:=(by rw[h6];rfl);omega))⟩,
(by(try dsimp only at *);(have e:=done_len h5;have e2:=h2.2;have e3:=done_size (q:=x1.q) (now:=x1.now) (s:=x4);have e4:x4.left.length=0:=(by rw[h6];rfl);omega)),
⟨(by(try dsimp only at *);omega),
(by(try dsimp only at *);(have e:=done_len h5;have e2:=h2.2;have e3:=done_size (q:=x1.q) (now:=x1.now) (s:=x4);have e4:x4.left.length=0:=(by rw[h6];rfl);omega))⟩,
⟨(by(try dsimp only at *);(have e:=done_len h5;have e2:=h2.2;have e3:=done_size (q:=x1.q) (now:=x1.now) (s:=x4);have e4:x4.left.length=0:=(by rw[h6];rfl);omega)),trivial,trivial⟩,
⟨(by(try dsimp only at *);omega),
(by(try dsimp only at *);omega)⟩,
(x9+(1:Nat)),
(by(try dsimp only at *);(have e:=done_len h5;have e2:=h2.2;have e3:=done_size (q:=x1.q) (now:=x1.now) (s:=x4);have e4:x4.left.length=0:=(by rw[h6];rfl);omega)),
(by(try dsimp only at *);(have e:=done_len h5;have e2:=h2.2;have e3:=done_size (q:=x1.q) (now:=x1.now) (s:=x4);have e4:x4.left.length=0:=(by rw[h6];rfl);omega)),
⟨(by(try dsimp only at *);omega),
⟨rfl,rfl⟩,
⟨rfl,rfl⟩,rfl,rfl,
⟨rfl,rfl⟩,trivial,
⟨rfl,rfl⟩,rfl,trivial,trivial,
⟨rfl,rfl⟩,trivial,
⟨rfl,rfl⟩,
⟨rfl,rfl⟩,
⟨rfl,rfl⟩,rfl,trivial,
⟨rfl,rfl⟩,
⟨rfl,rfl⟩,
⟨rfl,rfl⟩,trivial,
⟨rfl,rfl⟩,rfl,trivial⟩,
⟨rl,rr⟩,
⟨rl,
(by(try dsimp only at *);(exact oa_rows (by have e:=done_len h5;omega)))⟩,
⟨rfl,rfl,trivial,trivial⟩,MapEq.rfl',trivial⟩,
fun g13=>have h13:=dF g13;⟨⟨rfl,rfl⟩,
⟨rl,
(by(try dsimp only at *);(have e:=done_len h5;have e4:x4.left.length=0:=(by rw[h6];rfl);have e5:x9=x1.q.l.length:=(by omega);subst e5;rw[oa_full];exact rr))⟩,trivial⟩⟩⟩,
fun k14=>fun h15=>fun h16=>⟨({ q:=NwX.q x1,c:=getC (Qs.l (NwX.q x1)) k14,now:=NwX.now x1:Px }),
(by(try dsimp only at *);exact pok_at h2.1 ‹_›),
⟨⟨rfl,rfl⟩,
(by(try dsimp only at *);exact(posC_lt ‹_›).2.symm),
⟨(by(try dsimp only at *);rfl),
(by(try dsimp only at *);rfl),trivial⟩,rfl,trivial⟩,
⟨⟨rfl,rfl,trivial,trivial⟩,
(by(try dsimp only at *);exact MapEq.rfl'),trivial⟩,
⟨⟨trivial,trivial,trivial,trivial⟩,trivial⟩,
⟨rfl,
(by(try dsimp only at *);omega),
(by(try dsimp only at *);omega),
(by(try dsimp only at *);(have e:=done_less h5 ‹_›;have e2:=h2.2;omega))⟩,
({ left:=List.erase (OrdX.left x4) k14,done:=OrdX.done x4++k14::@List.nil Int:OrdX }),
(by(try dsimp only at *);grind),
(by(try dsimp only at *);grind),
⟨⟨rfl,rfl⟩,
⟨rfl,
(by(try dsimp only at *);grind)⟩,trivial,
⟨rfl,rfl⟩,
⟨rfl,rfl⟩,
⟨rfl,rfl⟩,rfl,trivial,
⟨rfl,rfl⟩,
⟨rfl,rfl⟩,
⟨rfl,rfl⟩,trivial,
⟨rfl,rfl⟩,rfl,trivial⟩,trivial,
⟨⟨(by(try dsimp only at *);grind)⟩,
(by(try dsimp only at *);exact push_rowsP rfl rfl rfl)⟩,
⟨rfl,rfl,trivial,trivial⟩,MapEq.rfl',trivial⟩⟩⟩)
theorem qo_good:Good Try.prog 16 qoC/\FnOk Try.prog 16:=good_of tok conQo (fn:=Try.f16) rfl (by decide+kernel) (fun _=>rfl) qo_keeps
def overF (q:Qs) (now:Int):List Int:=(orderF q now).drop q.most.toNat
def qvC:CT where
 X:=NwX
 pre:=fun x=>QOk x.q/\x.q.l.length<=30
 args:=fun x=>[.p 100000 0 0,.i .i64 x.now]
 g0:=fun x=>qH 100000 .bor x.q
 res:=fun x=>.sl 1 0 (overF x.q x.now).length
 g1:=fun x=>[(1,.rows .own k1 (overF x.q x.now).length (encL encI (overF x.q x.now)))]
theorem over_len (q:Qs) (now:Int):(overF q now).length=q.l.length-q.most.toNat:=by unfold overF;rw[List.length_drop,orderF_len]
theorem over_rows {q:Qs} {now:Int} {f:Nat->Nat->D} (h:0<=q.l.length):RowsEq k1 (overF q now).length (appRows 0 f (0+q.most.toNat) (encL encI (orderF q now))) (encL encI (overF q now)):=by
 refine rowsEq_nil (Nat.le_refl _) fun i hi=>?_
 unfold overF encL
 rw[Nat.zero_add,List.getD_eq_getElem?_getD,List.getD_eq_getElem?_getD,List.getElem?_drop]
 exact⟨rfl,trivial⟩
def cfgQv:Cfg:=⟨T,[],[(16,.one qoC)],noInv,60,{}⟩
theorem conQv:ConOk Try.prog cfgQv:=ConL.ok (.cons (ConL.one qo_good) .nil)
set_option maxRecDepth 100000 in
theorem qv_keeps:Keeps cfgQv Try.f18 qvC noIv:=Eq.mp (show((∀ x1:NwX,((QOk x1.q/\x1.q.l.length<=(30:Nat))->(((decide ((↑(idsC x1.q.l).length:Int)<=x1.q.most)=true)->((True/\(0=0/\((overF x1.q x1.now).length=(0:Nat))))/\(((overF x1.q x1.now).length=(0:Nat))/\True)))/\((decide ((↑(idsC x1.q.l).length:Int)<=x1.q.most)=false)->(∃ x5:NwX,(((QOk x5.q)/\(x5.q.l.length<=(30:Nat)))/\(((0=0/\0=0)/\(x1.now=x5.now/\True))/\(((x1.q.most=x5.q.most/\(x1.q.ages=x5.q.ages/\(True/\True)))/\((MapEq [.int .i64,.int .i64] (idsC x1.q.l) (idsC x5.q.l) (valC x1.q.l) (valC x5.q.l))/\True))/\((((0:Int)<=x1.q.most)/\((x1.q.most<=(x5.q.l.length:Int))/\((x5.q.l.length:Int)<=(x5.q.l.length:Int))))/\(((0+Int.toNat x1.q.most+(Int.toNat (x5.q.l.length:Int)-Int.toNat x1.q.most)<=x5.q.l.length)/\(Int.toNat (x5.q.l.length:Int)-Int.toNat x1.q.most<=(1073741824:Nat)))/\((0=0/\(Int.toNat (x5.q.l.length:Int)-Int.toNat x1.q.most=(overF x1.q x1.now).length))/\(((RLe (overF x1.q x1.now).length (Int.toNat (x5.q.l.length:Int)-Int.toNat x1.q.most))/\(RowsEq [.int .i64] (overF x1.q x1.now).length (appRows 0 (fun(x x_1:Nat)=>D.i 0) (0+Int.toNat x1.q.most) (encL encI (orderF x5.q x5.now))) (encL encI (overF x1.q x1.now))))/\True)))))))))))))=(Keeps cfgQv Try.f18 qvC noIv) by kernel_rfl) (fun x1=>fun h2=>⟨fun g3=>have h3:=dT g3;⟨⟨trivial,rfl,
(by(have e:=ids_len x1.q.l;have e2:=over_len x1.q x1.now;have e3:=h2.1.m;have e4:=h2.2;omega))⟩,
(by(have e:=ids_len x1.q.l;have e2:=over_len x1.q x1.now;have e3:=h2.1.m;have e4:=h2.2;omega)),trivial⟩,
fun g4=>have h4:=dF g4;⟨(x1),
⟨(by(try dsimp only at *);grind),
(by(try dsimp only at *);omega)⟩,
⟨⟨rfl,rfl⟩,rfl,trivial⟩,
⟨⟨rfl,rfl,trivial,trivial⟩,MapEq.rfl',trivial⟩,
⟨(by(try dsimp only at *);(have e:=ids_len x1.q.l;have e2:=over_len x1.q x1.now;have e3:=h2.1.m;have e4:=h2.2;omega)),
(by(try dsimp only at *);(have e:=ids_len x1.q.l;have e2:=over_len x1.q x1.now;have e3:=h2.1.m;have e4:=h2.2;omega)),
(by(try dsimp only at *);omega)⟩,
⟨(by(try dsimp only at *);(have e:=ids_len x1.q.l;have e2:=over_len x1.q x1.now;have e3:=h2.1.m;have e4:=h2.2;omega)),
(by(try dsimp only at *);omega)⟩,
⟨rfl,
(by(try dsimp only at *);(have e:=ids_len x1.q.l;have e2:=over_len x1.q x1.now;have e3:=h2.1.m;have e4:=h2.2;omega))⟩,
⟨⟨(by(try dsimp only at *);(have e:=ids_len x1.q.l;have e2:=over_len x1.q x1.now;have e3:=h2.1.m;have e4:=h2.2;omega))⟩,
(by(try dsimp only at *);(exact over_rows (by have e:=ids_len x1.q.l;omega)))⟩,trivial⟩⟩)
theorem qv_good:Good Try.prog 18 qvC/\FnOk Try.prog 18:=good_of tok conQv (fn:=Try.f18) rfl (by decide+kernel) (fun _=>rfl) qv_keeps
end Go.Sym