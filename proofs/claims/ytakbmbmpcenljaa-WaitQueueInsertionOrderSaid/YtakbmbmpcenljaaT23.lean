import Derived.Test.YtakbmbmpcenljaaT17
import Derived.Test.YtakbmbmpcenljaaXD
namespace Go.Sym
set_option linter.unusedVariables false
set_option linter.unusedSimpArgs false
open Go.Proofs
set_option maxRecDepth 100000
set_option maxHeartbeats 4000000
def rvQ (x:Lwx) (k:Nat):Qs:=⟨x.n.most,x.n.ages,x.q.l.reverse.take k⟩
theorem rev_nodup {x:Lwx} (h:okL x=true):(idsC x.q.l.reverse).Nodup:=by
 unfold idsC;rw[List.map_reverse]
 exact(List.reverse_perm _).nodup_iff.2 (okL_q h).1.n
theorem rv_nodup {x:Lwx} (h:okL x=true) (k:Nat):(idsC (rvQ x k).l).Nodup:=by
 have e:=rev_nodup h
 unfold idsC rvQ at*
 rw[List.map_take]
 exact e.sublist (List.take_sublist _ _)
theorem rv_ok {x:Lwx} (h:okL x=true) (k:Nat):QOk (rvQ x k)/\(rvQ x k).l.length<=30:=by
 have a:=(okL_y h).1
 refine⟨⟨a.1,a.2,rv_nodup h k,fun c hc=>(okL_q h).1.c c (List.mem_reverse.1 (List.mem_of_mem_take hc))⟩,?_⟩
 show(x.q.l.reverse.take k).length<=30
 have:=(okL_q h).2
 rw[List.length_take,List.length_reverse];omega
theorem rev_at {l:List Cl} {k:Nat} (h:k<l.length):l.reverse.getD k default=l.getD (l.length-1-k) default:=by
 rw[List.getD_eq_getElem?_getD,List.getElem?_reverse h,List.getD_eq_getElem?_getD]
theorem rvq_step {x:Lwx} (h:okL x=true) {k:Nat} (hk:k<x.q.l.length) {i:Nat} (hi:i=x.q.l.length-1-k):
  addL (rvQ x k).l (x.q.l.getD i default).id (x.q.l.getD i default).urg (x.q.l.getD i default).since=(rvQ x (k+1)).l/\addR (rvQ x k).l (x.q.l.getD i default).id (x.q.l.getD i default).urg (x.q.l.getD i default).since=0:=by
 subst hi
 have e:(rvQ x (k+1)).l=(rvQ x k).l++[x.q.l.getD (x.q.l.length-1-k) default]:=by
  show x.q.l.reverse.take (k+1)=x.q.l.reverse.take k++_
  rw[take_succ_getD (d:=default) (by rw[List.length_reverse];exact hk),rev_at hk]
 have c:=(okL_q h).1.c (x.q.l.getD (x.q.l.length-1-k) default) (by rw[getD_at (by omega)];exact List.getElem_mem _)
 have n:=rv_nodup h (k+1)
 rw[e]at n ⊢
 have hb:¬ badC (x.q.l.getD (x.q.l.length-1-k) default).id (x.q.l.getD (x.q.l.length-1-k) default).urg (x.q.l.getD (x.q.l.length-1-k) default).since:=by
  have:=c.i;have:=c.u;have:=c.s;unfold badC;omega
 have hn:(x.q.l.getD (x.q.l.length-1-k) default).id∉idsC (rvQ x k).l:=by
  intro q
  rw[show idsC ((rvQ x k).l++[x.q.l.getD (x.q.l.length-1-k) default])=idsC (rvQ x k).l++[(x.q.l.getD (x.q.l.length-1-k) default).id] by simp[idsC]]at n
  exact(List.nodup_append.1 n).2.2 _ q _ (by simp) rfl
 exact add_yes hb hn
theorem rv_order {x:Lwx} (h:okL x=true) (now:Int) {k:Nat} (hk:k=x.q.l.length):orderF (rvQ x k) now=orderF x.q now/\(rvQ x k).l.length=x.q.l.length:=by
 subst hk
 have e:(rvQ x x.q.l.length).l=x.q.l.reverse:=List.take_of_length_le (by rw[List.length_reverse];exact Nat.le_refl _)
 refine⟨?_,by rw[e,List.length_reverse]⟩
 unfold orderF plsF
 rw[e,show(rvQ x x.q.l.length).ages=x.q.ages from(okL_m x).2.symm]
 exact congrArg _ (ordP_eq ((List.reverse_perm x.q.l).map _))
theorem rvq_ix {x:Lwx} {k:Nat} (hk:0<=(x.q.l.length:Int)-1-k):k<x.q.l.length/\0+((x.q.l.length:Int)-1-k).toNat=x.q.l.length-1-k:=by omega
theorem rvq_stepI {x:Lwx} (h:okL x=true) {k:Nat} (hk:0<=(x.q.l.length:Int)-1-k):
  addL (rvQ x k).l ((enF x.r).l.getD (0+((x.q.l.length:Int)-1-k).toNat) default).id ((enF x.r).l.getD (0+((x.q.l.length:Int)-1-k).toNat) default).urg ((enF x.r).l.getD (0+((x.q.l.length:Int)-1-k).toNat) default).since=(rvQ x (k+1)).l/\
  addR (rvQ x k).l ((enF x.r).l.getD (0+((x.q.l.length:Int)-1-k).toNat) default).id ((enF x.r).l.getD (0+((x.q.l.length:Int)-1-k).toNat) default).urg ((enF x.r).l.getD (0+((x.q.l.length:Int)-1-k).toNat) default).since=0:=
 rvq_step h (rvq_ix hk).1 (rvq_ix hk).2
theorem rvq_end {x:Lwx} (h:okL x=true) {k:Nat} (hk:k<=x.q.l.length) (h2:¬ 0<=(x.q.l.length:Int)-1-k):orderF (enF x.r) x.now=(orderF (rvQ x k) x.now).drop 0/\(rvQ x k).l.length=x.q.l.length:=by
 have e:=rv_order h x.now (k:=k) (by omega)
 exact⟨e.1.symm,e.2⟩
def CIn (r n:CT):List (Nat × Con):=[(20,.one r),(10,.one awC),(16,.one qoC),(11,.one n),(26,.one qaC),(14,.one qlC),(15,.one sameC)]
def cfgIny:Cfg:=⟨T,[],CIn runC qnC,noInv,94,{}⟩
def cfgInn:Cfg:=⟨T,[],CIn (runNoC fun x=>¬ (okN x.n/\x.l.length<=30)) qnC,noInv,94,{}⟩
theorem conIn {r:CT} (h:Good Try.prog 20 r/\FnOk Try.prog 20):ConL Try.prog (CIn r qnC):=.cons (ConL.one h) (.cons (ConL.one aw_good) (.cons (ConL.one qo_good) (.cons (ConL.one qn_good) (.cons (ConL.one qa_good) (.cons (ConL.one ql_good) (.cons (ConL.one same_good) .nil))))))
theorem conIny:ConOk Try.prog cfgIny:=ConL.ok (conIn run_good)
theorem conInn:ConOk Try.prog cfgInn:=ConL.ok (conIn runNo_good)
def inI (x:Lwx) (id:Nat):Option Inv:=match id with
 |0=>some { X:=Nat,ok:=fun k=>k<=x.q.l.length,fr:=fun k=>[(11,.i .i64 ((x.q.l.length:Int)-1-k)),(9,.p 500 0 0)],hp:=fun k=>qH 500 .own (rvQ x k),me:=fun k=>x.q.l.length-k }
 |_=>none
set_option maxRecDepth 100000 in
theorem w8n:Keeps cfgInn Try.f8 (lawW false) inI:=Eq.mp (show((∀ x1:Lwx,((x1.n.most<=(9223372036854775807:Int)/\okL x1=false)->(∃ x3:Rux,((¬(okN x3.n/\x3.l.length<=(30:Nat)))/\((x1.n.most=x3.n.most/\(x1.n.ages=x3.n.ages/\((0=0/\x1.l.length=x3.l.length)/\True)))/\((((RLe x3.l.length x1.l.length)/\(RowsEq [.int .i64,.int .i64,.int .i64,.int .i64,.int .i64] x3.l.length (encL encA x1.l) (encL encA x3.l)))/\True)/\(∃ x4:Unit,(True/\(True/\(True/\((false=false->(∃ x6:Unit,(True/\(True/\(True/\(true=true/\True))))))/\(false=true->(∃ x8:Unit,(True/\(True/\(True/\(true=true/\True))))))))))))))))))=(Keeps cfgInn Try.f8 (lawW false) inI) by kernel_rfl) (fun x1=>fun h2=>⟨(Lwx.r x1),
(by(try dsimp only at *);exact okL_n h2.2),
⟨(by(try dsimp only at *);rfl),
(by(try dsimp only at *);rfl),
⟨rfl,
(by(try dsimp only at *);rfl)⟩,trivial⟩,
⟨⟨⟨(by(try dsimp only at *);exact Nat.le_refl _)⟩,
(by(try dsimp only at *);exact rr)⟩,trivial⟩,
(()),trivial,trivial,trivial,
fun h5=>⟨(default),trivial,trivial,trivial,rfl,trivial⟩,
fun h7=>⟨(default),trivial,trivial,trivial,rfl,trivial⟩⟩)
set_option maxRecDepth 100000 in
theorem w8y:Keeps cfgIny Try.f8 (lawW true) inI:=Eq.mp (show((∀ x1:Lwx,((x1.n.most<=(9223372036854775807:Int)/\okL x1=true)->(∃ x3:Rux,(((okN x3.n)/\(x3.l.length<=(30:Nat)))/\((x1.n.most=x3.n.most/\(x1.n.ages=x3.n.ages/\((0=0/\x1.l.length=x3.l.length)/\True)))/\((((RLe x3.l.length x1.l.length)/\(RowsEq [.int .i64,.int .i64,.int .i64,.int .i64,.int .i64] x3.l.length (encL encA x1.l) (encL encA x3.l)))/\True)/\(∃ x4:Unit,(True/\(True/\(True/\((false=false->(∃ x6:Nx,((okN x6)/\((x1.n.most=x6.most/\(x1.n.ages=x6.ages/\True))/\(True/\(((decide ((0:Int)≠(0:Int))=false)->((((-9223372036854775808:Int)<=(↑(enF x3).l.length:Int)-1)/\((↑(enF x3).l.length:Int)-1<=(9223372036854775807:Int)))/\(∃ x8:Nat,(((x8<=(Lwx.q x1).l.length)/\((((↑(enF x3).l.length:Int)-1=(↑(Lwx.q x1).l.length:Int)-1-(x8:Int))/\((0=0/\0=0)/\(((↑(enF x3).l.length:Int)-1=(↑(enF x3).l.length:Int)-1)/\(((↑(enF x3).l.length:Int)=(↑(enF x3).l.length:Int))/\((0=0/\((enF x3).l.length=(enF x3).l.length))/\((0=0/\((2:Nat)=(2:Nat)))/\((0=0/\0=0)/\((0=0/\0=0)/\(false=false/\(false=false/\((decide ((0:Int)≠(0:Int))=decide ((0:Int)≠(0:Int)))/\((decide ((0:Int)≠(0:Int))=decide ((0:Int)≠(0:Int)))/\(((0:Int)=0)/\(((0:Int)=0)/\(((0:Int)=0)/\(x1.n.ages=x1.n.ages/\((0=0/\((1:Nat)=(1:Nat)))/\(x1.n.most=x1.n.most/\((0=0/\0=0)/\(false=false/\(false=false/\((0=0/\0=0)/\(false=false/\(false=false/\(true=true/\((0=0/\0=0)/\((0=0/\0=0)/\((0=0/\0=0)/\((0=0/\0=0)/\(((0=0/\0=0)/\((0=0/\0=0)/\True))/\(((0=0/\0=0)/\((0=0/\0=0)/\True))/\((0=0/\x1.l.length=x1.l.length)/\(x1.n.ages=x1.n.ages/\((0=0/\((1:Nat)=(1:Nat)))/\(x1.n.most=x1.n.most/\((0=0/\0=0)/\((0=0/\0=0)/\((x1.n.most=x1.n.most/\(x1.n.ages=x1.n.ages/\True))/\((0=0/\x1.l.length=x1.l.length)/\(x1.now=x1.now/\True))))))))))))))))))))))))))))))))))))))))/\(((x6.most=(rvQ x1 x8).most)/\((x6.ages=(rvQ x1 x8).ages)/\(True/\True)))/\((MapEq [.int .i64,.int .i64] (idsC (@List.nil Cl)) (idsC (rvQ x1 x8).l) (valC (@List.nil Cl)) (valC (rvQ x1 x8).l))/\((((enF x3).most=(enF x3).most)/\(((enF x3).ages=(enF x3).ages)/\(True/\True)))/\((MapEq [.int .i64,.int .i64] (idsC (enF x3).l) (idsC (enF x3).l) (valC (enF x3).l) (valC (enF x3).l))/\((((enF x3).most=(enF x3).most)/\(((enF x3).ages=(enF x3).ages)/\((0=0/\((enF x3).l.length=(enF x3).l.length))/\True)))/\(((RLe (enF x3).l.length (enF x3).l.length)/\(RowsEq [.int .i64,.int .i64,.int .i64] (enF x3).l.length (encL encC (enF x3).l) (encL encC (enF x3).l)))/\((x1.n.most=x1.n.most/\(x1.n.ages=x1.n.ages/\True))/\(((RLe x1.l.length x1.l.length)/\(RowsEq [.int .i64,.int .i64,.int .i64,.int .i64,.int .i64] x1.l.length (encL encA x1.l) (encL encA x1.l)))/\True))))))))))/\(∀ x9:Nat,((x9<=(Lwx.q x1).l.length)->(((decide ((0:Int)<=(↑(Lwx.q x1).l.length:Int)-1-(x9:Int))=true)->((((0:Int)<=(↑(Lwx.q x1).l.length:Int)-1-(x9:Int))/\((↑(Lwx.q x1).l.length:Int)-1-(x9:Int)<(↑(enF x3).l.length:Int)))/\((0+Int.toNat ((↑(Lwx.q x1).l.length:Int)-1-(x9:Int))<(enF x3).l.length)/\((((0:Int)<=(↑(Lwx.q x1).l.length:Int)-1-(x9:Int))/\((↑(Lwx.q x1).l.length:Int)-1-(x9:Int)<(↑(enF x3).l.length:Int)))/\((0+Int.toNat ((↑(Lwx.q x1).l.length:Int)-1-(x9:Int))<(enF x3).l.length)/\((((0:Int)<=(↑(Lwx.q x1).l.length:Int)-1-(x9:Int))/\((↑(Lwx.q x1).l.length:Int)-1-(x9:Int)<(↑(enF x3).l.length:Int)))/\((0+Int.toNat ((↑(Lwx.q x1).l.length:Int)-1-(x9:Int))<(enF x3).l.length)/\(∃ x12:Ax,((List.Nodup (idsC x12.q.l))/\(((0=0/\0=0)/\((((enF x3).l.getD (0+Int.toNat ((↑(Lwx.q x1).l.length:Int)-1-(x9:Int))) default).id=x12.k)/\((((enF x3).l.getD (0+Int.toNat ((↑(Lwx.q x1).l.length:Int)-1-(x9:Int))) default).urg=x12.u)/\((((enF x3).l.getD (0+Int.toNat ((↑(Lwx.q x1).l.length:Int)-1-(x9:Int))) default).since=x12.s)/\True))))/\(((((rvQ x1 x9).most=x12.q.most)/\(((rvQ x1 x9).ages=x12.q.ages)/\(True/\True)))/\((MapEq [.int .i64,.int .i64] (idsC (rvQ x1 x9).l) (idsC x12.q.l) (valC (rvQ x1 x9).l) (valC x12.q.l))/\True))/\(((decide (addR x12.q.l x12.k x12.u x12.s≠(0:Int))=true)->(false=true/\True))/\((decide (addR x12.q.l x12.k x12.u x12.s≠(0:Int))=false)->((((-9223372036854775808:Int)<=(↑(Lwx.q x1).l.length:Int)-1-(x9:Int)-1)/\((↑(Lwx.q x1).l.length:Int)-1-(x9:Int)-1<=(9223372036854775807:Int)))/\(∃ x15:Nat,(((Lwx.q x1).l.length-x15<(Lwx.q x1).l.length-x9)/\((x15<=(Lwx.q x1).l.length)/\((((↑(Lwx.q x1).l.length:Int)-1-(x9:Int)-1=(↑(Lwx.q x1).l.length:Int)-1-(x15:Int))/\((0=0/\0=0)/\(((↑(enF x3).l.length:Int)-1=(↑(enF x3).l.length:Int)-1)/\(((↑(enF x3).l.length:Int)=(↑(enF x3).l.length:Int))/\((0=0/\((enF x3).l.length=(enF x3).l.length))/\((0=0/\((2:Nat)=(2:Nat)))/\((0=0/\0=0)/\((0=0/\0=0)/\(false=false/\(false=false/\((decide ((0:Int)≠(0:Int))=decide ((0:Int)≠(0:Int)))/\((decide ((0:Int)≠(0:Int))=decide ((0:Int)≠(0:Int)))/\(((0:Int)=0)/\(((0:Int)=0)/\(((0:Int)=0)/\(x1.n.ages=x1.n.ages/\((0=0/\((1:Nat)=(1:Nat)))/\(x1.n.most=x1.n.most/\((0=0/\0=0)/\(false=false/\(false=false/\((0=0/\0=0)/\(false=false/\(false=false/\(true=true/\((0=0/\0=0)/\((0=0/\0=0)/\((0=0/\0=0)/\((0=0/\0=0)/\(((0=0/\0=0)/\((0=0/\0=0)/\True))/\(((0=0/\0=0)/\((0=0/\0=0)/\True))/\((0=0/\x1.l.length=x1.l.length)/\(x1.n.ages=x1.n.ages/\((0=0/\((1:Nat)=(1:Nat)))/\(x1.n.most=x1.n.most/\((0=0/\0=0)/\((0=0/\0=0)/\((x1.n.most=x1.n.most/\(x1.n.ages=x1.n.ages/\True))/\((0=0/\x1.l.length=x1.l.length)/\(x1.now=x1.now/\True))))))))))))))))))))))))))))))))))))))))/\(((x12.q.most=(rvQ x1 x15).most)/\((x12.q.ages=(rvQ x1 x15).ages)/\(True/\True)))/\((MapEq [.int .i64,.int .i64] (idsC (addL x12.q.l x12.k x12.u x12.s)) (idsC (rvQ x1 x15).l) (valC (addL x12.q.l x12.k x12.u x12.s)) (valC (rvQ x1 x15).l))/\((((enF x3).most=(enF x3).most)/\(((enF x3).ages=(enF x3).ages)/\(True/\True)))/\((MapEq [.int .i64,.int .i64] (idsC (enF x3).l) (idsC (enF x3).l) (valC (enF x3).l) (valC (enF x3).l))/\((((enF x3).most=(enF x3).most)/\(((enF x3).ages=(enF x3).ages)/\((0=0/\((enF x3).l.length=(enF x3).l.length))/\True)))/\(((RLe (enF x3).l.length (enF x3).l.length)/\(RowsEq [.int .i64,.int .i64,.int .i64] (enF x3).l.length (encL encC (enF x3).l) (encL encC (enF x3).l)))/\((x1.n.most=x1.n.most/\(x1.n.ages=x1.n.ages/\True))/\(((RLe x1.l.length x1.l.length)/\(RowsEq [.int .i64,.int .i64,.int .i64,.int .i64,.int .i64] x1.l.length (encL encA x1.l) (encL encA x1.l)))/\True))))))))))))))))))))))))))/\((decide ((0:Int)<=(↑(Lwx.q x1).l.length:Int)-1-(x9:Int))=false)->(∃ x17:NwX,(((QOk x17.q)/\(x17.q.l.length<=(30:Nat)))/\(((0=0/\0=0)/\(x1.now=x17.now/\True))/\(((((enF x3).most=x17.q.most)/\(((enF x3).ages=x17.q.ages)/\(True/\True)))/\((MapEq [.int .i64,.int .i64] (idsC (enF x3).l) (idsC x17.q.l) (valC (enF x3).l) (valC x17.q.l))/\True))/\(∃ x18:NwX,(((QOk x18.q)/\(x18.q.l.length<=(30:Nat)))/\(((0=0/\0=0)/\(x1.now=x18.now/\True))/\(((((rvQ x1 x9).most=x18.q.most)/\(((rvQ x1 x9).ages=x18.q.ages)/\(True/\True)))/\((MapEq [.int .i64,.int .i64] (idsC (rvQ x1 x9).l) (idsC x18.q.l) (valC (rvQ x1 x9).l) (valC x18.q.l))/\True))/\(∃ x19:LDx,(((x19.a.length<=(1000:Nat))/\((x19.b.length<=(1000:Nat))/\(x19.lo<=x19.b.length)))/\(((0=0/\x17.q.l.length=x19.a.length)/\((((0:Nat)=x19.lo)/\(x18.q.l.length=x19.b.length-x19.lo))/\True))/\((((RLe x19.a.length x17.q.l.length)/\(RI x19.a.length (orderF x17.q x17.now) x19.a))/\(((RLe x19.b.length x18.q.l.length)/\(RI x19.b.length (orderF x18.q x18.now) x19.b))/\True))/\(((decide (x19.a=List.drop x19.lo x19.b)=true)->(∃ x21:Qs,(True/\(((0=0/\0=0)/\True)/\(((((enF x3).most=x21.most)/\(((enF x3).ages=x21.ages)/\(True/\True)))/\((MapEq [.int .i64,.int .i64] (idsC (enF x3).l) (idsC x21.l) (valC (enF x3).l) (valC x21.l))/\True))/\(∃ x22:Qs,(True/\(((0=0/\0=0)/\True)/\(((((rvQ x1 x9).most=x22.most)/\(((rvQ x1 x9).ages=x22.ages)/\(True/\True)))/\((MapEq [.int .i64,.int .i64] (idsC (rvQ x1 x9).l) (idsC x22.l) (valC (rvQ x1 x9).l) (valC x22.l))/\True))/\((decide ((x21.l.length:Int)=(x22.l.length:Int))=true)/\True))))))))))/\((decide (x19.a=List.drop x19.lo x19.b)=false)->(false=true/\True)))))))))))))))))))))))/\((decide ((0:Int)≠(0:Int))=true)->(false=true/\True))))))))/\(false=true->(∃ x26:Unit,(True/\(True/\(True/\(true=true/\True))))))))))))))))))=(Keeps cfgIny Try.f8 (lawW true) inI) by kernel_rfl) (fun x1=>fun h2=>⟨(Lwx.r x1),
⟨(by(try dsimp only at *);exact(okL_y h2.2).1),
(by(try dsimp only at *);exact(okL_y h2.2).2)⟩,
⟨(by(try dsimp only at *);rfl),
(by(try dsimp only at *);rfl),
⟨rfl,
(by(try dsimp only at *);rfl)⟩,trivial⟩,
⟨⟨⟨(by(try dsimp only at *);exact Nat.le_refl _)⟩,
(by(try dsimp only at *);exact rr)⟩,trivial⟩,
(()),trivial,trivial,trivial,
fun h5=>⟨(Lwx.n x1),
(by(try dsimp only at *);exact(okL_y h2.2).1),
⟨rfl,rfl,trivial⟩,trivial,
fun g7=>have h7:=dF g7;⟨⟨(by(try dsimp only at *);omega),
(by(try dsimp only at *);(have e:enF x1.r=x1.q:=rfl;have f:=okL_f h2.2;rw[e];omega))⟩,
((0:Nat)),
⟨(by(try dsimp only at *);omega),
⟨(by(try dsimp only at *);(have e:enF x1.r=x1.q:=rfl;have f:=okL_f h2.2;rw[e];omega)),
⟨rfl,rfl⟩,rfl,rfl,
⟨rfl,rfl⟩,
⟨rfl,rfl⟩,
⟨rfl,rfl⟩,
⟨rfl,rfl⟩,rfl,rfl,rfl,rfl,rfl,rfl,rfl,rfl,
⟨rfl,rfl⟩,rfl,
⟨rfl,rfl⟩,rfl,rfl,
⟨rfl,rfl⟩,rfl,rfl,rfl,
⟨rfl,rfl⟩,
⟨rfl,rfl⟩,
⟨rfl,rfl⟩,
⟨rfl,rfl⟩,
⟨⟨rfl,rfl⟩,
⟨rfl,rfl⟩,trivial⟩,
⟨⟨rfl,rfl⟩,
⟨rfl,rfl⟩,trivial⟩,
⟨rfl,rfl⟩,rfl,
⟨rfl,rfl⟩,rfl,
⟨rfl,rfl⟩,
⟨rfl,rfl⟩,
⟨rfl,rfl,trivial⟩,
⟨rfl,rfl⟩,rfl,trivial⟩,
⟨(by(try dsimp only at *);rfl),
(by(try dsimp only at *);rfl),trivial,trivial⟩,
(by(try dsimp only at *);exact MapEq.rfl'),
⟨rfl,rfl,trivial,trivial⟩,MapEq.rfl',
⟨rfl,rfl,
⟨rfl,rfl⟩,trivial⟩,
⟨rl,rr⟩,
⟨rfl,rfl,trivial⟩,
⟨rl,rr⟩,trivial⟩,
fun x9=>fun h10=>⟨fun g11=>have h11:=dT g11;⟨⟨(by(try dsimp only at *);omega),
(by(try dsimp only at *);(have e:enF x1.r=x1.q:=rfl;have f:=okL_f h2.2;rw[e];omega))⟩,
(by(try dsimp only at *);(have e:enF x1.r=x1.q:=rfl;have f:=okL_f h2.2;rw[e];omega)),
⟨(by(try dsimp only at *);omega),
(by(try dsimp only at *);(have e:enF x1.r=x1.q:=rfl;have f:=okL_f h2.2;rw[e];omega))⟩,
(by(try dsimp only at *);(have e:enF x1.r=x1.q:=rfl;have f:=okL_f h2.2;rw[e];omega)),
⟨(by(try dsimp only at *);omega),
(by(try dsimp only at *);(have e:enF x1.r=x1.q:=rfl;have f:=okL_f h2.2;rw[e];omega))⟩,
(by(try dsimp only at *);(have e:enF x1.r=x1.q:=rfl;have f:=okL_f h2.2;rw[e];omega)),
({ q:=rvQ x1 x9,k:=Cl.id (List.getD (Qs.l (enF (Lwx.r x1))) ((0:Nat)+Int.toNat ((↑(List.length (Qs.l (Lwx.q x1))):Int)-(1:Int)-(↑x9:Int))) default),u:=Cl.urg (List.getD (Qs.l (enF (Lwx.r x1))) ((0:Nat)+Int.toNat ((↑(List.length (Qs.l (Lwx.q x1))):Int)-(1:Int)-(↑x9:Int))) default),s:=Cl.since (List.getD (Qs.l (enF (Lwx.r x1))) ((0:Nat)+Int.toNat ((↑(List.length (Qs.l (Lwx.q x1))):Int)-(1:Int)-(↑x9:Int))) default):Ax }),
(by(try dsimp only at *);exact rv_nodup h2.2 x9),
⟨⟨rfl,rfl⟩,rfl,rfl,rfl,trivial⟩,
⟨⟨rfl,rfl,trivial,trivial⟩,
(by(try dsimp only at *);exact MapEq.rfl'),trivial⟩,
fun g13=>have h13:=dT g13;⟨(by(try dsimp only at *);exact absurd (rvq_stepI h2.2 h11).2 ‹addR _ _ _ _≠0›),trivial⟩,
fun g14=>have h14:=dF g14;⟨⟨(by(try dsimp only at *);omega),
(by(try dsimp only at *);(have f:=okL_f h2.2;omega))⟩,
(x9+(1:Nat)),
(by(try dsimp only at *);omega),
(by(try dsimp only at *);omega),
⟨(by(try dsimp only at *);omega),
⟨rfl,rfl⟩,rfl,rfl,
⟨rfl,rfl⟩,
⟨rfl,rfl⟩,
⟨rfl,rfl⟩,
⟨rfl,rfl⟩,rfl,rfl,rfl,rfl,rfl,rfl,rfl,rfl,
⟨rfl,rfl⟩,rfl,
⟨rfl,rfl⟩,rfl,rfl,
⟨rfl,rfl⟩,rfl,rfl,rfl,
⟨rfl,rfl⟩,
⟨rfl,rfl⟩,
⟨rfl,rfl⟩,
⟨rfl,rfl⟩,
⟨⟨rfl,rfl⟩,
⟨rfl,rfl⟩,trivial⟩,
⟨⟨rfl,rfl⟩,
⟨rfl,rfl⟩,trivial⟩,
⟨rfl,rfl⟩,rfl,
⟨rfl,rfl⟩,rfl,
⟨rfl,rfl⟩,
⟨rfl,rfl⟩,
⟨rfl,rfl,trivial⟩,
⟨rfl,rfl⟩,rfl,trivial⟩,
⟨(by(try dsimp only at *);rfl),
(by(try dsimp only at *);rfl),trivial,trivial⟩,
(by(try dsimp only at *);exact map_of (rvq_stepI h2.2 h11).1),
⟨rfl,rfl,trivial,trivial⟩,MapEq.rfl',
⟨rfl,rfl,
⟨rfl,rfl⟩,trivial⟩,
⟨rl,rr⟩,
⟨rfl,rfl,trivial⟩,
⟨rl,rr⟩,trivial⟩⟩,
fun g16=>have h16:=dF g16;⟨({ q:=enF (Lwx.r x1),now:=Lwx.now x1:NwX }),
⟨(by(try dsimp only at *);exact(okL_q h2.2).1),
(by(try dsimp only at *);exact(okL_q h2.2).2)⟩,
⟨⟨rfl,rfl⟩,rfl,trivial⟩,
⟨⟨rfl,rfl,trivial,trivial⟩,
(by(try dsimp only at *);exact MapEq.rfl'),trivial⟩,
({ q:=rvQ x1 x9,now:=Lwx.now x1:NwX }),
⟨(by(try dsimp only at *);exact(rv_ok h2.2 x9).1),
(by(try dsimp only at *);exact(rv_ok h2.2 x9).2)⟩,
⟨⟨rfl,rfl⟩,rfl,trivial⟩,
⟨⟨rfl,rfl,trivial,trivial⟩,
(by(try dsimp only at *);exact MapEq.rfl'),trivial⟩,
({ a:=orderF (enF (Lwx.r x1)) (Lwx.now x1),b:=orderF (rvQ x1 x9) (Lwx.now x1),lo:=(0:Nat):LDx }),
⟨(by(try dsimp only at *);(have e:enF x1.r=x1.q:=rfl;have f:=okL_f h2.2;rw[e];omega)),
(by(try dsimp only at *);(have f:=(rv_ok h2.2 x9).2;have e2:=orderF_len (rvQ x1 x9) x1.now;(show(orderF (rvQ x1 x9) x1.now).length<=1000);omega)),
(by(try dsimp only at *);omega)⟩,
⟨⟨rfl,
(by(try dsimp only at *);(have e:enF x1.r=x1.q:=rfl;have f:=okL_f h2.2;rw[e];omega))⟩,
⟨rfl,
(by(try dsimp only at *);exact(orderF_len _ _).symm)⟩,trivial⟩,
⟨⟨⟨(by(try dsimp only at *);(have e:enF x1.r=x1.q:=rfl;have f:=okL_f h2.2;rw[e];omega))⟩,rr⟩,
⟨⟨(by(try dsimp only at *);exact Nat.le_of_eq (orderF_len _ _))⟩,rr⟩,trivial⟩,
fun g20=>have h20:=dT g20;⟨(enF (Lwx.r x1)),trivial,
⟨⟨rfl,rfl⟩,trivial⟩,
⟨⟨rfl,rfl,trivial,trivial⟩,MapEq.rfl',trivial⟩,
(rvQ x1 x9),trivial,
⟨⟨rfl,rfl⟩,trivial⟩,
⟨⟨rfl,rfl,trivial,trivial⟩,MapEq.rfl',trivial⟩,
(by(try dsimp only at *);(have e:=(rvq_end h2.2 h10 h16).2;(have e2:((rvQ x1 x9).l.length:Int)=x1.q.l.length:=(by rw[e]));first|exact e2|exact e2.symm|exact decide_eq_true e2.symm|exact decide_eq_true e2)),trivial⟩,
fun g23=>have h23:=dF g23;⟨(by(try dsimp only at *);exact absurd (rvq_end h2.2 h10 h16).1 ‹¬ _=List.drop _ _›),trivial⟩⟩⟩⟩,
fun g24=>have h24:=dT g24;⟨(by(try dsimp only at *);omega),trivial⟩⟩,
fun h25=>⟨(default),trivial,trivial,trivial,rfl,trivial⟩⟩)
theorem w8_good:Good Try.prog 8 lawWC:=both_b (t:=okL)
 (good_of tok conIny (fn:=Try.f8) rfl (by decide+kernel) (fun _=>rfl) w8y).1 (good_of tok conInn (fn:=Try.f8) rfl (by decide+kernel) (fun _=>rfl) w8n).1
end Go.Sym