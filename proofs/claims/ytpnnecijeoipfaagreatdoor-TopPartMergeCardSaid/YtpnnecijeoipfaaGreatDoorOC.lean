import Derived.Test.YtpnnecijeoipfaaGreatDoorOB
import Derived.Test.YtpnnecijeoipfaaGreatDoorXD
namespace Go.Sym
set_option linter.unusedVariables false
set_option linter.unusedSimpArgs false
open Go.Proofs
set_option maxRecDepth 100000
set_option maxHeartbeats 8000000
structure MGx where
 r:Rg
 a:Int
 b:Int
def mvC (b:Int) (c:Int->CR) (l:List Int) (j:Int):CR:=if j∈l then movC (c j) b else c j
def mgA (q:MGx):Ic:=q.r.i q.a
def mgB (q:MGx):Ic:=q.r.i q.b
def goneI (x:Ic) (b:Int):Ic:=⟨x.id,x.urg,x.code,x.nodes,[],[],b,x.closed⟩
def mgX (q:MGx):RRx:=⟨⟨q.r.ck,mvC q.b q.r.c (mgA q).calls,madd1 q.r.ik q.a,fun j=>if j=q.a then goneI (mgA q) q.b else q.r.i j,q.r.hk,q.r.h⟩,mgB q,(mgB q).calls++(mgA q).calls⟩
def mgOp (q:MGx):Prop:=isO (mgA q)=true/\isO (mgB q)=true
instance (q:MGx):Decidable (mgOp q):=by unfold mgOp;infer_instance
def mgIn (q:MGx):Prop:=q.a∈q.r.ik/\q.b∈q.r.ik
instance (q:MGx):Decidable (mgIn q):=by unfold mgIn;infer_instance
def mgR (q:MGx):Int:=if q.a=q.b then 1 else if mgIn q then(if mgOp q then 0 else 8)else 4
def mgF (q:MGx):Rg:=if q.a=q.b then q.r else if mgIn q then(if mgOp q then rrF (mgX q)else q.r)else q.r
structure MGgo (q:MGx):Prop where
 la:(mgA q).calls.length<=12
 lb:(mgB q).calls.length<=12
 ua:(mgA q).units=[]
 ub:(mgB q).units=[]
 ck:∀ k∈(mgA q).calls,k∈q.r.ck
 rr:RRok (mgX q)
def MGok (q:MGx):Prop:=q.a≠q.b->mgIn q->mgOp q->MGgo q
theorem mg_1 {q:MGx} (h:q.a=q.b):mgR q=1/\mgF q=q.r:=⟨if_pos h,if_pos h⟩
theorem mg_4 {q:MGx} (h:¬ q.a=q.b) (h2:¬ mgIn q):mgR q=4/\mgF q=q.r:=⟨by unfold mgR;rw[if_neg h,if_neg h2],by unfold mgF;rw[if_neg h,if_neg h2]⟩
theorem mg_8 {q:MGx} (h:¬ q.a=q.b) (h2:mgIn q) (h3:¬ mgOp q):mgR q=8/\mgF q=q.r:=⟨by unfold mgR;rw[if_neg h,if_pos h2,if_neg h3],by unfold mgF;rw[if_neg h,if_pos h2,if_neg h3]⟩
theorem mg_0 {q:MGx} (h:¬ q.a=q.b) (h2:mgIn q) (h3:mgOp q):mgR q=0/\mgF q=rrF (mgX q):=⟨by unfold mgR;rw[if_neg h,if_pos h2,if_pos h3],by unfold mgF;rw[if_neg h,if_pos h2,if_pos h3]⟩
def mgC:CT where
 X:=MGx
 pre:=MGok
 args:=fun q=>[.p 100000 0 0,.i .i64 q.a,.i .i64 q.b]
 g0:=fun q=>rgH 100000 .own q.r
 res:=fun q=>.i .i64 (mgR q)
 g1:=fun q=>rgM 100000 .own (mgF q)
def encMv (q:MGx) (n:Nat) (k:Int):Nat->D:=encCR (mvC q.b q.r.c ((mgA q).calls.take n) k)
def mgI (q:MGx) (id:Nat):Option Inv:=match id with
 |100043=>some (cutB 43 (!decide (mgIn q)))
 |100051=>some (cutB 51 (!decide (mgOp q)))
 |100059=>some (cutT 59 false)
 |300043=>some { X:=Unit,ok:=fun _=>mgIn q,fr:=fun _=>[],hp:=fun _=>[(7,.one .own (icL (mgA q) 131)),(9,.one .own (icL (mgB q) 141))]++icH (mgA q) .fz 131++icH (mgB q) .fz 141,me:=fun _=>0 }
 |300051=>some { X:=Unit,ok:=fun _=>mgOp q,fr:=fun _=>[],hp:=fun _=>[],me:=fun _=>0 }
 |0=>some { X:=Nat,ok:=fun k=>k<=(mgA q).calls.length,fr:=fun k=>[(63,.i .i64 k)],hp:=fun k=>[(100001,.map .own .i64 kC true q.r.ck (encMv q k))],me:=fun k=>(mgA q).calls.length-k }
 |2=>some { X:=Unit,ok:=fun _=>True,fr:=fun _=>[(85,.i .i64 0)],hp:=fun _=>[],me:=fun _=>0 }
 |_=>none
def cfgMg:Cfg:=⟨T,[],[(27,.one isC),(33,.one ctC),(34,.one ctC),(35,.one noSC),(28,.one rrC)],noInv,17,{}⟩
theorem conMg:ConOk Tryz.prog cfgMg:=ConL.ok (.cons (ConL.one ris_good) (.cons (ConL.one ctL_good) (.cons (ConL.one ctI_good) (.cons (ConL.one noS_good) (.cons (ConL.one rr_good) .nil)))))
theorem mgIn_b {q:MGx} (h:q.a∈q.r.ik):(!decide (q.b∈q.r.ik))= !decide (mgIn q):=by congr 1;exact decide_eq_decide.2 ⟨fun a=>⟨h,a⟩,fun a=>a.2⟩
theorem mgIn_a {q:MGx} (h:¬ q.a∈q.r.ik):true= !decide (mgIn q):=by rw[decide_eq_false fun a:mgIn q=>h a.1];rfl
theorem mgOp_b {q:MGx} (h:isO (mgA q)=true):(!isO (mgB q))= !decide (mgOp q):=by
 congr 1
 cases e:isO (mgB q)with
 |true=>exact(decide_eq_true ⟨h,e⟩).symm
 |false=>exact(decide_eq_false fun a:mgOp q=>by have b:=a.2;rw[e]at b;cases b).symm
theorem mgOp_a {q:MGx} (h:isO (mgA q)=false):true= !decide (mgOp q):=by rw[decide_eq_false fun a:mgOp q=>by have b:=a.1;rw[h]at b;cases b];rfl
theorem mg_step {q:MGx} {k:Nat} (g:MGgo q) (hk:(k:Int)<(mgA q).calls.length) {row:Nat->D}
  (hd:(mgA q).calls.getD k default∈q.r.ck->rowEq kC row (encCR (movC (mvC q.b q.r.c ((mgA q).calls.take k) ((mgA q).calls.getD k default)) q.b)) 0):
  MapEq kC (madd1 q.r.ck ((mgA q).calls.getD k default)) q.r.ck (mset (encMv q k) ((mgA q).calls.getD k default) row) (encMv q (k+1)):=by
 have hk':k<(mgA q).calls.length:=by omega
 have hin:(mgA q).calls.getD k default∈(mgA q).calls:=by rw[gd_eq hk'];exact List.getElem_mem _
 have hm:=g.ck _ hin
 refine⟨by unfold madd1;rw[if_pos hm],fun j _=>?_⟩
 unfold mset
 by_cases e:j=(mgA q).calls.getD k default
 ·subst e
  rw[if_pos rfl]
  have e2:encMv q (k+1) ((mgA q).calls.getD k default)=encCR (movC (mvC q.b q.r.c ((mgA q).calls.take k) ((mgA q).calls.getD k default)) q.b):=by
   unfold encMv mvC
   rw[if_pos (by rw[take_gd hk'];simp)]
   split <;>rfl
  rw[e2]
  exact hd hm
 ·rw[if_neg e]
  have e2:encMv q (k+1) j=encMv q k j:=by
   unfold encMv mvC
   have:j∈(mgA q).calls.take (k+1)↔j∈(mgA q).calls.take k:=by rw[take_gd hk',List.mem_append];exact⟨fun a=>a.elim id fun b=>absurd (List.mem_singleton.1 b) e,.inl⟩
   simp only[this]
  rw[e2]
  exact rowEq_rfl _ _ _
theorem mg_all {q:MGx} {k:Nat} (h:k<=(mgA q).calls.length) (h2:¬ (k:Int)<(mgA q).calls.length):MapEq kC q.r.ck (mgX q).r.ck (encMv q k) (encRC (mgX q).r):=
 ⟨List.Perm.refl _,fun j _=>by unfold encMv encRC;rw[List.take_of_length_le (by omega)];exact rowEq_rfl _ _ _⟩
theorem mg_gone (q:MGx) {row:Nat->D} (hd:rowEq kI row (encIc (goneI (mgA q) q.b)) 0):MapEq kI (madd1 q.r.ik q.a) (mgX q).r.ik (mset (encRI q.r) q.a row) (encRI (mgX q).r):=by
 refine⟨List.Perm.refl _,fun j _=>?_⟩
 unfold mset encRI mgX
 by_cases e:j=q.a
 ·simp only[if_pos e];exact hd
 ·simp only[if_neg e];exact rowEq_rfl _ _ _
theorem lit_pp (a b:List Int):RowsEq kPP 2 (litRows [[rowL a],[rowL b]]) (rowPP a b):=
 ⟨fun r hr=>by rcases(show r=0∨r=1 by omega)with e|e <;>subst e <;>exact⟨rowL_eq _,trivial⟩⟩
set_option maxRecDepth 100000 in
theorem mg_keeps:Keeps cfgMg Tryz.f14 mgC mgI:=Eq.mp (show((∀ x1:MGx,((MGok x1)->(((decide (x1.a=x1.b)=true)->(((1:Int)=mgR x1)/\((MapEq (.int .i64:: .int .i64:: .int .i64::Kd.str:: .sl [.int .i64]:: .int .i64:: .int .i64::Kd.bool::[]) x1.r.ck (mgF x1).ck (encRC x1.r) (encRC (mgF x1)))/\((MapEq (.int .i64:: .int .i64::Kd.str:: .sl [.int .i64]:: .int .i64:: .int .i64:: .sl [.int .i64]:: .sl [.int .i64]:: .int .i64::Kd.bool::[]) x1.r.ik (mgF x1).ik (encRI x1.r) (encRI (mgF x1)))/\((MapEq [.int .i64] x1.r.hk (mgF x1).hk (encRH x1.r) (encRH (mgF x1)))/\True)))))/\((decide (x1.a=x1.b)=false)->(((((!decide (x1.a∈x1.r.ik))=false)->(∃ x6:Unit,(True/\(((!decide (x1.b∈x1.r.ik))= !decide (mgIn x1))/\True))))/\(((!decide (x1.a∈x1.r.ik))=true)->(∃ x8:Unit,(True/\((true= !decide (mgIn x1))/\True)))))/\(∀ x9:Unit,(True->(((((!decide (mgIn x1))=true)->(((4:Int)=mgR x1)/\((MapEq (.int .i64:: .int .i64:: .int .i64::Kd.str:: .sl [.int .i64]:: .int .i64:: .int .i64::Kd.bool::[]) x1.r.ck (mgF x1).ck (encRC x1.r) (encRC (mgF x1)))/\((MapEq (.int .i64:: .int .i64::Kd.str:: .sl [.int .i64]:: .int .i64:: .int .i64:: .sl [.int .i64]:: .sl [.int .i64]:: .int .i64::Kd.bool::[]) x1.r.ik (mgF x1).ik (encRI x1.r) (encRI (mgF x1)))/\((MapEq [.int .i64] x1.r.hk (mgF x1).hk (encRH x1.r) (encRH (mgF x1)))/\True)))))/\(((!decide (mgIn x1))=false)->(∃ x13:Unit,((mgIn x1)/\(((decide (x1.b∈x1.r.ik)=decide (x1.b∈x1.r.ik))/\((0=0/\0=0)/\((decide (x1.a∈x1.r.ik)=decide (x1.a∈x1.r.ik))/\((0=0/\0=0)/\((0=0/\0=0)/\(x1.a=x1.a/\(x1.b=x1.b/\True)))))))/\(((D.toI (if x1.a∈x1.r.ik then D.i (x1.r.i x1.a).id else D.i 0)=(mgA x1).id)/\((D.toI (if x1.a∈x1.r.ik then D.i (x1.r.i x1.a).urg else D.i 0)=(mgA x1).urg)/\((D.toS (if x1.a∈x1.r.ik then D.s (x1.r.i x1.a).code else D.s ByteArray.empty)=(mgA x1).code)/\((0=0/\(D.toN (if x1.a∈x1.r.ik then D.l (x1.r.i x1.a).nodes.length (encL encI (x1.r.i x1.a).nodes)else D.l 0 fun(x x_1:Nat)=>D.i 0)=(mgA x1).nodes.length))/\((D.toI (if x1.a∈x1.r.ik then D.i 0 else D.i 0)=(0:Int))/\((D.toI (if x1.a∈x1.r.ik then D.i 0 else D.i 0)=(0:Int))/\((0=0/\(D.toN (if x1.a∈x1.r.ik then D.l (x1.r.i x1.a).calls.length (encL encI (x1.r.i x1.a).calls)else D.l 0 fun(x x_1:Nat)=>D.i 0)=(mgA x1).calls.length))/\((0=0/\(D.toN (if x1.a∈x1.r.ik then D.l (x1.r.i x1.a).units.length (encL encI (x1.r.i x1.a).units)else D.l 0 fun(x x_1:Nat)=>D.i 0)=(mgA x1).units.length))/\((D.toI (if x1.a∈x1.r.ik then D.i (x1.r.i x1.a).merged else D.i 0)=(mgA x1).merged)/\((D.toB (if x1.a∈x1.r.ik then D.b (x1.r.i x1.a).closed else D.b false)=(mgA x1).closed)/\True))))))))))/\(((D.toI (if x1.b∈x1.r.ik then D.i (x1.r.i x1.b).id else D.i 0)=(mgB x1).id)/\((D.toI (if x1.b∈x1.r.ik then D.i (x1.r.i x1.b).urg else D.i 0)=(mgB x1).urg)/\((D.toS (if x1.b∈x1.r.ik then D.s (x1.r.i x1.b).code else D.s ByteArray.empty)=(mgB x1).code)/\((0=0/\(D.toN (if x1.b∈x1.r.ik then D.l (x1.r.i x1.b).nodes.length (encL encI (x1.r.i x1.b).nodes)else D.l 0 fun(x x_1:Nat)=>D.i 0)=(mgB x1).nodes.length))/\((D.toI (if x1.b∈x1.r.ik then D.i 0 else D.i 0)=(0:Int))/\((D.toI (if x1.b∈x1.r.ik then D.i 0 else D.i 0)=(0:Int))/\((0=0/\(D.toN (if x1.b∈x1.r.ik then D.l (x1.r.i x1.b).calls.length (encL encI (x1.r.i x1.b).calls)else D.l 0 fun(x x_1:Nat)=>D.i 0)=(mgB x1).calls.length))/\((0=0/\(D.toN (if x1.b∈x1.r.ik then D.l (x1.r.i x1.b).units.length (encL encI (x1.r.i x1.b).units)else D.l 0 fun(x x_1:Nat)=>D.i 0)=(mgB x1).units.length))/\((D.toI (if x1.b∈x1.r.ik then D.i (x1.r.i x1.b).merged else D.i 0)=(mgB x1).merged)/\((D.toB (if x1.b∈x1.r.ik then D.b (x1.r.i x1.b).closed else D.b false)=(mgB x1).closed)/\True))))))))))/\(((RLe (mgA x1).nodes.length (D.toN (if x1.a∈x1.r.ik then D.l (x1.r.i x1.a).nodes.length (encL encI (x1.r.i x1.a).nodes)else D.l 0 fun(x x_1:Nat)=>D.i 0)))/\(RowsEq [.int .i64] (mgA x1).nodes.length (D.toF (if x1.a∈x1.r.ik then D.l (x1.r.i x1.a).nodes.length (encL encI (x1.r.i x1.a).nodes)else D.l 0 fun(x x_1:Nat)=>D.i 0)) (encL encI (mgA x1).nodes)))/\(((RLe (mgA x1).calls.length (D.toN (if x1.a∈x1.r.ik then D.l (x1.r.i x1.a).calls.length (encL encI (x1.r.i x1.a).calls)else D.l 0 fun(x x_1:Nat)=>D.i 0)))/\(RowsEq [.int .i64] (mgA x1).calls.length (D.toF (if x1.a∈x1.r.ik then D.l (x1.r.i x1.a).calls.length (encL encI (x1.r.i x1.a).calls)else D.l 0 fun(x x_1:Nat)=>D.i 0)) (encL encI (mgA x1).calls)))/\(((RLe (mgA x1).units.length (D.toN (if x1.a∈x1.r.ik then D.l (x1.r.i x1.a).units.length (encL encI (x1.r.i x1.a).units)else D.l 0 fun(x x_1:Nat)=>D.i 0)))/\(RowsEq [.int .i64] (mgA x1).units.length (D.toF (if x1.a∈x1.r.ik then D.l (x1.r.i x1.a).units.length (encL encI (x1.r.i x1.a).units)else D.l 0 fun(x x_1:Nat)=>D.i 0)) (encL encI (mgA x1).units)))/\(((RLe (mgB x1).nodes.length (D.toN (if x1.b∈x1.r.ik then D.l (x1.r.i x1.b).nodes.length (encL encI (x1.r.i x1.b).nodes)else D.l 0 fun(x x_1:Nat)=>D.i 0)))/\(RowsEq [.int .i64] (mgB x1).nodes.length (D.toF (if x1.b∈x1.r.ik then D.l (x1.r.i x1.b).nodes.length (encL encI (x1.r.i x1.b).nodes)else D.l 0 fun(x x_1:Nat)=>D.i 0)) (encL encI (mgB x1).nodes)))/\(((RLe (mgB x1).calls.length (D.toN (if x1.b∈x1.r.ik then D.l (x1.r.i x1.b).calls.length (encL encI (x1.r.i x1.b).calls)else D.l 0 fun(x x_1:Nat)=>D.i 0)))/\(RowsEq [.int .i64] (mgB x1).calls.length (D.toF (if x1.b∈x1.r.ik then D.l (x1.r.i x1.b).calls.length (encL encI (x1.r.i x1.b).calls)else D.l 0 fun(x x_1:Nat)=>D.i 0)) (encL encI (mgB x1).calls)))/\(((RLe (mgB x1).units.length (D.toN (if x1.b∈x1.r.ik then D.l (x1.r.i x1.b).units.length (encL encI (x1.r.i x1.b).units)else D.l 0 fun(x x_1:Nat)=>D.i 0)))/\(RowsEq [.int .i64] (mgB x1).units.length (D.toF (if x1.b∈x1.r.ik then D.l (x1.r.i x1.b).units.length (encL encI (x1.r.i x1.b).units)else D.l 0 fun(x x_1:Nat)=>D.i 0)) (encL encI (mgB x1).units)))/\(((RLe (D.toN (if x1.b∈x1.r.ik then D.l (x1.r.i x1.b).nodes.length (encL encI (x1.r.i x1.b).nodes)else D.l 0 fun(x x_1:Nat)=>D.i 0)) (D.toN (if x1.b∈x1.r.ik then D.l (x1.r.i x1.b).nodes.length (encL encI (x1.r.i x1.b).nodes)else D.l 0 fun(x x_1:Nat)=>D.i 0)))/\(RowsEq [.int .i64] (D.toN (if x1.b∈x1.r.ik then D.l (x1.r.i x1.b).nodes.length (encL encI (x1.r.i x1.b).nodes)else D.l 0 fun(x x_1:Nat)=>D.i 0)) (D.toF (if x1.b∈x1.r.ik then D.l (x1.r.i x1.b).nodes.length (encL encI (x1.r.i x1.b).nodes)else D.l 0 fun(x x_1:Nat)=>D.i 0)) (D.toF (if x1.b∈x1.r.ik then D.l (x1.r.i x1.b).nodes.length (encL encI (x1.r.i x1.b).nodes)else D.l 0 fun(x x_1:Nat)=>D.i 0))))/\(((RLe (D.toN (if x1.b∈x1.r.ik then D.l (x1.r.i x1.b).calls.length (encL encI (x1.r.i x1.b).calls)else D.l 0 fun(x x_1:Nat)=>D.i 0)) (D.toN (if x1.b∈x1.r.ik then D.l (x1.r.i x1.b).calls.length (encL encI (x1.r.i x1.b).calls)else D.l 0 fun(x x_1:Nat)=>D.i 0)))/\(RowsEq [.int .i64] (D.toN (if x1.b∈x1.r.ik then D.l (x1.r.i x1.b).calls.length (encL encI (x1.r.i x1.b).calls)else D.l 0 fun(x x_1:Nat)=>D.i 0)) (D.toF (if x1.b∈x1.r.ik then D.l (x1.r.i x1.b).calls.length (encL encI (x1.r.i x1.b).calls)else D.l 0 fun(x x_1:Nat)=>D.i 0)) (D.toF (if x1.b∈x1.r.ik then D.l (x1.r.i x1.b).calls.length (encL encI (x1.r.i x1.b).calls)else D.l 0 fun(x x_1:Nat)=>D.i 0))))/\(((RLe (D.toN (if x1.b∈x1.r.ik then D.l (x1.r.i x1.b).units.length (encL encI (x1.r.i x1.b).units)else D.l 0 fun(x x_1:Nat)=>D.i 0)) (D.toN (if x1.b∈x1.r.ik then D.l (x1.r.i x1.b).units.length (encL encI (x1.r.i x1.b).units)else D.l 0 fun(x x_1:Nat)=>D.i 0)))/\(RowsEq [.int .i64] (D.toN (if x1.b∈x1.r.ik then D.l (x1.r.i x1.b).units.length (encL encI (x1.r.i x1.b).units)else D.l 0 fun(x x_1:Nat)=>D.i 0)) (D.toF (if x1.b∈x1.r.ik then D.l (x1.r.i x1.b).units.length (encL encI (x1.r.i x1.b).units)else D.l 0 fun(x x_1:Nat)=>D.i 0)) (D.toF (if x1.b∈x1.r.ik then D.l (x1.r.i x1.b).units.length (encL encI (x1.r.i x1.b).units)else D.l 0 fun(x x_1:Nat)=>D.i 0))))/\(((RLe (D.toN (if x1.a∈x1.r.ik then D.l (x1.r.i x1.a).nodes.length (encL encI (x1.r.i x1.a).nodes)else D.l 0 fun(x x_1:Nat)=>D.i 0)) (D.toN (if x1.a∈x1.r.ik then D.l (x1.r.i x1.a).nodes.length (encL encI (x1.r.i x1.a).nodes)else D.l 0 fun(x x_1:Nat)=>D.i 0)))/\(RowsEq [.int .i64] (D.toN (if x1.a∈x1.r.ik then D.l (x1.r.i x1.a).nodes.length (encL encI (x1.r.i x1.a).nodes)else D.l 0 fun(x x_1:Nat)=>D.i 0)) (D.toF (if x1.a∈x1.r.ik then D.l (x1.r.i x1.a).nodes.length (encL encI (x1.r.i x1.a).nodes)else D.l 0 fun(x x_1:Nat)=>D.i 0)) (D.toF (if x1.a∈x1.r.ik then D.l (x1.r.i x1.a).nodes.length (encL encI (x1.r.i x1.a).nodes)else D.l 0 fun(x x_1:Nat)=>D.i 0))))/\(((RLe (D.toN (if x1.a∈x1.r.ik then D.l (x1.r.i x1.a).calls.length (encL encI (x1.r.i x1.a).calls)else D.l 0 fun(x x_1:Nat)=>D.i 0)) (D.toN (if x1.a∈x1.r.ik then D.l (x1.r.i x1.a).calls.length (encL encI (x1.r.i x1.a).calls)else D.l 0 fun(x x_1:Nat)=>D.i 0)))/\(RowsEq [.int .i64] (D.toN (if x1.a∈x1.r.ik then D.l (x1.r.i x1.a).calls.length (encL encI (x1.r.i x1.a).calls)else D.l 0 fun(x x_1:Nat)=>D.i 0)) (D.toF (if x1.a∈x1.r.ik then D.l (x1.r.i x1.a).calls.length (encL encI (x1.r.i x1.a).calls)else D.l 0 fun(x x_1:Nat)=>D.i 0)) (D.toF (if x1.a∈x1.r.ik then D.l (x1.r.i x1.a).calls.length (encL encI (x1.r.i x1.a).calls)else D.l 0 fun(x x_1:Nat)=>D.i 0))))/\(((RLe (D.toN (if x1.a∈x1.r.ik then D.l (x1.r.i x1.a).units.length (encL encI (x1.r.i x1.a).units)else D.l 0 fun(x x_1:Nat)=>D.i 0)) (D.toN (if x1.a∈x1.r.ik then D.l (x1.r.i x1.a).units.length (encL encI (x1.r.i x1.a).units)else D.l 0 fun(x x_1:Nat)=>D.i 0)))/\(RowsEq [.int .i64] (D.toN (if x1.a∈x1.r.ik then D.l (x1.r.i x1.a).units.length (encL encI (x1.r.i x1.a).units)else D.l 0 fun(x x_1:Nat)=>D.i 0)) (D.toF (if x1.a∈x1.r.ik then D.l (x1.r.i x1.a).units.length (encL encI (x1.r.i x1.a).units)else D.l 0 fun(x x_1:Nat)=>D.i 0)) (D.toF (if x1.a∈x1.r.ik then D.l (x1.r.i x1.a).units.length (encL encI (x1.r.i x1.a).units)else D.l 0 fun(x x_1:Nat)=>D.i 0))))/\((True/\(True/\(True/\True)))/\((MapEq (.int .i64:: .int .i64:: .int .i64::Kd.str:: .sl [.int .i64]:: .int .i64:: .int .i64::Kd.bool::[]) x1.r.ck x1.r.ck (encRC x1.r) (encRC x1.r))/\((MapEq (.int .i64:: .int .i64::Kd.str:: .sl [.int .i64]:: .int .i64:: .int .i64:: .sl [.int .i64]:: .sl [.int .i64]:: .int .i64::Kd.bool::[]) x1.r.ik x1.r.ik (encRI x1.r) (encRI x1.r))/\((MapEq [.int .i64] x1.r.hk x1.r.hk (encRH x1.r) (encRH x1.r))/\True)))))))))))))))))))))))/\(∀ y14:Unit,((mgIn x1)->((∃ x16:Ic,(True/\(((((mgA x1).id=x16.id)/\(((mgA x1).urg=x16.urg)/\(((mgA x1).code=x16.code)/\((0=0/\((mgA x1).nodes.length=x16.nodes.length))/\(((0:Int)=0)/\(((0:Int)=0)/\((0=0/\((mgA x1).calls.length=x16.calls.length))/\((0=0/\((mgA x1).units.length=x16.units.length))/\(((mgA x1).merged=x16.merged)/\(((mgA x1).closed=x16.closed)/\True))))))))))/\True)/\((((RLe x16.nodes.length (mgA x1).nodes.length)/\(RI x16.nodes.length (mgA x1).nodes x16.nodes))/\(((RLe x16.calls.length (mgA x1).calls.length)/\(RI x16.calls.length (mgA x1).calls x16.calls))/\(((RLe x16.units.length (mgA x1).units.length)/\(RI x16.units.length (mgA x1).units x16.units))/\True)))/\((((!(decide (x16.merged=(0:Int))&& !x16.closed))=false)->(∃ x18:Ic,(True/\(((((mgB x1).id=x18.id)/\(((mgB x1).urg=x18.urg)/\(((mgB x1).code=x18.code)/\((0=0/\((mgB x1).nodes.length=x18.nodes.length))/\(((0:Int)=0)/\(((0:Int)=0)/\((0=0/\((mgB x1).calls.length=x18.calls.length))/\((0=0/\((mgB x1).units.length=x18.units.length))/\(((mgB x1).merged=x18.merged)/\(((mgB x1).closed=x18.closed)/\True))))))))))/\True)/\((((RLe x18.nodes.length (mgB x1).nodes.length)/\(RI x18.nodes.length (mgB x1).nodes x18.nodes))/\(((RLe x18.calls.length (mgB x1).calls.length)/\(RI x18.calls.length (mgB x1).calls x18.calls))/\(((RLe x18.units.length (mgB x1).units.length)/\(RI x18.units.length (mgB x1).units x18.units))/\True)))/\(∃ x19:Unit,(True/\(((!(decide (x18.merged=(0:Int))&& !x18.closed))= !decide (mgOp x1))/\True))))))))/\(((!(decide (x16.merged=(0:Int))&& !x16.closed))=true)->(∃ x21:Unit,(True/\((true= !decide (mgOp x1))/\True)))))))))/\(∀ x22:Unit,(True->(((((!decide (mgOp x1))=true)->(((8:Int)=mgR x1)/\((MapEq (.int .i64:: .int .i64:: .int .i64::Kd.str:: .sl [.int .i64]:: .int .i64:: .int .i64::Kd.bool::[]) x1.r.ck (mgF x1).ck (encRC x1.r) (encRC (mgF x1)))/\((MapEq (.int .i64:: .int .i64::Kd.str:: .sl [.int .i64]:: .int .i64:: .int .i64:: .sl [.int .i64]:: .sl [.int .i64]:: .int .i64::Kd.bool::[]) x1.r.ik (mgF x1).ik (encRI x1.r) (encRI (mgF x1)))/\((MapEq [.int .i64] x1.r.hk (mgF x1).hk (encRH x1.r) (encRH (mgF x1)))/\True)))))/\(((!decide (mgOp x1))=false)->(∃ x26:Unit,((mgOp x1)/\(((decide (x1.b∈x1.r.ik)=decide (x1.b∈x1.r.ik))/\((0=0/\0=0)/\((decide (x1.a∈x1.r.ik)=decide (x1.a∈x1.r.ik))/\((0=0/\0=0)/\((0=0/\0=0)/\(x1.a=x1.a/\(x1.b=x1.b/\True)))))))/\((((mgA x1).id=(mgA x1).id)/\(((mgA x1).urg=(mgA x1).urg)/\(((mgA x1).code=(mgA x1).code)/\((0=0/\((mgA x1).nodes.length=(mgA x1).nodes.length))/\(((0:Int)=0)/\(((0:Int)=0)/\((0=0/\((mgA x1).calls.length=(mgA x1).calls.length))/\((0=0/\((mgA x1).units.length=(mgA x1).units.length))/\(((mgA x1).merged=(mgA x1).merged)/\(((mgA x1).closed=(mgA x1).closed)/\True))))))))))/\((((mgB x1).id=(mgB x1).id)/\(((mgB x1).urg=(mgB x1).urg)/\(((mgB x1).code=(mgB x1).code)/\((0=0/\((mgB x1).nodes.length=(mgB x1).nodes.length))/\(((0:Int)=0)/\(((0:Int)=0)/\((0=0/\((mgB x1).calls.length=(mgB x1).calls.length))/\((0=0/\((mgB x1).units.length=(mgB x1).units.length))/\(((mgB x1).merged=(mgB x1).merged)/\(((mgB x1).closed=(mgB x1).closed)/\True))))))))))/\(((RLe (mgA x1).nodes.length (mgA x1).nodes.length)/\(RowsEq [.int .i64] (mgA x1).nodes.length (encL encI (mgA x1).nodes) (encL encI (mgA x1).nodes)))/\(((RLe (mgA x1).calls.length (mgA x1).calls.length)/\(RowsEq [.int .i64] (mgA x1).calls.length (encL encI (mgA x1).calls) (encL encI (mgA x1).calls)))/\(((RLe (mgA x1).units.length (mgA x1).units.length)/\(RowsEq [.int .i64] (mgA x1).units.length (encL encI (mgA x1).units) (encL encI (mgA x1).units)))/\(((RLe (mgB x1).nodes.length (mgB x1).nodes.length)/\(RowsEq [.int .i64] (mgB x1).nodes.length (encL encI (mgB x1).nodes) (encL encI (mgB x1).nodes)))/\(((RLe (mgB x1).calls.length (mgB x1).calls.length)/\(RowsEq [.int .i64] (mgB x1).calls.length (encL encI (mgB x1).calls) (encL encI (mgB x1).calls)))/\(((RLe (mgB x1).units.length (mgB x1).units.length)/\(RowsEq [.int .i64] (mgB x1).units.length (encL encI (mgB x1).units) (encL encI (mgB x1).units)))/\(((RLe (D.toN (if x1.b∈x1.r.ik then D.l (x1.r.i x1.b).nodes.length (encL encI (x1.r.i x1.b).nodes)else D.l 0 fun(x x_1:Nat)=>D.i 0)) (D.toN (if x1.b∈x1.r.ik then D.l (x1.r.i x1.b).nodes.length (encL encI (x1.r.i x1.b).nodes)else D.l 0 fun(x x_1:Nat)=>D.i 0)))/\(RowsEq [.int .i64] (D.toN (if x1.b∈x1.r.ik then D.l (x1.r.i x1.b).nodes.length (encL encI (x1.r.i x1.b).nodes)else D.l 0 fun(x x_1:Nat)=>D.i 0)) (D.toF (if x1.b∈x1.r.ik then D.l (x1.r.i x1.b).nodes.length (encL encI (x1.r.i x1.b).nodes)else D.l 0 fun(x x_1:Nat)=>D.i 0)) (D.toF (if x1.b∈x1.r.ik then D.l (x1.r.i x1.b).nodes.length (encL encI (x1.r.i x1.b).nodes)else D.l 0 fun(x x_1:Nat)=>D.i 0))))/\(((RLe (D.toN (if x1.b∈x1.r.ik then D.l (x1.r.i x1.b).calls.length (encL encI (x1.r.i x1.b).calls)else D.l 0 fun(x x_1:Nat)=>D.i 0)) (D.toN (if x1.b∈x1.r.ik then D.l (x1.r.i x1.b).calls.length (encL encI (x1.r.i x1.b).calls)else D.l 0 fun(x x_1:Nat)=>D.i 0)))/\(RowsEq [.int .i64] (D.toN (if x1.b∈x1.r.ik then D.l (x1.r.i x1.b).calls.length (encL encI (x1.r.i x1.b).calls)else D.l 0 fun(x x_1:Nat)=>D.i 0)) (D.toF (if x1.b∈x1.r.ik then D.l (x1.r.i x1.b).calls.length (encL encI (x1.r.i x1.b).calls)else D.l 0 fun(x x_1:Nat)=>D.i 0)) (D.toF (if x1.b∈x1.r.ik then D.l (x1.r.i x1.b).calls.length (encL encI (x1.r.i x1.b).calls)else D.l 0 fun(x x_1:Nat)=>D.i 0))))/\(((RLe (D.toN (if x1.b∈x1.r.ik then D.l (x1.r.i x1.b).units.length (encL encI (x1.r.i x1.b).units)else D.l 0 fun(x x_1:Nat)=>D.i 0)) (D.toN (if x1.b∈x1.r.ik then D.l (x1.r.i x1.b).units.length (encL encI (x1.r.i x1.b).units)else D.l 0 fun(x x_1:Nat)=>D.i 0)))/\(RowsEq [.int .i64] (D.toN (if x1.b∈x1.r.ik then D.l (x1.r.i x1.b).units.length (encL encI (x1.r.i x1.b).units)else D.l 0 fun(x x_1:Nat)=>D.i 0)) (D.toF (if x1.b∈x1.r.ik then D.l (x1.r.i x1.b).units.length (encL encI (x1.r.i x1.b).units)else D.l 0 fun(x x_1:Nat)=>D.i 0)) (D.toF (if x1.b∈x1.r.ik then D.l (x1.r.i x1.b).units.length (encL encI (x1.r.i x1.b).units)else D.l 0 fun(x x_1:Nat)=>D.i 0))))/\(((RLe (D.toN (if x1.a∈x1.r.ik then D.l (x1.r.i x1.a).nodes.length (encL encI (x1.r.i x1.a).nodes)else D.l 0 fun(x x_1:Nat)=>D.i 0)) (D.toN (if x1.a∈x1.r.ik then D.l (x1.r.i x1.a).nodes.length (encL encI (x1.r.i x1.a).nodes)else D.l 0 fun(x x_1:Nat)=>D.i 0)))/\(RowsEq [.int .i64] (D.toN (if x1.a∈x1.r.ik then D.l (x1.r.i x1.a).nodes.length (encL encI (x1.r.i x1.a).nodes)else D.l 0 fun(x x_1:Nat)=>D.i 0)) (D.toF (if x1.a∈x1.r.ik then D.l (x1.r.i x1.a).nodes.length (encL encI (x1.r.i x1.a).nodes)else D.l 0 fun(x x_1:Nat)=>D.i 0)) (D.toF (if x1.a∈x1.r.ik then D.l (x1.r.i x1.a).nodes.length (encL encI (x1.r.i x1.a).nodes)else D.l 0 fun(x x_1:Nat)=>D.i 0))))/\(((RLe (D.toN (if x1.a∈x1.r.ik then D.l (x1.r.i x1.a).calls.length (encL encI (x1.r.i x1.a).calls)else D.l 0 fun(x x_1:Nat)=>D.i 0)) (D.toN (if x1.a∈x1.r.ik then D.l (x1.r.i x1.a).calls.length (encL encI (x1.r.i x1.a).calls)else D.l 0 fun(x x_1:Nat)=>D.i 0)))/\(RowsEq [.int .i64] (D.toN (if x1.a∈x1.r.ik then D.l (x1.r.i x1.a).calls.length (encL encI (x1.r.i x1.a).calls)else D.l 0 fun(x x_1:Nat)=>D.i 0)) (D.toF (if x1.a∈x1.r.ik then D.l (x1.r.i x1.a).calls.length (encL encI (x1.r.i x1.a).calls)else D.l 0 fun(x x_1:Nat)=>D.i 0)) (D.toF (if x1.a∈x1.r.ik then D.l (x1.r.i x1.a).calls.length (encL encI (x1.r.i x1.a).calls)else D.l 0 fun(x x_1:Nat)=>D.i 0))))/\(((RLe (D.toN (if x1.a∈x1.r.ik then D.l (x1.r.i x1.a).units.length (encL encI (x1.r.i x1.a).units)else D.l 0 fun(x x_1:Nat)=>D.i 0)) (D.toN (if x1.a∈x1.r.ik then D.l (x1.r.i x1.a).units.length (encL encI (x1.r.i x1.a).units)else D.l 0 fun(x x_1:Nat)=>D.i 0)))/\(RowsEq [.int .i64] (D.toN (if x1.a∈x1.r.ik then D.l (x1.r.i x1.a).units.length (encL encI (x1.r.i x1.a).units)else D.l 0 fun(x x_1:Nat)=>D.i 0)) (D.toF (if x1.a∈x1.r.ik then D.l (x1.r.i x1.a).units.length (encL encI (x1.r.i x1.a).units)else D.l 0 fun(x x_1:Nat)=>D.i 0)) (D.toF (if x1.a∈x1.r.ik then D.l (x1.r.i x1.a).units.length (encL encI (x1.r.i x1.a).units)else D.l 0 fun(x x_1:Nat)=>D.i 0))))/\((True/\(True/\(True/\True)))/\((MapEq (.int .i64:: .int .i64:: .int .i64::Kd.str:: .sl [.int .i64]:: .int .i64:: .int .i64::Kd.bool::[]) x1.r.ck x1.r.ck (encRC x1.r) (encRC x1.r))/\((MapEq (.int .i64:: .int .i64::Kd.str:: .sl [.int .i64]:: .int .i64:: .int .i64:: .sl [.int .i64]:: .sl [.int .i64]:: .int .i64::Kd.bool::[]) x1.r.ik x1.r.ik (encRI x1.r) (encRI x1.r))/\((MapEq [.int .i64] x1.r.hk x1.r.hk (encRH x1.r) (encRH x1.r))/\True)))))))))))))))))))))))/\(∀ y27:Unit,((mgOp x1)->(((((-9223372036854775808:Int)<=(↑(mgA x1).calls.length:Int)+(↑(mgB x1).calls.length:Int))/\((↑(mgA x1).calls.length:Int)+(↑(mgB x1).calls.length:Int)<=(9223372036854775807:Int)))/\(∃ x29:Unit,(True/\((decide (1000<(↑(mgA x1).calls.length:Int)+(↑(mgB x1).calls.length:Int))=false)/\True))))/\(∀ x30:Unit,(True->(∃ x32:Nat,(((x32<=(mgA x1).calls.length)/\(((0=(x32:Int))/\(((↑(mgA x1).calls.length:Int)=(↑(mgA x1).calls.length:Int))/\((0=0/\((mgA x1).calls.length=(mgA x1).calls.length))/\((decide (x1.b∈x1.r.ik)=decide (x1.b∈x1.r.ik))/\((0=0/\0=0)/\((decide (x1.a∈x1.r.ik)=decide (x1.a∈x1.r.ik))/\((0=0/\0=0)/\((0=0/\0=0)/\(x1.a=x1.a/\(x1.b=x1.b/\True))))))))))/\((MapEq (.int .i64:: .int .i64:: .int .i64::Kd.str:: .sl [.int .i64]:: .int .i64:: .int .i64::Kd.bool::[]) x1.r.ck x1.r.ck (encRC x1.r) (encMv x1 x32))/\((((mgA x1).id=(mgA x1).id)/\(((mgA x1).urg=(mgA x1).urg)/\(((mgA x1).code=(mgA x1).code)/\((0=0/\((mgA x1).nodes.length=(mgA x1).nodes.length))/\(((0:Int)=0)/\(((0:Int)=0)/\((0=0/\((mgA x1).calls.length=(mgA x1).calls.length))/\((0=0/\((mgA x1).units.length=(mgA x1).units.length))/\(((mgA x1).merged=(mgA x1).merged)/\(((mgA x1).closed=(mgA x1).closed)/\True))))))))))/\((((mgB x1).id=(mgB x1).id)/\(((mgB x1).urg=(mgB x1).urg)/\(((mgB x1).code=(mgB x1).code)/\((0=0/\((mgB x1).nodes.length=(mgB x1).nodes.length))/\(((0:Int)=0)/\(((0:Int)=0)/\((0=0/\((mgB x1).calls.length=(mgB x1).calls.length))/\((0=0/\((mgB x1).units.length=(mgB x1).units.length))/\(((mgB x1).merged=(mgB x1).merged)/\(((mgB x1).closed=(mgB x1).closed)/\True))))))))))/\(((RLe (mgA x1).nodes.length (mgA x1).nodes.length)/\(RowsEq [.int .i64] (mgA x1).nodes.length (encL encI (mgA x1).nodes) (encL encI (mgA x1).nodes)))/\(((RLe (mgA x1).calls.length (mgA x1).calls.length)/\(RowsEq [.int .i64] (mgA x1).calls.length (encL encI (mgA x1).calls) (encL encI (mgA x1).calls)))/\(((RLe (mgA x1).units.length (mgA x1).units.length)/\(RowsEq [.int .i64] (mgA x1).units.length (encL encI (mgA x1).units) (encL encI (mgA x1).units)))/\(((RLe (mgB x1).nodes.length (mgB x1).nodes.length)/\(RowsEq [.int .i64] (mgB x1).nodes.length (encL encI (mgB x1).nodes) (encL encI (mgB x1).nodes)))/\(((RLe (mgB x1).calls.length (mgB x1).calls.length)/\(RowsEq [.int .i64] (mgB x1).calls.length (encL encI (mgB x1).calls) (encL encI (mgB x1).calls)))/\(((RLe (mgB x1).units.length (mgB x1).units.length)/\(RowsEq [.int .i64] (mgB x1).units.length (encL encI (mgB x1).units) (encL encI (mgB x1).units)))/\(((RLe (D.toN (if x1.b∈x1.r.ik then D.l (x1.r.i x1.b).nodes.length (encL encI (x1.r.i x1.b).nodes)else D.l 0 fun(x x_1:Nat)=>D.i 0)) (D.toN (if x1.b∈x1.r.ik then D.l (x1.r.i x1.b).nodes.length (encL encI (x1.r.i x1.b).nodes)else D.l 0 fun(x x_1:Nat)=>D.i 0)))/\(RowsEq [.int .i64] (D.toN (if x1.b∈x1.r.ik then D.l (x1.r.i x1.b).nodes.length (encL encI (x1.r.i x1.b).nodes)else D.l 0 fun(x x_1:Nat)=>D.i 0)) (D.toF (if x1.b∈x1.r.ik then D.l (x1.r.i x1.b).nodes.length (encL encI (x1.r.i x1.b).nodes)else D.l 0 fun(x x_1:Nat)=>D.i 0)) (D.toF (if x1.b∈x1.r.ik then D.l (x1.r.i x1.b).nodes.length (encL encI (x1.r.i x1.b).nodes)else D.l 0 fun(x x_1:Nat)=>D.i 0))))/\(((RLe (D.toN (if x1.b∈x1.r.ik then D.l (x1.r.i x1.b).calls.length (encL encI (x1.r.i x1.b).calls)else D.l 0 fun(x x_1:Nat)=>D.i 0)) (D.toN (if x1.b∈x1.r.ik then D.l (x1.r.i x1.b).calls.length (encL encI (x1.r.i x1.b).calls)else D.l 0 fun(x x_1:Nat)=>D.i 0)))/\(RowsEq [.int .i64] (D.toN (if x1.b∈x1.r.ik then D.l (x1.r.i x1.b).calls.length (encL encI (x1.r.i x1.b).calls)else D.l 0 fun(x x_1:Nat)=>D.i 0)) (D.toF (if x1.b∈x1.r.ik then D.l (x1.r.i x1.b).calls.length (encL encI (x1.r.i x1.b).calls)else D.l 0 fun(x x_1:Nat)=>D.i 0)) (D.toF (if x1.b∈x1.r.ik then D.l (x1.r.i x1.b).calls.length (encL encI (x1.r.i x1.b).calls)else D.l 0 fun(x x_1:Nat)=>D.i 0))))/\(((RLe (D.toN (if x1.b∈x1.r.ik then D.l (x1.r.i x1.b).units.length (encL encI (x1.r.i x1.b).units)else D.l 0 fun(x x_1:Nat)=>D.i 0)) (D.toN (if x1.b∈x1.r.ik then D.l (x1.r.i x1.b).units.length (encL encI (x1.r.i x1.b).units)else D.l 0 fun(x x_1:Nat)=>D.i 0)))/\(RowsEq [.int .i64] (D.toN (if x1.b∈x1.r.ik then D.l (x1.r.i x1.b).units.length (encL encI (x1.r.i x1.b).units)else D.l 0 fun(x x_1:Nat)=>D.i 0)) (D.toF (if x1.b∈x1.r.ik then D.l (x1.r.i x1.b).units.length (encL encI (x1.r.i x1.b).units)else D.l 0 fun(x x_1:Nat)=>D.i 0)) (D.toF (if x1.b∈x1.r.ik then D.l (x1.r.i x1.b).units.length (encL encI (x1.r.i x1.b).units)else D.l 0 fun(x x_1:Nat)=>D.i 0))))/\(((RLe (D.toN (if x1.a∈x1.r.ik then D.l (x1.r.i x1.a).nodes.length (encL encI (x1.r.i x1.a).nodes)else D.l 0 fun(x x_1:Nat)=>D.i 0)) (D.toN (if x1.a∈x1.r.ik then D.l (x1.r.i x1.a).nodes.length (encL encI (x1.r.i x1.a).nodes)else D.l 0 fun(x x_1:Nat)=>D.i 0)))/\(RowsEq [.int .i64] (D.toN (if x1.a∈x1.r.ik then D.l (x1.r.i x1.a).nodes.length (encL encI (x1.r.i x1.a).nodes)else D.l 0 fun(x x_1:Nat)=>D.i 0)) (D.toF (if x1.a∈x1.r.ik then D.l (x1.r.i x1.a).nodes.length (encL encI (x1.r.i x1.a).nodes)else D.l 0 fun(x x_1:Nat)=>D.i 0)) (D.toF (if x1.a∈x1.r.ik then D.l (x1.r.i x1.a).nodes.length (encL encI (x1.r.i x1.a).nodes)else D.l 0 fun(x x_1:Nat)=>D.i 0))))/\(((RLe (D.toN (if x1.a∈x1.r.ik then D.l (x1.r.i x1.a).calls.length (encL encI (x1.r.i x1.a).calls)else D.l 0 fun(x x_1:Nat)=>D.i 0)) (D.toN (if x1.a∈x1.r.ik then D.l (x1.r.i x1.a).calls.length (encL encI (x1.r.i x1.a).calls)else D.l 0 fun(x x_1:Nat)=>D.i 0)))/\(RowsEq [.int .i64] (D.toN (if x1.a∈x1.r.ik then D.l (x1.r.i x1.a).calls.length (encL encI (x1.r.i x1.a).calls)else D.l 0 fun(x x_1:Nat)=>D.i 0)) (D.toF (if x1.a∈x1.r.ik then D.l (x1.r.i x1.a).calls.length (encL encI (x1.r.i x1.a).calls)else D.l 0 fun(x x_1:Nat)=>D.i 0)) (D.toF (if x1.a∈x1.r.ik then D.l (x1.r.i x1.a).calls.length (encL encI (x1.r.i x1.a).calls)else D.l 0 fun(x x_1:Nat)=>D.i 0))))/\(((RLe (D.toN (if x1.a∈x1.r.ik then D.l (x1.r.i x1.a).units.length (encL encI (x1.r.i x1.a).units)else D.l 0 fun(x x_1:Nat)=>D.i 0)) (D.toN (if x1.a∈x1.r.ik then D.l (x1.r.i x1.a).units.length (encL encI (x1.r.i x1.a).units)else D.l 0 fun(x x_1:Nat)=>D.i 0)))/\(RowsEq [.int .i64] (D.toN (if x1.a∈x1.r.ik then D.l (x1.r.i x1.a).units.length (encL encI (x1.r.i x1.a).units)else D.l 0 fun(x x_1:Nat)=>D.i 0)) (D.toF (if x1.a∈x1.r.ik then D.l (x1.r.i x1.a).units.length (encL encI (x1.r.i x1.a).units)else D.l 0 fun(x x_1:Nat)=>D.i 0)) (D.toF (if x1.a∈x1.r.ik then D.l (x1.r.i x1.a).units.length (encL encI (x1.r.i x1.a).units)else D.l 0 fun(x x_1:Nat)=>D.i 0))))/\((True/\(True/\(True/\True)))/\((MapEq (.int .i64:: .int .i64::Kd.str:: .sl [.int .i64]:: .int .i64:: .int .i64:: .sl [.int .i64]:: .sl [.int .i64]:: .int .i64::Kd.bool::[]) x1.r.ik x1.r.ik (encRI x1.r) (encRI x1.r))/\((MapEq [.int .i64] x1.r.hk x1.r.hk (encRH x1.r) (encRH x1.r))/\True))))))))))))))))))))/\(∀ x33:Nat,((x33<=(mgA x1).calls.length)->(((decide ((x33:Int)<(↑(mgA x1).calls.length:Int))=true)->((((0:Int)<=(x33:Int))/\((x33:Int)<(↑(mgA x1).calls.length:Int)))/\((0+Int.toNat (x33:Int)<(mgA x1).calls.length)/\((True/\(True/\(True/\(True/\(((0:Nat)+D.toN (if(mgA x1).calls.getD (0+Int.toNat (x33:Int)) default∈x1.r.ck then D.l (mvC x1.b x1.r.c (List.take x33 (mgA x1).calls) ((mgA x1).calls.getD (0+Int.toNat (x33:Int)) default)).nodes.length (encL encI (mvC x1.b x1.r.c (List.take x33 (mgA x1).calls) ((mgA x1).calls.getD (0+Int.toNat (x33:Int)) default)).nodes)else D.l 0 fun(x x_1:Nat)=>D.i 0)<=D.toN (if(mgA x1).calls.getD (0+Int.toNat (x33:Int)) default∈x1.r.ck then D.l (mvC x1.b x1.r.c (List.take x33 (mgA x1).calls) ((mgA x1).calls.getD (0+Int.toNat (x33:Int)) default)).nodes.length (encL encI (mvC x1.b x1.r.c (List.take x33 (mgA x1).calls) ((mgA x1).calls.getD (0+Int.toNat (x33:Int)) default)).nodes)else D.l 0 fun(x x_1:Nat)=>D.i 0))/\(True/\(True/\(True/\True))))))))/\((((-9223372036854775808:Int)<=(x33:Int)+1)/\((x33:Int)+1<=(9223372036854775807:Int)))/\(∃ x36:Nat,(((mgA x1).calls.length-x36<(mgA x1).calls.length-x33)/\((x36<=(mgA x1).calls.length)/\((((x33:Int)+1=(x36:Int))/\(((↑(mgA x1).calls.length:Int)=(↑(mgA x1).calls.length:Int))/\((0=0/\((mgA x1).calls.length=(mgA x1).calls.length))/\((decide (x1.b∈x1.r.ik)=decide (x1.b∈x1.r.ik))/\((0=0/\0=0)/\((decide (x1.a∈x1.r.ik)=decide (x1.a∈x1.r.ik))/\((0=0/\0=0)/\((0=0/\0=0)/\(x1.a=x1.a/\(x1.b=x1.b/\True))))))))))/\((MapEq (.int .i64:: .int .i64:: .int .i64::Kd.str:: .sl [.int .i64]:: .int .i64:: .int .i64::Kd.bool::[]) (madd1 x1.r.ck ((mgA x1).calls.getD (0+Int.toNat (x33:Int)) default)) x1.r.ck (mset (encMv x1 x33) ((mgA x1).calls.getD (0+Int.toNat (x33:Int)) default) fun(j:Nat)=>(D.i (D.toI (if(mgA x1).calls.getD (0+Int.toNat (x33:Int)) default∈x1.r.ck then D.i (mvC x1.b x1.r.c (List.take x33 (mgA x1).calls) ((mgA x1).calls.getD (0+Int.toNat (x33:Int)) default)).call else D.i 0))::D.i x1.b::D.i (D.toI (if(mgA x1).calls.getD (0+Int.toNat (x33:Int)) default∈x1.r.ck then D.i (mvC x1.b x1.r.c (List.take x33 (mgA x1).calls) ((mgA x1).calls.getD (0+Int.toNat (x33:Int)) default)).urg else D.i 0))::D.s (D.toS (if(mgA x1).calls.getD (0+Int.toNat (x33:Int)) default∈x1.r.ck then D.s (mvC x1.b x1.r.c (List.take x33 (mgA x1).calls) ((mgA x1).calls.getD (0+Int.toNat (x33:Int)) default)).code else D.s ByteArray.empty))::(D.l (D.toN (if(mgA x1).calls.getD (0+Int.toNat (x33:Int)) default∈x1.r.ck then D.l (mvC x1.b x1.r.c (List.take x33 (mgA x1).calls) ((mgA x1).calls.getD (0+Int.toNat (x33:Int)) default)).nodes.length (encL encI (mvC x1.b x1.r.c (List.take x33 (mgA x1).calls) ((mgA x1).calls.getD (0+Int.toNat (x33:Int)) default)).nodes)else D.l 0 fun(x x_1:Nat)=>D.i 0)) fun(r c:Nat)=>D.toF (if(mgA x1).calls.getD (0+Int.toNat (x33:Int)) default∈x1.r.ck then D.l (mvC x1.b x1.r.c (List.take x33 (mgA x1).calls) ((mgA x1).calls.getD (0+Int.toNat (x33:Int)) default)).nodes.length (encL encI (mvC x1.b x1.r.c (List.take x33 (mgA x1).calls) ((mgA x1).calls.getD (0+Int.toNat (x33:Int)) default)).nodes)else D.l 0 fun(x x_1:Nat)=>D.i 0) ((0:Nat)+r) c)::D.i (D.toI (if(mgA x1).calls.getD (0+Int.toNat (x33:Int)) default∈x1.r.ck then D.i 0 else D.i 0))::D.i (D.toI (if(mgA x1).calls.getD (0+Int.toNat (x33:Int)) default∈x1.r.ck then D.i 0 else D.i 0))::D.b (D.toB (if(mgA x1).calls.getD (0+Int.toNat (x33:Int)) default∈x1.r.ck then D.b (mvC x1.b x1.r.c (List.take x33 (mgA x1).calls) ((mgA x1).calls.getD (0+Int.toNat (x33:Int)) default)).closed else D.b false))::@List.nil D).getD j (D.i 0)) (encMv x1 x36))/\((((mgA x1).id=(mgA x1).id)/\(((mgA x1).urg=(mgA x1).urg)/\(((mgA x1).code=(mgA x1).code)/\((0=0/\((mgA x1).nodes.length=(mgA x1).nodes.length))/\(((0:Int)=0)/\(((0:Int)=0)/\((0=0/\((mgA x1).calls.length=(mgA x1).calls.length))/\((0=0/\((mgA x1).units.length=(mgA x1).units.length))/\(((mgA x1).merged=(mgA x1).merged)/\(((mgA x1).closed=(mgA x1).closed)/\True))))))))))/\((((mgB x1).id=(mgB x1).id)/\(((mgB x1).urg=(mgB x1).urg)/\(((mgB x1).code=(mgB x1).code)/\((0=0/\((mgB x1).nodes.length=(mgB x1).nodes.length))/\(((0:Int)=0)/\(((0:Int)=0)/\((0=0/\((mgB x1).calls.length=(mgB x1).calls.length))/\((0=0/\((mgB x1).units.length=(mgB x1).units.length))/\(((mgB x1).merged=(mgB x1).merged)/\(((mgB x1).closed=(mgB x1).closed)/\True))))))))))/\(((RLe (mgA x1).nodes.length (mgA x1).nodes.length)/\(RowsEq [.int .i64] (mgA x1).nodes.length (encL encI (mgA x1).nodes) (encL encI (mgA x1).nodes)))/\(((RLe (mgA x1).calls.length (mgA x1).calls.length)/\(RowsEq [.int .i64] (mgA x1).calls.length (encL encI (mgA x1).calls) (encL encI (mgA x1).calls)))/\(((RLe (mgA x1).units.length (mgA x1).units.length)/\(RowsEq [.int .i64] (mgA x1).units.length (encL encI (mgA x1).units) (encL encI (mgA x1).units)))/\(((RLe (mgB x1).nodes.length (mgB x1).nodes.length)/\(RowsEq [.int .i64] (mgB x1).nodes.length (encL encI (mgB x1).nodes) (encL encI (mgB x1).nodes)))/\(((RLe (mgB x1).calls.length (mgB x1).calls.length)/\(RowsEq [.int .i64] (mgB x1).calls.length (encL encI (mgB x1).calls) (encL encI (mgB x1).calls)))/\(((RLe (mgB x1).units.length (mgB x1).units.length)/\(RowsEq [.int .i64] (mgB x1).units.length (encL encI (mgB x1).units) (encL encI (mgB x1).units)))/\(((RLe (D.toN (if x1.b∈x1.r.ik then D.l (x1.r.i x1.b).nodes.length (encL encI (x1.r.i x1.b).nodes)else D.l 0 fun(x x_1:Nat)=>D.i 0)) (D.toN (if x1.b∈x1.r.ik then D.l (x1.r.i x1.b).nodes.length (encL encI (x1.r.i x1.b).nodes)else D.l 0 fun(x x_1:Nat)=>D.i 0)))/\(RowsEq [.int .i64] (D.toN (if x1.b∈x1.r.ik then D.l (x1.r.i x1.b).nodes.length (encL encI (x1.r.i x1.b).nodes)else D.l 0 fun(x x_1:Nat)=>D.i 0)) (D.toF (if x1.b∈x1.r.ik then D.l (x1.r.i x1.b).nodes.length (encL encI (x1.r.i x1.b).nodes)else D.l 0 fun(x x_1:Nat)=>D.i 0)) (D.toF (if x1.b∈x1.r.ik then D.l (x1.r.i x1.b).nodes.length (encL encI (x1.r.i x1.b).nodes)else D.l 0 fun(x x_1:Nat)=>D.i 0))))/\(((RLe (D.toN (if x1.b∈x1.r.ik then D.l (x1.r.i x1.b).calls.length (encL encI (x1.r.i x1.b).calls)else D.l 0 fun(x x_1:Nat)=>D.i 0)) (D.toN (if x1.b∈x1.r.ik then D.l (x1.r.i x1.b).calls.length (encL encI (x1.r.i x1.b).calls)else D.l 0 fun(x x_1:Nat)=>D.i 0)))/\(RowsEq [.int .i64] (D.toN (if x1.b∈x1.r.ik then D.l (x1.r.i x1.b).calls.length (encL encI (x1.r.i x1.b).calls)else D.l 0 fun(x x_1:Nat)=>D.i 0)) (D.toF (if x1.b∈x1.r.ik then D.l (x1.r.i x1.b).calls.length (encL encI (x1.r.i x1.b).calls)else D.l 0 fun(x x_1:Nat)=>D.i 0)) (D.toF (if x1.b∈x1.r.ik then D.l (x1.r.i x1.b).calls.length (encL encI (x1.r.i x1.b).calls)else D.l 0 fun(x x_1:Nat)=>D.i 0))))/\(((RLe (D.toN (if x1.b∈x1.r.ik then D.l (x1.r.i x1.b).units.length (encL encI (x1.r.i x1.b).units)else D.l 0 fun(x x_1:Nat)=>D.i 0)) (D.toN (if x1.b∈x1.r.ik then D.l (x1.r.i x1.b).units.length (encL encI (x1.r.i x1.b).units)else D.l 0 fun(x x_1:Nat)=>D.i 0)))/\(RowsEq [.int .i64] (D.toN (if x1.b∈x1.r.ik then D.l (x1.r.i x1.b).units.length (encL encI (x1.r.i x1.b).units)else D.l 0 fun(x x_1:Nat)=>D.i 0)) (D.toF (if x1.b∈x1.r.ik then D.l (x1.r.i x1.b).units.length (encL encI (x1.r.i x1.b).units)else D.l 0 fun(x x_1:Nat)=>D.i 0)) (D.toF (if x1.b∈x1.r.ik then D.l (x1.r.i x1.b).units.length (encL encI (x1.r.i x1.b).units)else D.l 0 fun(x x_1:Nat)=>D.i 0))))/\(((RLe (D.toN (if x1.a∈x1.r.ik then D.l (x1.r.i x1.a).nodes.length (encL encI (x1.r.i x1.a).nodes)else D.l 0 fun(x x_1:Nat)=>D.i 0)) (D.toN (if x1.a∈x1.r.ik then D.l (x1.r.i x1.a).nodes.length (encL encI (x1.r.i x1.a).nodes)else D.l 0 fun(x x_1:Nat)=>D.i 0)))/\(RowsEq [.int .i64] (D.toN (if x1.a∈x1.r.ik then D.l (x1.r.i x1.a).nodes.length (encL encI (x1.r.i x1.a).nodes)else D.l 0 fun(x x_1:Nat)=>D.i 0)) (D.toF (if x1.a∈x1.r.ik then D.l (x1.r.i x1.a).nodes.length (encL encI (x1.r.i x1.a).nodes)else D.l 0 fun(x x_1:Nat)=>D.i 0)) (D.toF (if x1.a∈x1.r.ik then D.l (x1.r.i x1.a).nodes.length (encL encI (x1.r.i x1.a).nodes)else D.l 0 fun(x x_1:Nat)=>D.i 0))))/\(((RLe (D.toN (if x1.a∈x1.r.ik then D.l (x1.r.i x1.a).calls.length (encL encI (x1.r.i x1.a).calls)else D.l 0 fun(x x_1:Nat)=>D.i 0)) (D.toN (if x1.a∈x1.r.ik then D.l (x1.r.i x1.a).calls.length (encL encI (x1.r.i x1.a).calls)else D.l 0 fun(x x_1:Nat)=>D.i 0)))/\(RowsEq [.int .i64] (D.toN (if x1.a∈x1.r.ik then D.l (x1.r.i x1.a).calls.length (encL encI (x1.r.i x1.a).calls)else D.l 0 fun(x x_1:Nat)=>D.i 0)) (D.toF (if x1.a∈x1.r.ik then D.l (x1.r.i x1.a).calls.length (encL encI (x1.r.i x1.a).calls)else D.l 0 fun(x x_1:Nat)=>D.i 0)) (D.toF (if x1.a∈x1.r.ik then D.l (x1.r.i x1.a).calls.length (encL encI (x1.r.i x1.a).calls)else D.l 0 fun(x x_1:Nat)=>D.i 0))))/\(((RLe (D.toN (if x1.a∈x1.r.ik then D.l (x1.r.i x1.a).units.length (encL encI (x1.r.i x1.a).units)else D.l 0 fun(x x_1:Nat)=>D.i 0)) (D.toN (if x1.a∈x1.r.ik then D.l (x1.r.i x1.a).units.length (encL encI (x1.r.i x1.a).units)else D.l 0 fun(x x_1:Nat)=>D.i 0)))/\(RowsEq [.int .i64] (D.toN (if x1.a∈x1.r.ik then D.l (x1.r.i x1.a).units.length (encL encI (x1.r.i x1.a).units)else D.l 0 fun(x x_1:Nat)=>D.i 0)) (D.toF (if x1.a∈x1.r.ik then D.l (x1.r.i x1.a).units.length (encL encI (x1.r.i x1.a).units)else D.l 0 fun(x x_1:Nat)=>D.i 0)) (D.toF (if x1.a∈x1.r.ik then D.l (x1.r.i x1.a).units.length (encL encI (x1.r.i x1.a).units)else D.l 0 fun(x x_1:Nat)=>D.i 0))))/\((True/\(True/\(True/\True)))/\((MapEq (.int .i64:: .int .i64::Kd.str:: .sl [.int .i64]:: .int .i64:: .int .i64:: .sl [.int .i64]:: .sl [.int .i64]:: .int .i64::Kd.bool::[]) x1.r.ik x1.r.ik (encRI x1.r) (encRI x1.r))/\((MapEq [.int .i64] x1.r.hk x1.r.hk (encRH x1.r) (encRH x1.r))/\True)))))))))))))))))))))))))))/\((decide ((x33:Int)<(↑(mgA x1).calls.length:Int))=false)->(∃ x38:Unit,((True/\((((0:Int)=0)/\(((↑(mgA x1).units.length:Int)=(↑(mgA x1).units.length:Int))/\((0=0/\((mgA x1).units.length=(mgA x1).units.length))/\((decide (x1.b∈x1.r.ik)=decide (x1.b∈x1.r.ik))/\((0=0/\0=0)/\((decide (x1.a∈x1.r.ik)=decide (x1.a∈x1.r.ik))/\((0=0/\0=0)/\((0=0/\0=0)/\(x1.a=x1.a/\(x1.b=x1.b/\True))))))))))/\((MapEq (.int .i64:: .int .i64:: .int .i64::Kd.str:: .sl [.int .i64]:: .int .i64:: .int .i64::Kd.bool::[]) x1.r.ck x1.r.ck (encMv x1 x33) (encMv x1 x33))/\((((mgA x1).id=(mgA x1).id)/\(((mgA x1).urg=(mgA x1).urg)/\(((mgA x1).code=(mgA x1).code)/\((0=0/\((mgA x1).nodes.length=(mgA x1).nodes.length))/\(((0:Int)=0)/\(((0:Int)=0)/\((0=0/\((mgA x1).calls.length=(mgA x1).calls.length))/\((0=0/\((mgA x1).units.length=(mgA x1).units.length))/\(((mgA x1).merged=(mgA x1).merged)/\(((mgA x1).closed=(mgA x1).closed)/\True))))))))))/\((((mgB x1).id=(mgB x1).id)/\(((mgB x1).urg=(mgB x1).urg)/\(((mgB x1).code=(mgB x1).code)/\((0=0/\((mgB x1).nodes.length=(mgB x1).nodes.length))/\(((0:Int)=0)/\(((0:Int)=0)/\((0=0/\((mgB x1).calls.length=(mgB x1).calls.length))/\((0=0/\((mgB x1).units.length=(mgB x1).units.length))/\(((mgB x1).merged=(mgB x1).merged)/\(((mgB x1).closed=(mgB x1).closed)/\True))))))))))/\(((RLe (mgA x1).nodes.length (mgA x1).nodes.length)/\(RowsEq [.int .i64] (mgA x1).nodes.length (encL encI (mgA x1).nodes) (encL encI (mgA x1).nodes)))/\(((RLe (mgA x1).calls.length (mgA x1).calls.length)/\(RowsEq [.int .i64] (mgA x1).calls.length (encL encI (mgA x1).calls) (encL encI (mgA x1).calls)))/\(((RLe (mgA x1).units.length (mgA x1).units.length)/\(RowsEq [.int .i64] (mgA x1).units.length (encL encI (mgA x1).units) (encL encI (mgA x1).units)))/\(((RLe (mgB x1).nodes.length (mgB x1).nodes.length)/\(RowsEq [.int .i64] (mgB x1).nodes.length (encL encI (mgB x1).nodes) (encL encI (mgB x1).nodes)))/\(((RLe (mgB x1).calls.length (mgB x1).calls.length)/\(RowsEq [.int .i64] (mgB x1).calls.length (encL encI (mgB x1).calls) (encL encI (mgB x1).calls)))/\(((RLe (mgB x1).units.length (mgB x1).units.length)/\(RowsEq [.int .i64] (mgB x1).units.length (encL encI (mgB x1).units) (encL encI (mgB x1).units)))/\(((RLe (D.toN (if x1.b∈x1.r.ik then D.l (x1.r.i x1.b).nodes.length (encL encI (x1.r.i x1.b).nodes)else D.l 0 fun(x x_1:Nat)=>D.i 0)) (D.toN (if x1.b∈x1.r.ik then D.l (x1.r.i x1.b).nodes.length (encL encI (x1.r.i x1.b).nodes)else D.l 0 fun(x x_1:Nat)=>D.i 0)))/\(RowsEq [.int .i64] (D.toN (if x1.b∈x1.r.ik then D.l (x1.r.i x1.b).nodes.length (encL encI (x1.r.i x1.b).nodes)else D.l 0 fun(x x_1:Nat)=>D.i 0)) (D.toF (if x1.b∈x1.r.ik then D.l (x1.r.i x1.b).nodes.length (encL encI (x1.r.i x1.b).nodes)else D.l 0 fun(x x_1:Nat)=>D.i 0)) (D.toF (if x1.b∈x1.r.ik then D.l (x1.r.i x1.b).nodes.length (encL encI (x1.r.i x1.b).nodes)else D.l 0 fun(x x_1:Nat)=>D.i 0))))/\(((RLe (D.toN (if x1.b∈x1.r.ik then D.l (x1.r.i x1.b).calls.length (encL encI (x1.r.i x1.b).calls)else D.l 0 fun(x x_1:Nat)=>D.i 0)) (D.toN (if x1.b∈x1.r.ik then D.l (x1.r.i x1.b).calls.length (encL encI (x1.r.i x1.b).calls)else D.l 0 fun(x x_1:Nat)=>D.i 0)))/\(RowsEq [.int .i64] (D.toN (if x1.b∈x1.r.ik then D.l (x1.r.i x1.b).calls.length (encL encI (x1.r.i x1.b).calls)else D.l 0 fun(x x_1:Nat)=>D.i 0)) (D.toF (if x1.b∈x1.r.ik then D.l (x1.r.i x1.b).calls.length (encL encI (x1.r.i x1.b).calls)else D.l 0 fun(x x_1:Nat)=>D.i 0)) (D.toF (if x1.b∈x1.r.ik then D.l (x1.r.i x1.b).calls.length (encL encI (x1.r.i x1.b).calls)else D.l 0 fun(x x_1:Nat)=>D.i 0))))/\(((RLe (D.toN (if x1.b∈x1.r.ik then D.l (x1.r.i x1.b).units.length (encL encI (x1.r.i x1.b).units)else D.l 0 fun(x x_1:Nat)=>D.i 0)) (D.toN (if x1.b∈x1.r.ik then D.l (x1.r.i x1.b).units.length (encL encI (x1.r.i x1.b).units)else D.l 0 fun(x x_1:Nat)=>D.i 0)))/\(RowsEq [.int .i64] (D.toN (if x1.b∈x1.r.ik then D.l (x1.r.i x1.b).units.length (encL encI (x1.r.i x1.b).units)else D.l 0 fun(x x_1:Nat)=>D.i 0)) (D.toF (if x1.b∈x1.r.ik then D.l (x1.r.i x1.b).units.length (encL encI (x1.r.i x1.b).units)else D.l 0 fun(x x_1:Nat)=>D.i 0)) (D.toF (if x1.b∈x1.r.ik then D.l (x1.r.i x1.b).units.length (encL encI (x1.r.i x1.b).units)else D.l 0 fun(x x_1:Nat)=>D.i 0))))/\(((RLe (D.toN (if x1.a∈x1.r.ik then D.l (x1.r.i x1.a).nodes.length (encL encI (x1.r.i x1.a).nodes)else D.l 0 fun(x x_1:Nat)=>D.i 0)) (D.toN (if x1.a∈x1.r.ik then D.l (x1.r.i x1.a).nodes.length (encL encI (x1.r.i x1.a).nodes)else D.l 0 fun(x x_1:Nat)=>D.i 0)))/\(RowsEq [.int .i64] (D.toN (if x1.a∈x1.r.ik then D.l (x1.r.i x1.a).nodes.length (encL encI (x1.r.i x1.a).nodes)else D.l 0 fun(x x_1:Nat)=>D.i 0)) (D.toF (if x1.a∈x1.r.ik then D.l (x1.r.i x1.a).nodes.length (encL encI (x1.r.i x1.a).nodes)else D.l 0 fun(x x_1:Nat)=>D.i 0)) (D.toF (if x1.a∈x1.r.ik then D.l (x1.r.i x1.a).nodes.length (encL encI (x1.r.i x1.a).nodes)else D.l 0 fun(x x_1:Nat)=>D.i 0))))/\(((RLe (D.toN (if x1.a∈x1.r.ik then D.l (x1.r.i x1.a).calls.length (encL encI (x1.r.i x1.a).calls)else D.l 0 fun(x x_1:Nat)=>D.i 0)) (D.toN (if x1.a∈x1.r.ik then D.l (x1.r.i x1.a).calls.length (encL encI (x1.r.i x1.a).calls)else D.l 0 fun(x x_1:Nat)=>D.i 0)))/\(RowsEq [.int .i64] (D.toN (if x1.a∈x1.r.ik then D.l (x1.r.i x1.a).calls.length (encL encI (x1.r.i x1.a).calls)else D.l 0 fun(x x_1:Nat)=>D.i 0)) (D.toF (if x1.a∈x1.r.ik then D.l (x1.r.i x1.a).calls.length (encL encI (x1.r.i x1.a).calls)else D.l 0 fun(x x_1:Nat)=>D.i 0)) (D.toF (if x1.a∈x1.r.ik then D.l (x1.r.i x1.a).calls.length (encL encI (x1.r.i x1.a).calls)else D.l 0 fun(x x_1:Nat)=>D.i 0))))/\(((RLe (D.toN (if x1.a∈x1.r.ik then D.l (x1.r.i x1.a).units.length (encL encI (x1.r.i x1.a).units)else D.l 0 fun(x x_1:Nat)=>D.i 0)) (D.toN (if x1.a∈x1.r.ik then D.l (x1.r.i x1.a).units.length (encL encI (x1.r.i x1.a).units)else D.l 0 fun(x x_1:Nat)=>D.i 0)))/\(RowsEq [.int .i64] (D.toN (if x1.a∈x1.r.ik then D.l (x1.r.i x1.a).units.length (encL encI (x1.r.i x1.a).units)else D.l 0 fun(x x_1:Nat)=>D.i 0)) (D.toF (if x1.a∈x1.r.ik then D.l (x1.r.i x1.a).units.length (encL encI (x1.r.i x1.a).units)else D.l 0 fun(x x_1:Nat)=>D.i 0)) (D.toF (if x1.a∈x1.r.ik then D.l (x1.r.i x1.a).units.length (encL encI (x1.r.i x1.a).units)else D.l 0 fun(x x_1:Nat)=>D.i 0))))/\((True/\(True/\(True/\True)))/\((MapEq (.int .i64:: .int .i64::Kd.str:: .sl [.int .i64]:: .int .i64:: .int .i64:: .sl [.int .i64]:: .sl [.int .i64]:: .int .i64::Kd.bool::[]) x1.r.ik x1.r.ik (encRI x1.r) (encRI x1.r))/\((MapEq [.int .i64] x1.r.hk x1.r.hk (encRH x1.r) (encRH x1.r))/\True))))))))))))))))))))/\(∀ x39:Unit,(True->(((decide (0<(↑(mgA x1).units.length:Int))=true)->((((0:Int)<=(0:Int))/\(0<(↑(mgA x1).units.length:Int)))/\((0+Int.toNat 0<(mgA x1).units.length)/\((True/\True)/\((((-9223372036854775808:Int)<=(0:Int)+1)/\((0:Int)+1<=(9223372036854775807:Int)))/\(∃ x42:Unit,((0<(0:Nat))/\(True/\((((0:Int)+1=0)/\(((↑(mgA x1).units.length:Int)=(↑(mgA x1).units.length:Int))/\((0=0/\((mgA x1).units.length=(mgA x1).units.length))/\((decide (x1.b∈x1.r.ik)=decide (x1.b∈x1.r.ik))/\((0=0/\0=0)/\((decide (x1.a∈x1.r.ik)=decide (x1.a∈x1.r.ik))/\((0=0/\0=0)/\((0=0/\0=0)/\(x1.a=x1.a/\(x1.b=x1.b/\True))))))))))/\((MapEq (.int .i64:: .int .i64:: .int .i64::Kd.str:: .sl [.int .i64]:: .int .i64:: .int .i64::Kd.bool::[]) x1.r.ck x1.r.ck (encMv x1 x33) (encMv x1 x33))/\((((mgA x1).id=(mgA x1).id)/\(((mgA x1).urg=(mgA x1).urg)/\(((mgA x1).code=(mgA x1).code)/\((0=0/\((mgA x1).nodes.length=(mgA x1).nodes.length))/\(((0:Int)=0)/\(((0:Int)=0)/\((0=0/\((mgA x1).calls.length=(mgA x1).calls.length))/\((0=0/\((mgA x1).units.length=(mgA x1).units.length))/\(((mgA x1).merged=(mgA x1).merged)/\(((mgA x1).closed=(mgA x1).closed)/\True))))))))))/\((((mgB x1).id=(mgB x1).id)/\(((mgB x1).urg=(mgB x1).urg)/\(((mgB x1).code=(mgB x1).code)/\((0=0/\((mgB x1).nodes.length=(mgB x1).nodes.length))/\(((0:Int)=0)/\(((0:Int)=0)/\((0=0/\((mgB x1).calls.length=(mgB x1).calls.length))/\((0=0/\((mgB x1).units.length=(mgB x1).units.length))/\(((mgB x1).merged=(mgB x1).merged)/\(((mgB x1).closed=(mgB x1).closed)/\True))))))))))/\(((RLe (mgA x1).nodes.length (mgA x1).nodes.length)/\(RowsEq [.int .i64] (mgA x1).nodes.length (encL encI (mgA x1).nodes) (encL encI (mgA x1).nodes)))/\(((RLe (mgA x1).calls.length (mgA x1).calls.length)/\(RowsEq [.int .i64] (mgA x1).calls.length (encL encI (mgA x1).calls) (encL encI (mgA x1).calls)))/\(((RLe (mgA x1).units.length (mgA x1).units.length)/\(RowsEq [.int .i64] (mgA x1).units.length (encL encI (mgA x1).units) (encL encI (mgA x1).units)))/\(((RLe (mgB x1).nodes.length (mgB x1).nodes.length)/\(RowsEq [.int .i64] (mgB x1).nodes.length (encL encI (mgB x1).nodes) (encL encI (mgB x1).nodes)))/\(((RLe (mgB x1).calls.length (mgB x1).calls.length)/\(RowsEq [.int .i64] (mgB x1).calls.length (encL encI (mgB x1).calls) (encL encI (mgB x1).calls)))/\(((RLe (mgB x1).units.length (mgB x1).units.length)/\(RowsEq [.int .i64] (mgB x1).units.length (encL encI (mgB x1).units) (encL encI (mgB x1).units)))/\(((RLe (D.toN (if x1.b∈x1.r.ik then D.l (x1.r.i x1.b).nodes.length (encL encI (x1.r.i x1.b).nodes)else D.l 0 fun(x x_1:Nat)=>D.i 0)) (D.toN (if x1.b∈x1.r.ik then D.l (x1.r.i x1.b).nodes.length (encL encI (x1.r.i x1.b).nodes)else D.l 0 fun(x x_1:Nat)=>D.i 0)))/\(RowsEq [.int .i64] (D.toN (if x1.b∈x1.r.ik then D.l (x1.r.i x1.b).nodes.length (encL encI (x1.r.i x1.b).nodes)else D.l 0 fun(x x_1:Nat)=>D.i 0)) (D.toF (if x1.b∈x1.r.ik then D.l (x1.r.i x1.b).nodes.length (encL encI (x1.r.i x1.b).nodes)else D.l 0 fun(x x_1:Nat)=>D.i 0)) (D.toF (if x1.b∈x1.r.ik then D.l (x1.r.i x1.b).nodes.length (encL encI (x1.r.i x1.b).nodes)else D.l 0 fun(x x_1:Nat)=>D.i 0))))/\(((RLe (D.toN (if x1.b∈x1.r.ik then D.l (x1.r.i x1.b).calls.length (encL encI (x1.r.i x1.b).calls)else D.l 0 fun(x x_1:Nat)=>D.i 0)) (D.toN (if x1.b∈x1.r.ik then D.l (x1.r.i x1.b).calls.length (encL encI (x1.r.i x1.b).calls)else D.l 0 fun(x x_1:Nat)=>D.i 0)))/\(RowsEq [.int .i64] (D.toN (if x1.b∈x1.r.ik then D.l (x1.r.i x1.b).calls.length (encL encI (x1.r.i x1.b).calls)else D.l 0 fun(x x_1:Nat)=>D.i 0)) (D.toF (if x1.b∈x1.r.ik then D.l (x1.r.i x1.b).calls.length (encL encI (x1.r.i x1.b).calls)else D.l 0 fun(x x_1:Nat)=>D.i 0)) (D.toF (if x1.b∈x1.r.ik then D.l (x1.r.i x1.b).calls.length (encL encI (x1.r.i x1.b).calls)else D.l 0 fun(x x_1:Nat)=>D.i 0))))/\(((RLe (D.toN (if x1.b∈x1.r.ik then D.l (x1.r.i x1.b).units.length (encL encI (x1.r.i x1.b).units)else D.l 0 fun(x x_1:Nat)=>D.i 0)) (D.toN (if x1.b∈x1.r.ik then D.l (x1.r.i x1.b).units.length (encL encI (x1.r.i x1.b).units)else D.l 0 fun(x x_1:Nat)=>D.i 0)))/\(RowsEq [.int .i64] (D.toN (if x1.b∈x1.r.ik then D.l (x1.r.i x1.b).units.length (encL encI (x1.r.i x1.b).units)else D.l 0 fun(x x_1:Nat)=>D.i 0)) (D.toF (if x1.b∈x1.r.ik then D.l (x1.r.i x1.b).units.length (encL encI (x1.r.i x1.b).units)else D.l 0 fun(x x_1:Nat)=>D.i 0)) (D.toF (if x1.b∈x1.r.ik then D.l (x1.r.i x1.b).units.length (encL encI (x1.r.i x1.b).units)else D.l 0 fun(x x_1:Nat)=>D.i 0))))/\(((RLe (D.toN (if x1.a∈x1.r.ik then D.l (x1.r.i x1.a).nodes.length (encL encI (x1.r.i x1.a).nodes)else D.l 0 fun(x x_1:Nat)=>D.i 0)) (D.toN (if x1.a∈x1.r.ik then D.l (x1.r.i x1.a).nodes.length (encL encI (x1.r.i x1.a).nodes)else D.l 0 fun(x x_1:Nat)=>D.i 0)))/\(RowsEq [.int .i64] (D.toN (if x1.a∈x1.r.ik then D.l (x1.r.i x1.a).nodes.length (encL encI (x1.r.i x1.a).nodes)else D.l 0 fun(x x_1:Nat)=>D.i 0)) (D.toF (if x1.a∈x1.r.ik then D.l (x1.r.i x1.a).nodes.length (encL encI (x1.r.i x1.a).nodes)else D.l 0 fun(x x_1:Nat)=>D.i 0)) (D.toF (if x1.a∈x1.r.ik then D.l (x1.r.i x1.a).nodes.length (encL encI (x1.r.i x1.a).nodes)else D.l 0 fun(x x_1:Nat)=>D.i 0))))/\(((RLe (D.toN (if x1.a∈x1.r.ik then D.l (x1.r.i x1.a).calls.length (encL encI (x1.r.i x1.a).calls)else D.l 0 fun(x x_1:Nat)=>D.i 0)) (D.toN (if x1.a∈x1.r.ik then D.l (x1.r.i x1.a).calls.length (encL encI (x1.r.i x1.a).calls)else D.l 0 fun(x x_1:Nat)=>D.i 0)))/\(RowsEq [.int .i64] (D.toN (if x1.a∈x1.r.ik then D.l (x1.r.i x1.a).calls.length (encL encI (x1.r.i x1.a).calls)else D.l 0 fun(x x_1:Nat)=>D.i 0)) (D.toF (if x1.a∈x1.r.ik then D.l (x1.r.i x1.a).calls.length (encL encI (x1.r.i x1.a).calls)else D.l 0 fun(x x_1:Nat)=>D.i 0)) (D.toF (if x1.a∈x1.r.ik then D.l (x1.r.i x1.a).calls.length (encL encI (x1.r.i x1.a).calls)else D.l 0 fun(x x_1:Nat)=>D.i 0))))/\(((RLe (D.toN (if x1.a∈x1.r.ik then D.l (x1.r.i x1.a).units.length (encL encI (x1.r.i x1.a).units)else D.l 0 fun(x x_1:Nat)=>D.i 0)) (D.toN (if x1.a∈x1.r.ik then D.l (x1.r.i x1.a).units.length (encL encI (x1.r.i x1.a).units)else D.l 0 fun(x x_1:Nat)=>D.i 0)))/\(RowsEq [.int .i64] (D.toN (if x1.a∈x1.r.ik then D.l (x1.r.i x1.a).units.length (encL encI (x1.r.i x1.a).units)else D.l 0 fun(x x_1:Nat)=>D.i 0)) (D.toF (if x1.a∈x1.r.ik then D.l (x1.r.i x1.a).units.length (encL encI (x1.r.i x1.a).units)else D.l 0 fun(x x_1:Nat)=>D.i 0)) (D.toF (if x1.a∈x1.r.ik then D.l (x1.r.i x1.a).units.length (encL encI (x1.r.i x1.a).units)else D.l 0 fun(x x_1:Nat)=>D.i 0))))/\((True/\(True/\(True/\True)))/\((MapEq (.int .i64:: .int .i64::Kd.str:: .sl [.int .i64]:: .int .i64:: .int .i64:: .sl [.int .i64]:: .sl [.int .i64]:: .int .i64::Kd.bool::[]) x1.r.ik x1.r.ik (encRI x1.r) (encRI x1.r))/\((MapEq [.int .i64] (madd1 x1.r.hk ((mgA x1).units.getD (0+Int.toNat (0:Int)) default)) x1.r.hk (mset (encRH x1.r) ((mgA x1).units.getD (0+Int.toNat (0:Int)) default) fun(j:Nat)=>(D.i x1.b::@List.nil D).getD j (D.i 0)) (encRH x1.r))/\True)))))))))))))))))))))))))))/\((decide (0<(↑(mgA x1).units.length:Int))=false)->(((((0:Nat)+(mgB x1).calls.length<=(mgB x1).calls.length)/\True)/\((((0:Nat)+(mgA x1).calls.length<=(mgA x1).calls.length)/\True)/\True))/\(∃ x44:CTx,((CTok x44)/\(((0=0/\((2:Nat)=(2:Nat)))/\True)/\(((RLe 2 2/\(RowsEq [.sl [.int .i64]] 2 (litRows (((D.l (mgB x1).calls.length fun(r c:Nat)=>D.i ((mgB x1).calls.getD ((0:Nat)+r) default))::@List.nil D)::((D.l (mgA x1).calls.length fun(r c:Nat)=>D.i ((mgA x1).calls.getD ((0:Nat)+r) default))::@List.nil D)::@List.nil (List D))) (rowPP x44.a x44.b)))/\True)/\(((((0:Nat)+(mgB x1).units.length<=(mgB x1).units.length)/\True)/\((((0:Nat)+(mgA x1).units.length<=(mgA x1).units.length)/\True)/\True))/\(∃ x45:CTx,((CTok x45)/\(((0=0/\((2:Nat)=(2:Nat)))/\True)/\(((RLe 2 2/\(RowsEq [.sl [.int .i64]] 2 (litRows (((D.l (mgB x1).units.length fun(r c:Nat)=>D.i ((mgB x1).units.getD ((0:Nat)+r) default))::@List.nil D)::((D.l (mgA x1).units.length fun(r c:Nat)=>D.i ((mgA x1).units.getD ((0:Nat)+r) default))::@List.nil D)::@List.nil (List D))) (rowPP x45.a x45.b)))/\True)/\(∃ x46:Unit,(True/\(((0=0/\((x45.a++x45.b).length=(0:Nat)))/\True)/\((((RLe 0 (x45.a++x45.b).length)/\(RI 0 (x45.a++x45.b) (@List.nil Int)))/\True)/\((True/\(True/\(True/\(((0:Nat)+(mgA x1).nodes.length<=(mgA x1).nodes.length)/\(True/\(True/\(True/\(True/\(True/\(True/\True))))))))))/\(∃ x47:RRx,((RRok x47)/\(((0=0/\0=0)/\((((mgB x1).id=x47.x.id)/\(((mgB x1).urg=x47.x.urg)/\(((mgB x1).code=x47.x.code)/\((0=0/\((mgB x1).nodes.length=x47.x.nodes.length))/\(((0:Int)=0)/\(((0:Int)=0)/\((0=0/\((mgB x1).calls.length=x47.x.calls.length))/\((0=0/\((x45.a++x45.b).length=x47.x.units.length))/\(((mgB x1).merged=x47.x.merged)/\(((mgB x1).closed=x47.x.closed)/\True))))))))))/\((0=0/\((x44.a++x44.b).length=x47.l.length))/\True)))/\(((True/\(True/\(True/\True)))/\((MapEq (.int .i64:: .int .i64:: .int .i64::Kd.str:: .sl [.int .i64]:: .int .i64:: .int .i64::Kd.bool::[]) x1.r.ck x47.r.ck (encMv x1 x33) (encRC x47.r))/\((MapEq (.int .i64:: .int .i64::Kd.str:: .sl [.int .i64]:: .int .i64:: .int .i64:: .sl [.int .i64]:: .sl [.int .i64]:: .int .i64::Kd.bool::[]) (madd1 x1.r.ik x1.a) x47.r.ik (mset (encRI x1.r) x1.a fun(j:Nat)=>(D.i (mgA x1).id::D.i (mgA x1).urg::D.s (mgA x1).code::(D.l (mgA x1).nodes.length fun(r c:Nat)=>D.i ((mgA x1).nodes.getD ((0:Nat)+r) default))::D.i 0::D.i 0::(D.l 0 fun(x x_1:Nat)=>D.i 0)::(D.l 0 fun(x x_1:Nat)=>D.i 0)::D.i x1.b::D.b (mgA x1).closed::@List.nil D).getD j (D.i 0)) (encRI x47.r))/\((MapEq [.int .i64] x1.r.hk x47.r.hk (encRH x1.r) (encRH x47.r))/\(((RLe x47.x.nodes.length (mgB x1).nodes.length)/\(RI x47.x.nodes.length (mgB x1).nodes x47.x.nodes))/\(((RLe x47.x.calls.length (mgB x1).calls.length)/\(RI x47.x.calls.length (mgB x1).calls x47.x.calls))/\(((RLe x47.x.units.length (x45.a++x45.b).length)/\(RI x47.x.units.length (x45.a++x45.b) x47.x.units))/\(((RLe x47.l.length (x44.a++x44.b).length)/\(RI x47.l.length (x44.a++x44.b) x47.l))/\True))))))))/\(((0:Int)=mgR x1)/\((MapEq (.int .i64:: .int .i64:: .int .i64::Kd.str:: .sl [.int .i64]:: .int .i64:: .int .i64::Kd.bool::[]) (rrF x47).ck (mgF x1).ck (encRC (rrF x47)) (encRC (mgF x1)))/\((MapEq (.int .i64:: .int .i64::Kd.str:: .sl [.int .i64]:: .int .i64:: .int .i64:: .sl [.int .i64]:: .sl [.int .i64]:: .int .i64::Kd.bool::[]) (rrF x47).ik (mgF x1).ik (encRI (rrF x47)) (encRI (mgF x1)))/\((MapEq [.int .i64] (rrF x47).hk (mgF x1).hk (encRH (rrF x47)) (encRH (mgF x1)))/\True)))))))))))))))))))))))))))))))))))))))))))))))))))))))=(Keeps cfgMg Tryz.f14 mgC mgI) by kernel_rfl) (fun x1=>fun h2=>⟨fun g3=>have h3:=dT g3;⟨(by exact(mg_1 h3).1.symm),
(by(rw[(mg_1 h3).2];exact MapEq.rfl')),
(by(rw[(mg_1 h3).2];exact MapEq.rfl')),
(by(rw[(mg_1 h3).2];exact MapEq.rfl')),trivial⟩,
fun g4=>have h4:=dF g4;⟨⟨fun g5=>have h5:=nF g5;⟨(default),trivial,
(by(try dsimp only at *);exact mgIn_b ‹_›),trivial⟩,
fun g7=>have h7:=nT g7;⟨(default),trivial,
(by(try dsimp only at *);exact mgIn_a ‹_›),trivial⟩⟩,
fun x9=>fun h10=>⟨⟨fun g11=>have h11:=nT g11;⟨(by(try dsimp only at *);exact(mg_4 ‹_› ‹_›).1.symm),
(by(try dsimp only at *);(rw[(mg_4 ‹_› ‹_›).2];exact MapEq.rfl')),
(by(try dsimp only at *);(rw[(mg_4 ‹_› ‹_›).2];exact MapEq.rfl')),
(by(try dsimp only at *);(rw[(mg_4 ‹_› ‹_›).2];exact MapEq.rfl')),trivial⟩,
fun g12=>have h12:=nF g12;⟨(default),
(by(try dsimp only at *);omega),
⟨rfl,
⟨rfl,rfl⟩,rfl,
⟨rfl,rfl⟩,
⟨rfl,rfl⟩,rfl,rfl,trivial⟩,
⟨(by(try dsimp only at *);exact ifI (‹mgIn x1›).1),
(by(try dsimp only at *);exact ifI (‹mgIn x1›).1),
(by(try dsimp only at *);exact ifS (‹mgIn x1›).1),
⟨rfl,
(by(try dsimp only at *);exact ifN (‹mgIn x1›).1)⟩,
(by(try dsimp only at *);exact ifI (‹mgIn x1›).1),
(by(try dsimp only at *);exact ifI (‹mgIn x1›).1),
⟨rfl,
(by(try dsimp only at *);exact ifN (‹mgIn x1›).1)⟩,
⟨rfl,
(by(try dsimp only at *);exact ifN (‹mgIn x1›).1)⟩,
(by(try dsimp only at *);exact ifI (‹mgIn x1›).1),
(by(try dsimp only at *);exact ifB (‹mgIn x1›).1),trivial⟩,
⟨(by(try dsimp only at *);exact ifI (‹mgIn x1›).2),
(by(try dsimp only at *);exact ifI (‹mgIn x1›).2),
(by(try dsimp only at *);exact ifS (‹mgIn x1›).2),
⟨rfl,
(by(try dsimp only at *);exact ifN (‹mgIn x1›).2)⟩,
(by(try dsimp only at *);exact ifI (‹mgIn x1›).2),
(by(try dsimp only at *);exact ifI (‹mgIn x1›).2),
⟨rfl,
(by(try dsimp only at *);exact ifN (‹mgIn x1›).2)⟩,
⟨rfl,
(by(try dsimp only at *);exact ifN (‹mgIn x1›).2)⟩,
(by(try dsimp only at *);exact ifI (‹mgIn x1›).2),
(by(try dsimp only at *);exact ifB (‹mgIn x1›).2),trivial⟩,
⟨⟨(by(try dsimp only at *);exact ifLe (‹mgIn x1›).1)⟩,
(by(try dsimp only at *);exact ifR (‹mgIn x1›).1)⟩,
⟨⟨(by(try dsimp only at *);exact ifLe (‹mgIn x1›).1)⟩,
(by(try dsimp only at *);exact ifR (‹mgIn x1›).1)⟩,
⟨⟨(by(try dsimp only at *);exact ifLe (‹mgIn x1›).1)⟩,
(by(try dsimp only at *);exact ifR (‹mgIn x1›).1)⟩,
⟨⟨(by(try dsimp only at *);exact ifLe (‹mgIn x1›).2)⟩,
(by(try dsimp only at *);exact ifR (‹mgIn x1›).2)⟩,
⟨⟨(by(try dsimp only at *);exact ifLe (‹mgIn x1›).2)⟩,
(by(try dsimp only at *);exact ifR (‹mgIn x1›).2)⟩,
⟨⟨(by(try dsimp only at *);exact ifLe (‹mgIn x1›).2)⟩,
(by(try dsimp only at *);exact ifR (‹mgIn x1›).2)⟩,
⟨rl,rr⟩,
⟨rl,rr⟩,
⟨rl,rr⟩,
⟨rl,rr⟩,
⟨rl,rr⟩,
⟨rl,rr⟩,
⟨trivial,trivial,trivial,trivial⟩,MapEq.rfl',MapEq.rfl',MapEq.rfl',trivial⟩⟩,
fun y14=>fun h15=>⟨⟨(mgA x1),trivial,
⟨⟨rfl,rfl,rfl,
⟨rfl,rfl⟩,rfl,rfl,
⟨rfl,rfl⟩,
⟨rfl,rfl⟩,rfl,rfl,trivial⟩,trivial⟩,
⟨⟨rl,rr⟩,
⟨rl,rr⟩,
⟨rl,rr⟩,trivial⟩,
fun h17=>⟨(mgB x1),trivial,
⟨⟨rfl,rfl,rfl,
⟨rfl,rfl⟩,rfl,rfl,
⟨rfl,rfl⟩,
⟨rfl,rfl⟩,rfl,rfl,trivial⟩,trivial⟩,
⟨⟨rl,rr⟩,
⟨rl,rr⟩,
⟨rl,rr⟩,trivial⟩,
(default),trivial,
(by(try dsimp only at *);exact mgOp_b (notF h17)),trivial⟩,
fun h20=>⟨(default),trivial,
(by(try dsimp only at *);exact mgOp_a (notT h20)),trivial⟩⟩,
fun x22=>fun h23=>⟨⟨fun g24=>have h24:=nT g24;⟨(by(try dsimp only at *);exact(mg_8 h4 h15 h24).1.symm),
(by(try dsimp only at *);(rw[(mg_8 h4 h15 h24).2];exact MapEq.rfl')),
(by(try dsimp only at *);(rw[(mg_8 h4 h15 h24).2];exact MapEq.rfl')),
(by(try dsimp only at *);(rw[(mg_8 h4 h15 h24).2];exact MapEq.rfl')),trivial⟩,
fun g25=>have h25:=nF g25;⟨(default),
(by(try dsimp only at *);omega),
⟨rfl,
⟨rfl,rfl⟩,rfl,
⟨rfl,rfl⟩,
⟨rfl,rfl⟩,rfl,rfl,trivial⟩,
⟨rfl,rfl,rfl,
⟨rfl,rfl⟩,rfl,rfl,
⟨rfl,rfl⟩,
⟨rfl,rfl⟩,rfl,rfl,trivial⟩,
⟨rfl,rfl,rfl,
⟨rfl,rfl⟩,rfl,rfl,
⟨rfl,rfl⟩,
⟨rfl,rfl⟩,rfl,rfl,trivial⟩,
⟨rl,rr⟩,
⟨rl,rr⟩,
⟨rl,rr⟩,
⟨rl,rr⟩,
⟨rl,rr⟩,
⟨rl,rr⟩,
⟨rl,rr⟩,
⟨rl,rr⟩,
⟨rl,rr⟩,
⟨rl,rr⟩,
⟨rl,rr⟩,
⟨rl,rr⟩,
⟨trivial,trivial,trivial,trivial⟩,MapEq.rfl',MapEq.rfl',MapEq.rfl',trivial⟩⟩,
fun y27=>fun h28=>⟨⟨⟨(by(try dsimp only at *);omega),
(by(try dsimp only at *);(have g:=(h2 h4 h15 h28);have:=g.la;have:=g.lb;omega))⟩,
(default),trivial,
(by(try dsimp only at *);(have g:=(h2 h4 h15 h28);have:=g.la;have:=g.lb;exact decide_eq_false (by omega))),trivial⟩,
fun x30=>fun h31=>⟨((0:Nat)),
⟨(by(try dsimp only at *);omega),
⟨(by(try dsimp only at *);omega),rfl,
⟨rfl,rfl⟩,rfl,
⟨rfl,rfl⟩,rfl,
⟨rfl,rfl⟩,
⟨rfl,rfl⟩,rfl,rfl,trivial⟩,
(by(try dsimp only at *);exact MapEq.rfl'),
⟨rfl,rfl,rfl,
⟨rfl,rfl⟩,rfl,rfl,
⟨rfl,rfl⟩,
⟨rfl,rfl⟩,rfl,rfl,trivial⟩,
⟨rfl,rfl,rfl,
⟨rfl,rfl⟩,rfl,rfl,
⟨rfl,rfl⟩,
⟨rfl,rfl⟩,rfl,rfl,trivial⟩,
⟨rl,rr⟩,
⟨rl,rr⟩,
⟨rl,rr⟩,
⟨rl,rr⟩,
⟨rl,rr⟩,
⟨rl,rr⟩,
⟨rl,rr⟩,
⟨rl,rr⟩,
⟨rl,rr⟩,
⟨rl,rr⟩,
⟨rl,rr⟩,
⟨rl,rr⟩,
⟨trivial,trivial,trivial,trivial⟩,MapEq.rfl',MapEq.rfl',trivial⟩,
fun x33=>fun h34=>⟨fun g35=>have h35:=dT g35;⟨⟨(by(try dsimp only at *);omega),
(by(try dsimp only at *);omega)⟩,
(by(try dsimp only at *);omega),
⟨trivial,trivial,trivial,trivial,
(by(try dsimp only at *);omega),trivial,trivial,trivial,trivial⟩,
⟨(by(try dsimp only at *);omega),
(by(try dsimp only at *);(have g:=(h2 h4 h15 h28);have:=g.la;have:=g.lb;omega))⟩,
(x33+(1:Nat)),
(by(try dsimp only at *);omega),
(by(try dsimp only at *);omega),
⟨(by(try dsimp only at *);omega),rfl,
⟨rfl,rfl⟩,rfl,
⟨rfl,rfl⟩,rfl,
⟨rfl,rfl⟩,
⟨rfl,rfl⟩,rfl,rfl,trivial⟩,
(by(try dsimp only at *);(rw[nat0];exact mg_step (h2 h4 h15 h28) h35 fun hm=>by simp only[if_pos hm];exact rowC_eq (movC _ x1.b))),
⟨rfl,rfl,rfl,
⟨rfl,rfl⟩,rfl,rfl,
⟨rfl,rfl⟩,
⟨rfl,rfl⟩,rfl,rfl,trivial⟩,
⟨rfl,rfl,rfl,
⟨rfl,rfl⟩,rfl,rfl,
⟨rfl,rfl⟩,
⟨rfl,rfl⟩,rfl,rfl,trivial⟩,
⟨rl,rr⟩,
⟨rl,rr⟩,
⟨rl,rr⟩,
⟨rl,rr⟩,
⟨rl,rr⟩,
⟨rl,rr⟩,
⟨rl,rr⟩,
⟨rl,rr⟩,
⟨rl,rr⟩,
⟨rl,rr⟩,
⟨rl,rr⟩,
⟨rl,rr⟩,
⟨trivial,trivial,trivial,trivial⟩,MapEq.rfl',MapEq.rfl',trivial⟩,
fun g37=>have h37:=dF g37;⟨(default),
⟨trivial,
⟨rfl,rfl,
⟨rfl,rfl⟩,rfl,
⟨rfl,rfl⟩,rfl,
⟨rfl,rfl⟩,
⟨rfl,rfl⟩,rfl,rfl,trivial⟩,MapEq.rfl',
⟨rfl,rfl,rfl,
⟨rfl,rfl⟩,rfl,rfl,
⟨rfl,rfl⟩,
⟨rfl,rfl⟩,rfl,rfl,trivial⟩,
⟨rfl,rfl,rfl,
⟨rfl,rfl⟩,rfl,rfl,
⟨rfl,rfl⟩,
⟨rfl,rfl⟩,rfl,rfl,trivial⟩,
⟨rl,rr⟩,
⟨rl,rr⟩,
⟨rl,rr⟩,
⟨rl,rr⟩,
⟨rl,rr⟩,
⟨rl,rr⟩,
⟨rl,rr⟩,
⟨rl,rr⟩,
⟨rl,rr⟩,
⟨rl,rr⟩,
⟨rl,rr⟩,
⟨rl,rr⟩,
⟨trivial,trivial,trivial,trivial⟩,MapEq.rfl',MapEq.rfl',trivial⟩,
fun x39=>fun h40=>⟨fun g41=>have h41:=dT g41;⟨⟨(by(try dsimp only at *);omega),
(by(try dsimp only at *);omega)⟩,
(by(try dsimp only at *);omega),
⟨trivial,trivial⟩,
⟨(by(try dsimp only at *);omega),
(by(try dsimp only at *);omega)⟩,
(default),
(by(try dsimp only at *);(exfalso;rw[(h2 h4 h15 h28).ua]at h41;exact absurd h41 (by decide))),trivial,
⟨(by(try dsimp only at *);(exfalso;rw[(h2 h4 h15 h28).ua]at h41;exact absurd h41 (by decide))),rfl,
⟨rfl,rfl⟩,rfl,
⟨rfl,rfl⟩,rfl,
⟨rfl,rfl⟩,
⟨rfl,rfl⟩,rfl,rfl,trivial⟩,MapEq.rfl',
⟨rfl,rfl,rfl,
⟨rfl,rfl⟩,rfl,rfl,
⟨rfl,rfl⟩,
⟨rfl,rfl⟩,rfl,rfl,trivial⟩,
⟨rfl,rfl,rfl,
⟨rfl,rfl⟩,rfl,rfl,
⟨rfl,rfl⟩,
⟨rfl,rfl⟩,rfl,rfl,trivial⟩,
⟨rl,rr⟩,
⟨rl,rr⟩,
⟨rl,rr⟩,
⟨rl,rr⟩,
⟨rl,rr⟩,
⟨rl,rr⟩,
⟨rl,rr⟩,
⟨rl,rr⟩,
⟨rl,rr⟩,
⟨rl,rr⟩,
⟨rl,rr⟩,
⟨rl,rr⟩,
⟨trivial,trivial,trivial,trivial⟩,MapEq.rfl',
(by(try dsimp only at *);(exfalso;rw[(h2 h4 h15 h28).ua]at h41;exact absurd h41 (by decide))),trivial⟩,
fun g43=>have h43:=dF g43;⟨⟨⟨(by(try dsimp only at *);omega),trivial⟩,
⟨(by(try dsimp only at *);omega),trivial⟩,trivial⟩,
({ a:=Ic.calls (mgB x1),b:=Ic.calls (mgA x1):CTx }),
(by(try dsimp only at *);exact⟨Nat.le_trans (h2 h4 h15 h28).lb (by omega),Nat.le_trans (h2 h4 h15 h28).la (by omega)⟩),
⟨⟨rfl,rfl⟩,trivial⟩,
⟨⟨rl,
(by(try dsimp only at *);exact lit_pp _ _)⟩,trivial⟩,
⟨⟨(by(try dsimp only at *);omega),trivial⟩,
⟨(by(try dsimp only at *);omega),trivial⟩,trivial⟩,
({ a:=Ic.units (mgB x1),b:=Ic.units (mgA x1):CTx }),
(by(try dsimp only at *);(rw[(h2 h4 h15 h28).ua,(h2 h4 h15 h28).ub];exact⟨Nat.zero_le _,Nat.zero_le _⟩)),
⟨⟨rfl,rfl⟩,trivial⟩,
⟨⟨rl,
(by(try dsimp only at *);exact lit_pp _ _)⟩,trivial⟩,
(()),trivial,
⟨⟨rfl,
(by(try dsimp only at *);(show((mgB x1).units++(mgA x1).units).length=0;rw[(h2 h4 h15 h28).ua,(h2 h4 h15 h28).ub];rfl))⟩,trivial⟩,
⟨⟨⟨(by(try dsimp only at *);omega)⟩,
(by(try dsimp only at *);exact rowsEq0)⟩,trivial⟩,
⟨trivial,trivial,trivial,
(by(try dsimp only at *);omega),trivial,trivial,trivial,trivial,trivial,trivial,trivial⟩,
(mgX x1),
(by(try dsimp only at *);exact(h2 h4 h15 h28).rr),
⟨⟨rfl,rfl⟩,
⟨(by(try dsimp only at *);rfl),
(by(try dsimp only at *);rfl),
(by(try dsimp only at *);rfl),
⟨rfl,
(by(try dsimp only at *);rfl)⟩,rfl,rfl,
⟨rfl,
(by(try dsimp only at *);rfl)⟩,
⟨rfl,
(by(try dsimp only at *);(show((mgB x1).units++(mgA x1).units).length=(mgB x1).units.length;rw[(h2 h4 h15 h28).ua];simp))⟩,
(by(try dsimp only at *);rfl),
(by(try dsimp only at *);rfl),trivial⟩,
⟨rfl,
(by(try dsimp only at *);rfl)⟩,trivial⟩,
⟨⟨trivial,trivial,trivial,trivial⟩,
(by(try dsimp only at *);exact mg_all h34 h37),
(by(try dsimp only at *);exact mg_gone x1 (rowI_eq (goneI (mgA x1) x1.b))),
(by(try dsimp only at *);exact MapEq.rfl'),
⟨⟨(by(try dsimp only at *);exact Nat.le_refl _)⟩,
(by(try dsimp only at *);exact rr)⟩,
⟨⟨(by(try dsimp only at *);exact Nat.le_refl _)⟩,
(by(try dsimp only at *);exact rr)⟩,
⟨⟨(by(try dsimp only at *);(show(mgB x1).units.length<=((mgB x1).units++(mgA x1).units).length;simp))⟩,
(by(try dsimp only at *);(show RowsEq k1 (mgB x1).units.length (encL encI ((mgB x1).units++(mgA x1).units)) (encL encI (mgB x1).units);rw[(h2 h4 h15 h28).ua,List.append_nil];exact rr))⟩,
⟨⟨(by(try dsimp only at *);exact Nat.le_refl _)⟩,
(by(try dsimp only at *);exact rr)⟩,trivial⟩,
(by(try dsimp only at *);exact(mg_0 h4 h15 h28).1.symm),
(by(try dsimp only at *);(rw[(mg_0 h4 h15 h28).2];exact MapEq.rfl')),
(by(try dsimp only at *);(rw[(mg_0 h4 h15 h28).2];exact MapEq.rfl')),
(by(try dsimp only at *);(rw[(mg_0 h4 h15 h28).2];exact MapEq.rfl')),trivial⟩⟩⟩⟩⟩⟩⟩⟩⟩⟩⟩)
theorem mg_good:Good Tryz.prog 14 mgC/\FnOk Tryz.prog 14:=good_of tok conMg (fn:=Tryz.f14) rfl (by decide+kernel) (fun _=>rfl) mg_keeps
end Go.Sym