import Derived.Test.YtpnnecijeoipfaaGreatDoorOB
import Derived.Test.YtpnnecijeoipfaaGreatDoorXD
namespace Go.Sym
set_option linter.unusedVariables false
set_option linter.unusedSimpArgs false
open Go.Proofs
set_option maxRecDepth 100000
set_option maxHeartbeats 8000000
structure MGx where
 r:Rg
 a:Int
 b:Int
def mvC (b:Int) (c:Int->CR) (l:List Int) (j:Int):CR:=if j∈l then movC (c j) b else c j
def mgA (q:MGx):Ic:=q.r.i q.a
def mgB (q:MGx):Ic:=q.r.i q.b
def goneI (x:Ic) (b:Int):Ic:=⟨x.id,x.urg,x.code,x.nodes,[],[],b,x.closed⟩
def mgX (q:MGx):RRx:=⟨⟨q.r.ck,mvC q.b q.r.c (mgA q).calls,madd1 q.r.ik q.a,fun j=>if j=q.a then goneI (mgA q) q.b else q.r.i j,q.r.hk,q.r.h⟩,mgB q,(mgB q).calls++(mgA q).calls⟩
def mgOp (q:MGx):Prop:=isO (mgA q)=true/\isO (mgB q)=true
instance (q:MGx):Decidable (mgOp q):=by unfold mgOp;infer_instance
def mgIn (q:MGx):Prop:=q.a∈q.r.ik/\q.b∈q.r.ik
instance (q:MGx):Decidable (mgIn q):=by unfold mgIn;infer_instance
structure MGgo (q:MGx):Prop where
 la:(mgA q).calls.length<=12
 lb:(mgB q).calls.length<=12
 ua:(mgA q).units=[]
 ub:(mgB q).units=[]
 ck:∀ k∈(mgA q).calls,k∈q.r.ck
 rr:RRok (mgX q)
def encMv (q:MGx) (n:Nat) (k:Int):Nat->D:=encCR (mvC q.b q.r.c ((mgA q).calls.take n) k)
theorem mgIn_b {q:MGx} (h:q.a∈q.r.ik):(!decide (q.b∈q.r.ik))= !decide (mgIn q):=by congr 1;exact decide_eq_decide.2 ⟨fun a=>⟨h,a⟩,fun a=>a.2⟩
theorem mgIn_a {q:MGx} (h:¬ q.a∈q.r.ik):true= !decide (mgIn q):=by rw[decide_eq_false fun a:mgIn q=>h a.1];rfl
theorem mgOp_b {q:MGx} (h:isO (mgA q)=true):(!isO (mgB q))= !decide (mgOp q):=by
 congr 1
 cases e:isO (mgB q)with
 |true=>exact(decide_eq_true ⟨h,e⟩).symm
 |false=>exact(decide_eq_false fun a:mgOp q=>by have b:=a.2;rw[e]at b;cases b).symm
theorem mgOp_a {q:MGx} (h:isO (mgA q)=false):true= !decide (mgOp q):=by rw[decide_eq_false fun a:mgOp q=>by have b:=a.1;rw[h]at b;cases b];rfl
theorem lit_pp (a b:List Int):RowsEq kPP 2 (litRows [[rowL a],[rowL b]]) (rowPP a b):=
 ⟨fun r hr=>by rcases(show r=0∨r=1 by omega)with e|e <;>subst e <;>exact⟨rowL_eq _,trivial⟩⟩
end Go.Sym