import Derived.Test.YtakbmbmpcenljaaT03
import Derived.WalkKit
import Derived.Test.YtakbmbmpcenljaaXD
namespace Go.Sym
set_option linter.unusedVariables false
set_option linter.unusedSimpArgs false
open Go.Proofs Go.RowKit
set_option maxRecDepth 100000
set_option maxHeartbeats 8000000
set_option maxRecDepth 100000
def len5 (x:Nat):Nat:=[0,1,2,2,3,3,3,3,4,4,4,4,4,4,4,4,5,5,5,5,5,5,5,5,5,5,5,5,5,5,5].getD x 0
theorem len5_eq:∀ x,x<=30->Sort.bitsLen x=len5 x:=by
 have h:((List.range 31).all fun x=>decide (Sort.bitsLen x=len5 x))=true:=by decide+kernel
 intro x hx
 exact of_decide_eq_true (List.all_eq_true.1 h x (List.mem_range.2 (by omega)))
theorem len64_run (x:Nat) (hx:x<=30) (w:World):Calls Try.prog 56 #[.int .u64 x] w fun e w'=>e= .returned (.int .i64 (len5 x:Nat))/\w'=w:=by
 have h:x∈List.range 31:=List.mem_range.2 (by omega)
 rw[show List.range 31=[0,1,2,3,4,5,6,7,8,9,10,11,12,13,14,15,16,17,18,19,20,21,22,23,24,25,26,27,28,29,30]from rfl]at h
 simp only[List.mem_cons,List.not_mem_nil,or_false]at h
 rcases h with h|h|h|h|h|h|h|h|h|h|h|h|h|h|h|h|h|h|h|h|h|h|h|h|h|h|h|h|h|h|h <;>subst h <;>(go_enter Try.func56,Try.ntmps56;go_wp2;(try go_ret);exact⟨by kernel_rfl,rfl⟩)
theorem good_pure {P:Program} {f:Nat} {ct:CT} [Glob] (hst:∀ x,ct.pre x->ctSt ct x=true) (h0:∀ x,ct.g0 x=[]) (h1:∀ x,ct.g1 x=[])
  (h:∀ x,ct.pre x->∀(ρ:Env) (w:World) (vals:List Value),Glob.ok ρ->DenL ρ (ct.args x) vals->(∀ b o,ρ.z b=some o->w.heap[b]? =some o)->Calls P f vals.toArray w fun e w'=>(∃ v,e= .returned v/\Den ρ (ct.res x) v)/\w'=w):Good P f ct:=by
 intro x hx
 refine⟨hst x hx,fun ρ w vals hg hv H=>(h x hx ρ w vals hg hv H.zok).mono ?_⟩
 rintro e w' ⟨⟨v,rfl,hd⟩,rfl⟩
 rw[h0]at H
 have e0:appH (ct.g1 x) (ct.g0 x)=[]:=by rw[h0,h1];rfl
 refine⟨v,ρ,rfl,hd,by rw[e0];exact H,⟨rfl,rfl,rfl,Nat.le_refl _,fun _ _ _=>rfl⟩,?_,fun _ _=>rfl⟩
 rw[e0]
 refine⟨fun l b pl h=>(by cases h),fun l b pl h=>(by cases h),fun _ _ h=>h,fun _ h=>.inl h,fun b h=>h.elim .inr fun⟨l,blk,pl,h1,_⟩=>(by rw[h0]at h1;cases h1)⟩
def len64C:CT where
 X:=Nat
 pre:=fun n=>n<=30
 args:=fun n=>[.i .u64 n]
 g0:=fun _=>[]
 res:=fun n=>.i .i64 (len5 n)
 g1:=fun _=>[]
theorem len64_good:Good Try.prog 56 len64C/\FnOk Try.prog 56:=by
 refine⟨good_pure (fun _ _=>rfl) (fun _=>rfl) (fun _=>rfl) fun x hx ρ w vals hg hv hz=>?_,Try.f56,rfl,by decide+kernel,rfl⟩
 simp only[len64C,DenL,Den]at hv
 obtain⟨v,r,rfl,rfl,rfl⟩:=hv
 exact(len64_run x hx w).mono fun e w' ⟨h1,h2⟩=>⟨⟨_,h1,by simp only[len64C,Den]⟩,h2⟩
def cfgBl:Cfg:=⟨T,[],[(56,.one len64C)],noInv,10,{}⟩
theorem conBl:ConOk Try.prog cfgBl:=ConL.ok (.cons (ConL.one len64_good) .nil)
set_option maxRecDepth 100000 in
theorem blen_keeps:Keeps cfgBl Try.f41 len64C noIv:=Eq.mp (show((∀ x1:Nat,((x1<=(30:Nat))->(∃ x3:Nat,((x3<=(30:Nat))/\((((x1:Int)=(x3:Int))/\True)/\(True/\(((↑(len5 x3):Int)=(↑(len5 x1):Int))/\True))))))))=(Keeps cfgBl Try.f41 len64C noIv) by kernel_rfl) (fun x1=>fun h2=>⟨(x1),
(by(try dsimp only at *);omega),
⟨rfl,trivial⟩,trivial,rfl,trivial⟩)
theorem blen_good:Good Try.prog 41 len64C/\FnOk Try.prog 41:=good_of tok conBl (fn:=Try.f41) rfl (by decide+kernel) (fun _=>rfl) blen_keeps
def npC:CT where
 X:=Nat
 pre:=fun n=>n<=30
 args:=fun n=>[.i .i64 n]
 g0:=fun _=>[]
 res:=fun n=>.i .u64 ((2 ^ len5 n:Nat):Int)
 g1:=fun _=>[]
def cfgNp:Cfg:=⟨T,[],[(41,.one len64C)],noInv,10,{}⟩
theorem conNp:ConOk Try.prog cfgNp:=ConL.ok (.cons (ConL.one blen_good) .nil)
theorem u64_wrap {n:Nat} (h:n<18446744073709551616):IntKind.u64.wrap (n:Int)=n:=by
 simp only[IntKind.wrap,IntKind.signed,IntKind.bits]
 have:((n:Int)%18446744073709551616)=n:=by omega
 simpa using this
theorem len5_le (n:Nat):len5 n<=5:=by
 unfold len5
 by_cases h:n<31
 ·have:((List.range 31).all fun x=>decide (([0,1,2,2,3,3,3,3,4,4,4,4,4,4,4,4,5,5,5,5,5,5,5,5,5,5,5,5,5,5,5]:List Nat).getD x 0<=5))=true:=by decide+kernel
  exact of_decide_eq_true (List.all_eq_true.1 this n (List.mem_range.2 h))
 ·rw[List.getD_eq_getElem?_getD,List.getElem?_eq_none (by simp;omega)];decide
theorem np_eq (n:Nat):IntKind.u64.wrap (1*2 ^ min ((len5 n:Nat):Int).toNat IntKind.u64.bits)=((2 ^ len5 n:Nat):Int):=by
 have h:=len5_le n
 rcases(show len5 n=0∨len5 n=1∨len5 n=2∨len5 n=3∨len5 n=4∨len5 n=5 by omega)with e|e|e|e|e|e <;>rw[e] <;>decide+kernel
set_option maxRecDepth 100000 in
theorem np_keeps:Keeps cfgNp Try.f59 npC noIv:=Eq.mp (show((∀ x1:Nat,((x1<=(30:Nat))->((((0:Int)<=(x1:Int))/\((x1:Int)<=(18446744073709551615:Int)))/\(∃ x3:Nat,((x3<=(30:Nat))/\((((x1:Int)=(x3:Int))/\True)/\(True/\(((0:Int)<=(↑(len5 x3):Int))/\((IntKind.wrap .u64 ((1:Int)*2 ^ min (Int.toNat (↑(len5 x3):Int)) (IntKind.bits .u64))=(↑((2:Nat) ^ len5 x1):Int))/\True))))))))))=(Keeps cfgNp Try.f59 npC noIv) by kernel_rfl) (fun x1=>fun h2=>⟨⟨(by omega),
(by omega)⟩,
(x1),
(by(try dsimp only at *);omega),
⟨rfl,trivial⟩,trivial,
(by(try dsimp only at *);omega),
(by(try dsimp only at *);exact np_eq _),trivial⟩)
end Go.Sym