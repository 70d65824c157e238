import Derived.Test.YtpnnecijeoipfaaGreatDoorA1
import Derived.Shelf.Spec.TrailingZeros
namespace Go.Sym
set_option linter.unusedVariables false
open Go.Proofs Go.RowKit
set_option maxRecDepth 100000
set_option maxHeartbeats 1000000 in
theorem tz64_core (x k idx:Nat) (w:World) (hx0:((x:Int)==0)=false)
  (key:IntKind.u64.wrap (bits BinOp.and IntKind.u64 (x:Int) (IntKind.u64.wrap (-(x:Int)))*285870213051353865) / 288230376151711744=(idx:Int))
  (hi:idx<64) (hk:k<64) (hcell:w.cell? ⟨0,idx,none⟩=some (.int .u8 k)):
  Calls Tryz.prog 131 #[.int .u64 x] w fun e w'=>e= .returned (.int .i64 k)/\w'=w:=by
 go_enter Tryz.func131,Tryz.ntmps131
 go_wp2_with (simp only[key])
 go_ret
 exact⟨rfl,rfl⟩
theorem tz64_zero (w:World):Calls Tryz.prog 131 #[.int .u64 0] w fun e w'=>e= .returned (.int .i64 64)/\w'=w:=by
 go_enter Tryz.func131,Tryz.ntmps131
 go_wp2
 go_ret
 exact⟨rfl,rfl⟩
theorem tz64 (x:Nat) (hx:x<18446744073709551616) (w:World) (hT:x≠0->TabAt 0 Lib.deBruijn64tab w):
  Calls Tryz.prog 131 #[.int .u64 x] w fun e w'=>e= .returned (.int .i64 (Lib.ctz 64 x))/\w'=w:=by
 by_cases hx0:x=0
 ·subst hx0
  exact tz64_zero w
 ·obtain⟨hlow,hk⟩:=Lib.lowest_bit 64 x hx0 hx
  obtain⟨hi,htab⟩:=Lib.deBruijn64_at _ hk
  have hcell:=hT hx0 _ hi
  rw[htab]at hcell
  exact tz64_core x _ _ w (by simp;omega) (tz64_key x _ hx hx0 hlow) hi hk hcell
theorem good_pure {P:Program} {f:Nat} {ct:CT} [Glob] (hst:∀ x,ct.pre x->ctSt ct x=true) (h0:∀ x,ct.g0 x=[]) (h1:∀ x,ct.g1 x=[])
  (h:∀ x,ct.pre x->∀(ρ:Env) (w:World) (vals:List Value),Glob.ok ρ->DenL ρ (ct.args x) vals->(∀ b o,ρ.z b=some o->w.heap[b]? =some o)->Calls P f vals.toArray w fun e w'=>(∃ v,e= .returned v/\Den ρ (ct.res x) v)/\w'=w):Good P f ct:=by
 intro x hx
 refine⟨hst x hx,fun ρ w vals hg hv H=>(h x hx ρ w vals hg hv H.zok).mono ?_⟩
 rintro e w' ⟨⟨v,rfl,hd⟩,rfl⟩
 rw[h0]at H
 have e0:appH (ct.g1 x) (ct.g0 x)=[]:=by rw[h0,h1];rfl
 refine⟨v,ρ,rfl,hd,by rw[e0];exact H,⟨rfl,rfl,rfl,Nat.le_refl _,fun _ _ _=>rfl⟩,?_,fun _ _=>rfl⟩
 rw[e0]
 refine⟨fun l b pl h=>(by cases h),fun l b pl h=>(by cases h),fun _ _ h=>h,fun _ h=>.inl h,fun b h=>h.elim .inr fun⟨l,blk,pl,h1,_⟩=>(by rw[h0]at h1;cases h1)⟩
end Go.Sym