import Derived.Test.YtlldhkhmhgcpaaaGreatDoorP7
import Derived.Test.YtlldhkhmhgcpaaaGreatDoorSH
import Derived.Lib.AppendIntMem
import Derived.Lib.ItoaLen
import Derived.Test.YtlldhkhmhgcpaaaGreatDoorXD
namespace Go.Sym
set_option linter.unusedVariables false
set_option linter.unusedSimpArgs false
open Go.Proofs Go.RowKit
set_option maxRecDepth 100000
set_option maxHeartbeats 4000000
theorem good_below {P:Program} {f:Nat} {ct:CT} [Glob] (hst:∀ x,ct.pre x->ctSt ct x=true) (h1:∀ x,ct.g1 x=[])
  (h:∀ x,ct.pre x->∀(ρ:Env) (w:World) (vals:List Value),Glob.ok ρ->DenL ρ (ct.args x) vals->HSat ρ (hget (ct.g0 x)) w->
   Calls P f vals.toArray w fun e w'=>(∃ v,e= .returned v/\Den ρ (ct.res x) v)/\Below w.heap.size w w'):Good P f ct:=by
 intro x hx
 refine⟨hst x hx,fun ρ w vals hg hv H=>(h x hx ρ w vals hg hv H).mono ?_⟩
 rintro e w' ⟨⟨v,rfl,hd⟩,hb⟩
 have e0:appH (ct.g1 x) (ct.g0 x)=ct.g0 x:=by rw[h1];rfl
 refine⟨v,ρ,rfl,hd,?_,⟨hb.os,hb.tape,hb.output,hb.size,fun k hk _=>hb.block k hk⟩,?_,fun _ _=>rfl⟩
 ·rw[e0]
  refine⟨fun y b hy=>?_,H.inj,H.scp,H.tight,fun b o h=>(hb.block b (heap_lt (H.zok b o h))).trans (H.zok b o h),H.zap⟩
  by_cases hr:b.real
  ·exact(H.blk y b hy).mono rfl (fun _ _=>rfl) (ZLe.refl _) fun pl hpl=>hb.block _ ((H.blk y b hy).lt hr hpl)
  ·exact(H.blk y b hy).unreal hr rfl
 ·rw[e0]
  exact⟨fun l b pl g1 g2 g3=>.inl ⟨l,b,pl,g1,g2,g3,rfl⟩,fun l b pl g1 g2 g3=>.inl (.inl ⟨l,b,pl,g1,g2,g3,rfl⟩),fun _ _ h=>h,fun _ h=>.inl h,
   fun b h=>h.elim .inr fun⟨l,blk,pl,q1,q2,q3,q4⟩=>.inl ⟨l,blk,pl,q1,Blk.mut_real q2,q3,q4⟩⟩
def r64 (n:Int):Prop:= -9223372036854775808<=n/\n<=9223372036854775807
def itoS (n:Int):ByteArray:=⟨(Lib.itoa n).toArray⟩
def itC1:CT where
 X:=Int
 pre:=r64
 args:=fun n=>[.i .i64 n]
 g0:=fun _=>[]
 res:=fun n=>.s (itoS n)
 g1:=fun _=>[]
theorem pow_tab {ρ:Env} {w:World} (hg:glob10.ok ρ) (hz:∀ b o,ρ.z b=some o->w.heap[b]? =some o):Lib.TabIs Tryz.prog w "internal/strconv.uint64pow10" .u64 Lib.pow10Tab:=by
 obtain⟨_,T,fz,e⟩:=hg
 have h1:=hz _ _ e
 unfold Lib.TabIs World.var?
 rw[show Tryz.prog.globalNamed "internal/strconv.uint64pow10" =some 1 by kernel_rfl,Option.bind_some,h1]
 rfl
theorem it_good:Good Tryz.prog 47 itC1/\FnOk Tryz.prog 47:=by
 refine⟨good_below (fun _ _=>rfl) (fun _=>rfl) fun x hx ρ w vals hg hv H=>?_,Tryz.f47,rfl,by decide+kernel,rfl⟩
 simp only[itC1,DenL,Den]at hv
 obtain⟨v,r,rfl,rfl,rfl⟩:=hv
 refine(Tryz.strconv_Itoa x hx.1 hx.2 w (pow_tab hg H.zok)).mono ?_
 rintro e w' ⟨rfl,k,os,rfl⟩
 exact⟨⟨_,rfl,by simp only[itC1,Den];rfl⟩,Lib.below_grow _ _ (Nat.le_refl _) _ _⟩
def joiS (xs:List ByteArray) (sep:ByteArray):ByteArray:=⟨(Lib.join (xs.map (·.data.toList)) sep.data.toList).toArray⟩
instance:Inhabited ByteArray:=⟨ByteArray.empty⟩
def joC:CT where
 X:=List ByteArray × ByteArray
 pre:=fun x=>x.1.length<=1000/\(joiS x.1 x.2).size<=1000000
 args:=fun x=>[.sl 100001 0 x.1.length,.s x.2]
 g0:=fun x=>[(100001,.rows .bor [.str] x.1.length (encL encS x.1))]
 res:=fun x=>.s (joiS x.1 x.2)
 g1:=fun _=>[]
theorem jo_good:Good Tryz.prog 48 joC/\FnOk Tryz.prog 48:=by
 refine⟨good_below (fun _ _=>rfl) (fun _=>rfl) fun x hx ρ w vals hg hv H=>?_,Tryz.f48,rfl,by decide+kernel,rfl⟩
 obtain⟨xs,sep⟩:=x
 have hlen:(Lib.join (xs.map (·.data.toList)) sep.data.toList).length<=140737488355328:=by
  have:=hx.2
  unfold joiS at this
  rw[show(ByteArray.mk (Lib.join (xs.map (·.data.toList)) sep.data.toList).toArray).size=(Lib.join (xs.map (·.data.toList)) sep.data.toList).length from by simp[ByteArray.size]]at this
  omega
 simp only[joC,DenL,Den]at hv
 obtain⟨v,r,rfl,hd,v2,r2,rfl,rfl,rfl⟩:=hv
 have hG:hget (joC.g0 (xs,sep)) 100001=some (.rows .bor [.str] xs.length (encL encS xs)):=rfl
 have nil:xs=[]->v= .slice none 0 0∨∃ a c,v= .slice a 0 c:=fun h=>by
  subst h
  rcases hd with⟨_,rfl,_⟩|⟨pl,a,_,rfl,_⟩
  ·exact .inl rfl
  ·exact .inr ⟨_,_,rfl⟩
 by_cases hx0:xs=[]
 ·have:∃ a c,v= .slice a 0 c:=(nil hx0).elim (fun h=>⟨_,_,h⟩) id
  obtain⟨a,c,rfl⟩:=this
  subst hx0
  refine(Tryz.strings_Join_none a c sep w).mono ?_
  rintro e w' ⟨rfl,rfl⟩
  exact⟨⟨_,rfl,by simp only[joC,Den];rfl⟩,Below.refl _ _⟩
 ·have hpos:0<xs.length:=List.length_pos_iff.2 hx0
  rcases hd with⟨_,_,h,_⟩|⟨pl,a,hpl,rfl,h1,h2⟩
  ·exact absurd h (by show xs.length≠0;omega)
  ·rcases H.blk _ _ hG with⟨h3,_⟩|⟨_,_,h3,_⟩|⟨pl',arr,T,fz,e1,e2,e3,_,e4,e5,e6,e7⟩
   ·rw[hpl]at h3;cases h3
   ·omega
   rw[hpl]at e1
   cases e1
   have h1:0+xs.length<=pl.cap:=h1
   have ha:=h2 (by omega)
   subst ha
   have hk:pl.k=1:=e4
   refine(Tryz.strings_Join pl.b (pl.off+0*pl.k+0) (pl.cap-0) xs sep w (fun j y hj=>?_) (heap_lt e2) (by have:=hx.1;show xs.length<=_;have:xs.length<=1000:=hx.1;omega) (by omega) hlen).mono ?_
   ·have hjl:j<xs.length:=by
     rcases Nat.lt_or_ge j xs.length with h|h
     ·exact h
     ·rw[List.getElem?_eq_none h]at hj;cases hj
    have h9:=e7 j hjl
    simp only[DenR,DenD,and_true]at h9
    obtain⟨u,g1,g2⟩:=h9
    unfold World.cell?
    rw[e2]
    simp only[Option.isSome_none,Bool.false_eq_true,if_false]
    rw[show pl.off+0*pl.k+0+j=pl.off+j*pl.k by rw[hk];omega,g1,g2]
    congr 2
    unfold encL encS D.toS
    rw[List.getD_eq_getElem?_getD,hj]
    rfl
   ·rintro e w' ⟨rfl,hb⟩
    exact⟨⟨_,rfl,by simp only[joC,Den];rfl⟩,hb⟩
theorem ba_size (a b:ByteArray):(a++b).size=a.size+b.size:=by simp
theorem joi_one (x s:ByteArray):joiS [x] s=x:=by
 unfold joiS Lib.join
 simp[List.intercalate]
theorem joi_two (x y:ByteArray) (l:List ByteArray) (s:ByteArray):joiS (x::y::l) s=x++s++joiS (y::l) s:=by
 unfold joiS Lib.join
 apply ByteArray.ext
 simp[List.intercalate]
theorem joi_size {b:Nat} (s:ByteArray):∀(xs:List ByteArray),(∀ x∈xs,x.size<=b)->(joiS xs s).size<=xs.length*(b+s.size)
 | [],_=>Nat.zero_le _
 | [x],h=>by
  rw[joi_one,List.length_singleton]
  have:=h x (by simp)
  omega
 |x::y::l,h=>by
  have h1:=joi_size s (y::l) (fun z hz=>h z (List.mem_cons_of_mem _ hz))
  have h2:=h x (by simp)
  rw[joi_two,ba_size,ba_size,List.length_cons,Nat.succ_mul]
  omega
theorem ito_size {n:Int} (h:r64 n):(itoS n).size<=21:=by
 have:=Lib.itoa_length_le n h.1 h.2
 unfold itoS
 simpa[ByteArray.size]using this
end Go.Sym