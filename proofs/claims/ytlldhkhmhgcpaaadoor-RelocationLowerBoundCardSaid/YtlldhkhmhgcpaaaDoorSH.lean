import Derived.Shelf.Strings.OnBuilder
import Derived.Shelf.LaysM
import Derived.Shelf.Strconv.Itoa3
import Derived.Test.YtlldhkhmhgcpaaaDoorProg
import Derived.Test.YtlldhkhmhgcpaaaDoorP7
import Derived.Lib.AppendIntMem
import Derived.Lib.ItoaLen
import Derived.Test.YtlldhkhmhgcpaaaDoorXD
namespace Go.Proofs
open Go.Shelf
def Tryd.lays156_ren:Go.Shelf.Ren:=⟨fun|156=>19|165=>41|166=>42|169=>43|240=>59|241=>60|276=>84|277=>85|n=>n,fun|31=>62|9=>9|3=>3|4=>4|0=>0|20=>20|72=>98|76=>101|70=>95|37=>96|75=>100|127=>124|164=>147|5=>5|80=>103|n=>n,fun|n=>n⟩
theorem Tryd.lays156:Go.Proofs.Lays.n156 Tryd.prog Tryd.lays156_ren:={
 mixed:=by kernel_rfl
 f156:=Tryd.func19.trans (congrArg some (by kernel_rfl))
 f165:=Tryd.func41.trans (congrArg some (by kernel_rfl))
 f166:=Tryd.func42.trans (congrArg some (by kernel_rfl))
 f169:=Tryd.func43.trans (congrArg some (by kernel_rfl))
 f240:=Tryd.func59.trans (congrArg some (by kernel_rfl))
 f241:=Tryd.func60.trans (congrArg some (by kernel_rfl))
 f276:=Tryd.func84.trans (congrArg some (by kernel_rfl))
 f277:=Tryd.func85.trans (congrArg some (by kernel_rfl))
 t0:=Tryd.underlying0
 a0:=Tryd.isAgg0
 z0:=Tryd.sizeOf0
 v0:=Tryd.zeroValue0
 t3:=Tryd.underlying3
 a3:=Tryd.isAgg3
 z3:=Tryd.sizeOf3
 v3:=Tryd.zeroValue3
 t4:=Tryd.underlying4
 a4:=Tryd.isAgg4
 z4:=Tryd.sizeOf4
 v4:=Tryd.zeroValue4
 t9:=Tryd.underlying9
 a9:=Tryd.isAgg9
 z9:=Tryd.sizeOf9
 v9:=Tryd.zeroValue9
 t20:=Tryd.underlying20
 a20:=Tryd.isAgg20
 z20:=Tryd.sizeOf20
 v20:=Tryd.zeroValue20
 t31:=Tryd.underlying62
 a31:=Tryd.isAgg62
 z31:=Tryd.sizeOf62
 v31:=Tryd.zeroValue62
 t37:=Tryd.underlying96
 a37:=Tryd.isAgg96
 z37:=Tryd.sizeOf96
 v37:=Tryd.zeroValue96
 t70:=Tryd.underlying95
 a70:=Tryd.isAgg95
 z70:=Tryd.sizeOf95
 v70:=Tryd.zeroValue95
 t72:=Tryd.underlying98
 a72:=Tryd.isAgg98
 z72:=Tryd.sizeOf98
 v72:=Tryd.zeroValue98
 t75:=Tryd.underlying100
 a75:=Tryd.isAgg100
 z75:=Tryd.sizeOf100
 v75:=Tryd.zeroValue100
 t76:=Tryd.underlying101
 a76:=Tryd.isAgg101
 z76:=Tryd.sizeOf101
 v76:=Tryd.zeroValue101
 t127:=Tryd.underlying124
 a127:=Tryd.isAgg124
 z127:=Tryd.sizeOf124
 v127:=Tryd.zeroValue124
 t164:=Tryd.underlying147
 a164:=Tryd.isAgg147
 z164:=Tryd.sizeOf147
 v164:=Tryd.zeroValue147 }
theorem Tryd.Builder_Extra_156:Builder.Extra Tryd.prog Tryd.lays156_ren:={
 sizeBuilder:=by kernel_rfl
 liesBuilder:=by kernel_rfl
 t5:=Tryd.underlying5
 a5:=Tryd.isAgg5
 z5:=Tryd.sizeOf5
 v5:=Tryd.zeroValue5
 infoByte:=by kernel_rfl
 cellsByte:=by kernel_rfl
 sizeByte:=by kernel_rfl
 neB5:=by decide }
open Go.RowKit in
theorem Tryd.strings_Join_none (a:Option Addr) (c:Nat) (sep:ByteArray) (w:World):
  Calls Tryd.prog 19 #[.slice a 0 c,.string sep] w fun e w'=>e= .returned (.string ⟨#[]⟩)/\w'=w:=Any.strings_Join_none Tryd.lays156 Tryd.Builder_Extra_156 a c sep w
open Go.RowKit in
theorem Tryd.strings_Join (bk o c:Nat) (xs:List ByteArray) (sep:ByteArray) (w:World) (hcells:∀(j:Nat) x,xs[j]? =some x->w.cell? ⟨bk,o+j,none⟩=some (.string x)) (hbk:bk<w.heap.size) (hN:xs.length<=140737488355328) (hcap:xs.length<=c) (hlen:(Lib.join (xs.map (·.data.toList)) sep.data.toList).length<=140737488355328):
  Calls Tryd.prog 19 #[.slice (some ⟨bk,o,none⟩) xs.length c,.string sep] w fun e w'=>e= .returned (.string ⟨(Lib.join (xs.map (·.data.toList)) sep.data.toList).toArray⟩)/\Below w.heap.size w w':=Any.strings_Join Tryd.lays156 Tryd.Builder_Extra_156 bk o c xs sep w hcells hbk hN hcap hlen
def Tryd.laysM171_ren:Go.Shelf.Ren:=⟨fun|171=>18|243=>40|246=>58|283=>80|284=>81|285=>82|286=>83|129=>95|317=>100|318=>101|319=>102|320=>103|337=>110|338=>66|n=>n,fun|3=>3|9=>9|2=>2|4=>4|171=>143|0=>0|53=>72|37=>96|5=>5|173=>145|212=>167|51=>158|20=>20|213=>168|46=>127|232=>178|233=>159|n=>n,fun|17=>1|18=>3|19=>0|n=>n⟩
theorem Tryd.laysM171:Go.Proofs.LaysM.n171 Tryd.prog Tryd.laysM171_ren:={
 mixed:=by kernel_rfl
 f129:=Tryd.func95.trans (congrArg some (by kernel_rfl))
 f171:=Tryd.func18.trans (congrArg some (by kernel_rfl))
 f243:=Tryd.func40.trans (congrArg some (by kernel_rfl))
 f246:=Tryd.func58.trans (congrArg some (by kernel_rfl))
 f283:=Tryd.func80.trans (congrArg some (by kernel_rfl))
 f284:=Tryd.func81.trans (congrArg some (by kernel_rfl))
 f285:=Tryd.func82.trans (congrArg some (by kernel_rfl))
 f286:=Tryd.func83.trans (congrArg some (by kernel_rfl))
 f317:=Tryd.func100.trans (congrArg some (by kernel_rfl))
 f318:=Tryd.func101.trans (congrArg some (by kernel_rfl))
 f319:=Tryd.func102.trans (congrArg some (by kernel_rfl))
 f320:=Tryd.func103.trans (congrArg some (by kernel_rfl))
 f337:=Tryd.func110.trans (congrArg some (by kernel_rfl))
 f338:=Tryd.func66.trans (congrArg some (by kernel_rfl))
 t0:=Tryd.underlying0
 a0:=Tryd.isAgg0
 z0:=Tryd.sizeOf0
 v0:=Tryd.zeroValue0
 t2:=Tryd.underlying2
 a2:=Tryd.isAgg2
 z2:=Tryd.sizeOf2
 v2:=Tryd.zeroValue2
 t3:=Tryd.underlying3
 a3:=Tryd.isAgg3
 z3:=Tryd.sizeOf3
 v3:=Tryd.zeroValue3
 t4:=Tryd.underlying4
 a4:=Tryd.isAgg4
 z4:=Tryd.sizeOf4
 v4:=Tryd.zeroValue4
 t5:=Tryd.underlying5
 a5:=Tryd.isAgg5
 z5:=Tryd.sizeOf5
 v5:=Tryd.zeroValue5
 t9:=Tryd.underlying9
 a9:=Tryd.isAgg9
 z9:=Tryd.sizeOf9
 v9:=Tryd.zeroValue9
 t20:=Tryd.underlying20
 a20:=Tryd.isAgg20
 z20:=Tryd.sizeOf20
 v20:=Tryd.zeroValue20
 t37:=Tryd.underlying96
 a37:=Tryd.isAgg96
 z37:=Tryd.sizeOf96
 v37:=Tryd.zeroValue96
 t46:=Tryd.underlying127
 a46:=Tryd.isAgg127
 z46:=Tryd.sizeOf127
 v46:=Tryd.zeroValue127
 t51:=Tryd.underlying158
 a51:=Tryd.isAgg158
 z51:=Tryd.sizeOf158
 v51:=Tryd.zeroValue158
 t53:=Tryd.underlying72
 a53:=Tryd.isAgg72
 z53:=Tryd.sizeOf72
 v53:=Tryd.zeroValue72
 t171:=Tryd.underlying143
 a171:=Tryd.isAgg143
 z171:=Tryd.sizeOf143
 v171:=Tryd.zeroValue143
 t173:=Tryd.underlying145
 a173:=Tryd.isAgg145
 z173:=Tryd.sizeOf145
 v173:=Tryd.zeroValue145
 t212:=Tryd.underlying167
 a212:=Tryd.isAgg167
 z212:=Tryd.sizeOf167
 v212:=Tryd.zeroValue167
 t213:=Tryd.underlying168
 a213:=Tryd.isAgg168
 z213:=Tryd.sizeOf168
 t232:=Tryd.underlying178
 a232:=Tryd.isAgg178
 z232:=Tryd.sizeOf178
 v232:=Tryd.zeroValue178
 t233:=Tryd.underlying159
 a233:=Tryd.isAgg159
 z233:=Tryd.sizeOf159
 v233:=Tryd.zeroValue159
 g17:=by kernel_rfl
 g18:=by kernel_rfl
 g19:=by kernel_rfl
 i0:=by kernel_rfl
 i2:=by kernel_rfl
 i3:=by kernel_rfl
 i4:=by kernel_rfl
 i5:=by kernel_rfl
 i9:=by kernel_rfl
 i20:=by kernel_rfl
 i37:=by kernel_rfl
 i46:=by kernel_rfl
 i51:=by kernel_rfl
 i53:=by kernel_rfl
 i171:=by kernel_rfl
 i173:=by kernel_rfl
 i212:=by kernel_rfl
 i232:=by kernel_rfl
 i233:=by kernel_rfl
 m17:=by kernel_rfl
 m18:=by kernel_rfl
 m19:=by kernel_rfl }
open Go.RowKit Go.Sort Go.Lib in
theorem Tryd.strconv_Itoa (n:Int) (h0: -9223372036854775808<=n) (h1:n<=9223372036854775807) (w:World) (htab:Lib.TabIs Tryd.prog w "internal/strconv.uint64pow10" .u64 Lib.pow10Tab):
  Calls Tryd.prog 18 #[.int .i64 n] w fun e w'=>e= .returned (.string ⟨(Lib.itoa n).toArray⟩)/\∃ k os,w'=grow (w.drewN k) os:=Any.strconv_Itoa Tryd.laysM171 n h0 h1 w htab
end Go.Proofs
namespace Go.Sym
set_option linter.unusedVariables false
set_option linter.unusedSimpArgs false
open Go.Proofs Go.RowKit
set_option maxRecDepth 100000
set_option maxHeartbeats 4000000
theorem good_below {P:Program} {f:Nat} {ct:CT} [Glob] (hst:∀ x,ct.pre x->ctSt ct x=true) (h1:∀ x,ct.g1 x=[])
  (h:∀ x,ct.pre x->∀(ρ:Env) (w:World) (vals:List Value),Glob.ok ρ->DenL ρ (ct.args x) vals->HSat ρ (hget (ct.g0 x)) w->
   Calls P f vals.toArray w fun e w'=>(∃ v,e= .returned v/\Den ρ (ct.res x) v)/\Below w.heap.size w w'):Good P f ct:=by
 intro x hx
 refine⟨hst x hx,fun ρ w vals hg hv H=>(h x hx ρ w vals hg hv H).mono ?_⟩
 rintro e w' ⟨⟨v,rfl,hd⟩,hb⟩
 have e0:appH (ct.g1 x) (ct.g0 x)=ct.g0 x:=by rw[h1];rfl
 refine⟨v,ρ,rfl,hd,?_,⟨hb.os,hb.tape,hb.output,hb.size,fun k hk _=>hb.block k hk⟩,?_,fun _ _=>rfl⟩
 ·rw[e0]
  refine⟨fun y b hy=>?_,H.inj,H.scp,H.tight,fun b o h=>(hb.block b (heap_lt (H.zok b o h))).trans (H.zok b o h),H.zap⟩
  by_cases hr:b.real
  ·exact(H.blk y b hy).mono rfl (fun _ _=>rfl) (ZLe.refl _) fun pl hpl=>hb.block _ ((H.blk y b hy).lt hr hpl)
  ·exact(H.blk y b hy).unreal hr rfl
 ·rw[e0]
  exact⟨fun l b pl g1 g2 g3=>.inl ⟨l,b,pl,g1,g2,g3,rfl⟩,fun l b pl g1 g2 g3=>.inl (.inl ⟨l,b,pl,g1,g2,g3,rfl⟩),fun _ _ h=>h,fun _ h=>.inl h,
   fun b h=>h.elim .inr fun⟨l,blk,pl,q1,q2,q3,q4⟩=>.inl ⟨l,blk,pl,q1,Blk.mut_real q2,q3,q4⟩⟩
def r64 (n:Int):Prop:= -9223372036854775808<=n/\n<=9223372036854775807
def itoS (n:Int):ByteArray:=⟨(Lib.itoa n).toArray⟩
def itC1:CT where
 X:=Int
 pre:=r64
 args:=fun n=>[.i .i64 n]
 g0:=fun _=>[]
 res:=fun n=>.s (itoS n)
 g1:=fun _=>[]
theorem pow_tab {ρ:Env} {w:World} (hg:glob10.ok ρ) (hz:∀ b o,ρ.z b=some o->w.heap[b]? =some o):Lib.TabIs Tryd.prog w "internal/strconv.uint64pow10" .u64 Lib.pow10Tab:=by
 obtain⟨_,T,fz,e⟩:=hg
 have h1:=hz _ _ e
 unfold Lib.TabIs World.var?
 rw[show Tryd.prog.globalNamed "internal/strconv.uint64pow10" =some 1 by kernel_rfl,Option.bind_some,h1]
 rfl
theorem it_good:Good Tryd.prog 18 itC1/\FnOk Tryd.prog 18:=by
 refine⟨good_below (fun _ _=>rfl) (fun _=>rfl) fun x hx ρ w vals hg hv H=>?_,Tryd.f18,rfl,by decide+kernel,rfl⟩
 simp only[itC1,DenL,Den]at hv
 obtain⟨v,r,rfl,rfl,rfl⟩:=hv
 refine(Tryd.strconv_Itoa x hx.1 hx.2 w (pow_tab hg H.zok)).mono ?_
 rintro e w' ⟨rfl,k,os,rfl⟩
 exact⟨⟨_,rfl,by simp only[itC1,Den];rfl⟩,Lib.below_grow _ _ (Nat.le_refl _) _ _⟩
def joiS (xs:List ByteArray) (sep:ByteArray):ByteArray:=⟨(Lib.join (xs.map (·.data.toList)) sep.data.toList).toArray⟩
instance:Inhabited ByteArray:=⟨ByteArray.empty⟩
def joC:CT where
 X:=List ByteArray × ByteArray
 pre:=fun x=>x.1.length<=1000/\(joiS x.1 x.2).size<=1000000
 args:=fun x=>[.sl 100001 0 x.1.length,.s x.2]
 g0:=fun x=>[(100001,.rows .bor [.str] x.1.length (encL encS x.1))]
 res:=fun x=>.s (joiS x.1 x.2)
 g1:=fun _=>[]
theorem jo_good:Good Tryd.prog 19 joC/\FnOk Tryd.prog 19:=by
 refine⟨good_below (fun _ _=>rfl) (fun _=>rfl) fun x hx ρ w vals hg hv H=>?_,Tryd.f19,rfl,by decide+kernel,rfl⟩
 obtain⟨xs,sep⟩:=x
 have hlen:(Lib.join (xs.map (·.data.toList)) sep.data.toList).length<=140737488355328:=by
  have:=hx.2
  unfold joiS at this
  rw[show(ByteArray.mk (Lib.join (xs.map (·.data.toList)) sep.data.toList).toArray).size=(Lib.join (xs.map (·.data.toList)) sep.data.toList).length from by simp[ByteArray.size]]at this
  omega
 simp only[joC,DenL,Den]at hv
 obtain⟨v,r,rfl,hd,v2,r2,rfl,rfl,rfl⟩:=hv
 have hG:hget (joC.g0 (xs,sep)) 100001=some (.rows .bor [.str] xs.length (encL encS xs)):=rfl
 have nil:xs=[]->v= .slice none 0 0∨∃ a c,v= .slice a 0 c:=fun h=>by
  subst h
  rcases hd with⟨_,rfl,_⟩|⟨pl,a,_,rfl,_⟩
  ·exact .inl rfl
  ·exact .inr ⟨_,_,rfl⟩
 by_cases hx0:xs=[]
 ·have:∃ a c,v= .slice a 0 c:=(nil hx0).elim (fun h=>⟨_,_,h⟩) id
  obtain⟨a,c,rfl⟩:=this
  subst hx0
  refine(Tryd.strings_Join_none a c sep w).mono ?_
  rintro e w' ⟨rfl,rfl⟩
  exact⟨⟨_,rfl,by simp only[joC,Den];rfl⟩,Below.refl _ _⟩
 ·have hpos:0<xs.length:=List.length_pos_iff.2 hx0
  rcases hd with⟨_,_,h,_⟩|⟨pl,a,hpl,rfl,h1,h2⟩
  ·exact absurd h (by show xs.length≠0;omega)
  ·rcases H.blk _ _ hG with⟨h3,_⟩|⟨_,_,h3,_⟩|⟨pl',arr,T,fz,e1,e2,e3,_,e4,e5,e6,e7⟩
   ·rw[hpl]at h3;cases h3
   ·omega
   rw[hpl]at e1
   cases e1
   have h1:0+xs.length<=pl.cap:=h1
   have ha:=h2 (by omega)
   subst ha
   have hk:pl.k=1:=e4
   refine(Tryd.strings_Join pl.b (pl.off+0*pl.k+0) (pl.cap-0) xs sep w (fun j y hj=>?_) (heap_lt e2) (by have:=hx.1;show xs.length<=_;have:xs.length<=1000:=hx.1;omega) (by omega) hlen).mono ?_
   ·have hjl:j<xs.length:=by
     rcases Nat.lt_or_ge j xs.length with h|h
     ·exact h
     ·rw[List.getElem?_eq_none h]at hj;cases hj
    have h9:=e7 j hjl
    simp only[DenR,DenD,and_true]at h9
    obtain⟨u,g1,g2⟩:=h9
    unfold World.cell?
    rw[e2]
    simp only[Option.isSome_none,Bool.false_eq_true,if_false]
    rw[show pl.off+0*pl.k+0+j=pl.off+j*pl.k by rw[hk];omega,g1,g2]
    congr 2
    unfold encL encS D.toS
    rw[List.getD_eq_getElem?_getD,hj]
    rfl
   ·rintro e w' ⟨rfl,hb⟩
    exact⟨⟨_,rfl,by simp only[joC,Den];rfl⟩,hb⟩
theorem ba_size (a b:ByteArray):(a++b).size=a.size+b.size:=by simp
theorem joi_one (x s:ByteArray):joiS [x] s=x:=by
 unfold joiS Lib.join
 simp[List.intercalate]
theorem joi_two (x y:ByteArray) (l:List ByteArray) (s:ByteArray):joiS (x::y::l) s=x++s++joiS (y::l) s:=by
 unfold joiS Lib.join
 apply ByteArray.ext
 simp[List.intercalate]
theorem joi_size {b:Nat} (s:ByteArray):∀(xs:List ByteArray),(∀ x∈xs,x.size<=b)->(joiS xs s).size<=xs.length*(b+s.size)
 | [],_=>Nat.zero_le _
 | [x],h=>by
  rw[joi_one,List.length_singleton]
  have:=h x (by simp)
  omega
 |x::y::l,h=>by
  have h1:=joi_size s (y::l) (fun z hz=>h z (List.mem_cons_of_mem _ hz))
  have h2:=h x (by simp)
  rw[joi_two,ba_size,ba_size,List.length_cons,Nat.succ_mul]
  omega
theorem ito_size {n:Int} (h:r64 n):(itoS n).size<=21:=by
 have:=Lib.itoa_length_le n h.1 h.2
 unfold itoS
 simpa[ByteArray.size]using this
end Go.Sym