import Derived.Shelf.Strings.OnBuilder
import Derived.Shelf.LaysM
import Derived.Shelf.Strconv.Itoa3
import Derived.Test.YtlldhkhmhgcpaaaGreatDoorProg
import Derived.Test.YtlldhkhmhgcpaaaGreatDoorP7
import Derived.Lib.AppendIntMem
import Derived.Lib.ItoaLen
import Derived.Test.YtlldhkhmhgcpaaaGreatDoorXD
namespace Go.Proofs
open Go.Shelf
def Tryz.lays156_ren:Go.Shelf.Ren:=⟨fun|156=>48|165=>67|166=>68|169=>69|240=>93|241=>94|276=>113|277=>114|n=>n,fun|31=>100|9=>9|3=>3|4=>4|0=>0|20=>20|72=>129|76=>132|70=>126|37=>127|75=>131|127=>154|164=>174|5=>5|80=>134|n=>n,fun|n=>n⟩
theorem Tryz.lays156:Go.Proofs.Lays.n156 Tryz.prog Tryz.lays156_ren:={
 mixed:=by kernel_rfl
 f156:=Tryz.func48.trans (congrArg some (by kernel_rfl))
 f165:=Tryz.func67.trans (congrArg some (by kernel_rfl))
 f166:=Tryz.func68.trans (congrArg some (by kernel_rfl))
 f169:=Tryz.func69.trans (congrArg some (by kernel_rfl))
 f240:=Tryz.func93.trans (congrArg some (by kernel_rfl))
 f241:=Tryz.func94.trans (congrArg some (by kernel_rfl))
 f276:=Tryz.func113.trans (congrArg some (by kernel_rfl))
 f277:=Tryz.func114.trans (congrArg some (by kernel_rfl))
 t0:=Tryz.underlying0
 a0:=Tryz.isAgg0
 z0:=Tryz.sizeOf0
 v0:=Tryz.zeroValue0
 t3:=Tryz.underlying3
 a3:=Tryz.isAgg3
 z3:=Tryz.sizeOf3
 v3:=Tryz.zeroValue3
 t4:=Tryz.underlying4
 a4:=Tryz.isAgg4
 z4:=Tryz.sizeOf4
 v4:=Tryz.zeroValue4
 t9:=Tryz.underlying9
 a9:=Tryz.isAgg9
 z9:=Tryz.sizeOf9
 v9:=Tryz.zeroValue9
 t20:=Tryz.underlying20
 a20:=Tryz.isAgg20
 z20:=Tryz.sizeOf20
 v20:=Tryz.zeroValue20
 t31:=Tryz.underlying100
 a31:=Tryz.isAgg100
 z31:=Tryz.sizeOf100
 v31:=Tryz.zeroValue100
 t37:=Tryz.underlying127
 a37:=Tryz.isAgg127
 z37:=Tryz.sizeOf127
 v37:=Tryz.zeroValue127
 t70:=Tryz.underlying126
 a70:=Tryz.isAgg126
 z70:=Tryz.sizeOf126
 v70:=Tryz.zeroValue126
 t72:=Tryz.underlying129
 a72:=Tryz.isAgg129
 z72:=Tryz.sizeOf129
 v72:=Tryz.zeroValue129
 t75:=Tryz.underlying131
 a75:=Tryz.isAgg131
 z75:=Tryz.sizeOf131
 v75:=Tryz.zeroValue131
 t76:=Tryz.underlying132
 a76:=Tryz.isAgg132
 z76:=Tryz.sizeOf132
 v76:=Tryz.zeroValue132
 t127:=Tryz.underlying154
 a127:=Tryz.isAgg154
 z127:=Tryz.sizeOf154
 v127:=Tryz.zeroValue154
 t164:=Tryz.underlying174
 a164:=Tryz.isAgg174
 z164:=Tryz.sizeOf174
 v164:=Tryz.zeroValue174 }
theorem Tryz.Builder_Extra_156:Builder.Extra Tryz.prog Tryz.lays156_ren:={
 sizeBuilder:=by kernel_rfl
 liesBuilder:=by kernel_rfl
 t5:=Tryz.underlying5
 a5:=Tryz.isAgg5
 z5:=Tryz.sizeOf5
 v5:=Tryz.zeroValue5
 infoByte:=by kernel_rfl
 cellsByte:=by kernel_rfl
 sizeByte:=by kernel_rfl
 neB5:=by decide }
open Go.RowKit in
theorem Tryz.strings_Join_none (a:Option Addr) (c:Nat) (sep:ByteArray) (w:World):
  Calls Tryz.prog 48 #[.slice a 0 c,.string sep] w fun e w'=>e= .returned (.string ⟨#[]⟩)/\w'=w:=Any.strings_Join_none Tryz.lays156 Tryz.Builder_Extra_156 a c sep w
open Go.RowKit in
theorem Tryz.strings_Join (bk o c:Nat) (xs:List ByteArray) (sep:ByteArray) (w:World) (hcells:∀(j:Nat) x,xs[j]? =some x->w.cell? ⟨bk,o+j,none⟩=some (.string x)) (hbk:bk<w.heap.size) (hN:xs.length<=140737488355328) (hcap:xs.length<=c) (hlen:(Lib.join (xs.map (·.data.toList)) sep.data.toList).length<=140737488355328):
  Calls Tryz.prog 48 #[.slice (some ⟨bk,o,none⟩) xs.length c,.string sep] w fun e w'=>e= .returned (.string ⟨(Lib.join (xs.map (·.data.toList)) sep.data.toList).toArray⟩)/\Below w.heap.size w w':=Any.strings_Join Tryz.lays156 Tryz.Builder_Extra_156 bk o c xs sep w hcells hbk hN hcap hlen
def Tryz.laysM171_ren:Go.Shelf.Ren:=⟨fun|171=>47|243=>66|246=>92|283=>109|284=>110|285=>111|286=>112|129=>104|317=>121|318=>122|319=>123|320=>124|337=>126|338=>76|n=>n,fun|3=>3|9=>9|2=>2|4=>4|171=>170|0=>0|53=>82|37=>127|5=>5|173=>172|212=>185|51=>163|20=>20|213=>186|46=>138|232=>190|233=>164|n=>n,fun|17=>1|18=>3|19=>0|n=>n⟩
theorem Tryz.laysM171:Go.Proofs.LaysM.n171 Tryz.prog Tryz.laysM171_ren:={
 mixed:=by kernel_rfl
 f129:=Tryz.func104.trans (congrArg some (by kernel_rfl))
 f171:=Tryz.func47.trans (congrArg some (by kernel_rfl))
 f243:=Tryz.func66.trans (congrArg some (by kernel_rfl))
 f246:=Tryz.func92.trans (congrArg some (by kernel_rfl))
 f283:=Tryz.func109.trans (congrArg some (by kernel_rfl))
 f284:=Tryz.func110.trans (congrArg some (by kernel_rfl))
 f285:=Tryz.func111.trans (congrArg some (by kernel_rfl))
 f286:=Tryz.func112.trans (congrArg some (by kernel_rfl))
 f317:=Tryz.func121.trans (congrArg some (by kernel_rfl))
 f318:=Tryz.func122.trans (congrArg some (by kernel_rfl))
 f319:=Tryz.func123.trans (congrArg some (by kernel_rfl))
 f320:=Tryz.func124.trans (congrArg some (by kernel_rfl))
 f337:=Tryz.func126.trans (congrArg some (by kernel_rfl))
 f338:=Tryz.func76.trans (congrArg some (by kernel_rfl))
 t0:=Tryz.underlying0
 a0:=Tryz.isAgg0
 z0:=Tryz.sizeOf0
 v0:=Tryz.zeroValue0
 t2:=Tryz.underlying2
 a2:=Tryz.isAgg2
 z2:=Tryz.sizeOf2
 v2:=Tryz.zeroValue2
 t3:=Tryz.underlying3
 a3:=Tryz.isAgg3
 z3:=Tryz.sizeOf3
 v3:=Tryz.zeroValue3
 t4:=Tryz.underlying4
 a4:=Tryz.isAgg4
 z4:=Tryz.sizeOf4
 v4:=Tryz.zeroValue4
 t5:=Tryz.underlying5
 a5:=Tryz.isAgg5
 z5:=Tryz.sizeOf5
 v5:=Tryz.zeroValue5
 t9:=Tryz.underlying9
 a9:=Tryz.isAgg9
 z9:=Tryz.sizeOf9
 v9:=Tryz.zeroValue9
 t20:=Tryz.underlying20
 a20:=Tryz.isAgg20
 z20:=Tryz.sizeOf20
 v20:=Tryz.zeroValue20
 t37:=Tryz.underlying127
 a37:=Tryz.isAgg127
 z37:=Tryz.sizeOf127
 v37:=Tryz.zeroValue127
 t46:=Tryz.underlying138
 a46:=Tryz.isAgg138
 z46:=Tryz.sizeOf138
 v46:=Tryz.zeroValue138
 t51:=Tryz.underlying163
 a51:=Tryz.isAgg163
 z51:=Tryz.sizeOf163
 v51:=Tryz.zeroValue163
 t53:=Tryz.underlying82
 a53:=Tryz.isAgg82
 z53:=Tryz.sizeOf82
 v53:=Tryz.zeroValue82
 t171:=Tryz.underlying170
 a171:=Tryz.isAgg170
 z171:=Tryz.sizeOf170
 v171:=Tryz.zeroValue170
 t173:=Tryz.underlying172
 a173:=Tryz.isAgg172
 z173:=Tryz.sizeOf172
 v173:=Tryz.zeroValue172
 t212:=Tryz.underlying185
 a212:=Tryz.isAgg185
 z212:=Tryz.sizeOf185
 v212:=Tryz.zeroValue185
 t213:=Tryz.underlying186
 a213:=Tryz.isAgg186
 z213:=Tryz.sizeOf186
 t232:=Tryz.underlying190
 a232:=Tryz.isAgg190
 z232:=Tryz.sizeOf190
 v232:=Tryz.zeroValue190
 t233:=Tryz.underlying164
 a233:=Tryz.isAgg164
 z233:=Tryz.sizeOf164
 v233:=Tryz.zeroValue164
 g17:=by kernel_rfl
 g18:=by kernel_rfl
 g19:=by kernel_rfl
 i0:=by kernel_rfl
 i2:=by kernel_rfl
 i3:=by kernel_rfl
 i4:=by kernel_rfl
 i5:=by kernel_rfl
 i9:=by kernel_rfl
 i20:=by kernel_rfl
 i37:=by kernel_rfl
 i46:=by kernel_rfl
 i51:=by kernel_rfl
 i53:=by kernel_rfl
 i171:=by kernel_rfl
 i173:=by kernel_rfl
 i212:=by kernel_rfl
 i232:=by kernel_rfl
 i233:=by kernel_rfl
 m17:=by kernel_rfl
 m18:=by kernel_rfl
 m19:=by kernel_rfl }
open Go.RowKit Go.Sort Go.Lib in
theorem Tryz.strconv_Itoa (n:Int) (h0: -9223372036854775808<=n) (h1:n<=9223372036854775807) (w:World) (htab:Lib.TabIs Tryz.prog w "internal/strconv.uint64pow10" .u64 Lib.pow10Tab):
  Calls Tryz.prog 47 #[.int .i64 n] w fun e w'=>e= .returned (.string ⟨(Lib.itoa n).toArray⟩)/\∃ k os,w'=grow (w.drewN k) os:=Any.strconv_Itoa Tryz.laysM171 n h0 h1 w htab
end Go.Proofs
namespace Go.Sym
set_option linter.unusedVariables false
set_option linter.unusedSimpArgs false
open Go.Proofs Go.RowKit
set_option maxRecDepth 100000
set_option maxHeartbeats 4000000
theorem good_below {P:Program} {f:Nat} {ct:CT} [Glob] (hst:∀ x,ct.pre x->ctSt ct x=true) (h1:∀ x,ct.g1 x=[])
  (h:∀ x,ct.pre x->∀(ρ:Env) (w:World) (vals:List Value),Glob.ok ρ->DenL ρ (ct.args x) vals->HSat ρ (hget (ct.g0 x)) w->
   Calls P f vals.toArray w fun e w'=>(∃ v,e= .returned v/\Den ρ (ct.res x) v)/\Below w.heap.size w w'):Good P f ct:=by
 intro x hx
 refine⟨hst x hx,fun ρ w vals hg hv H=>(h x hx ρ w vals hg hv H).mono ?_⟩
 rintro e w' ⟨⟨v,rfl,hd⟩,hb⟩
 have e0:appH (ct.g1 x) (ct.g0 x)=ct.g0 x:=by rw[h1];rfl
 refine⟨v,ρ,rfl,hd,?_,⟨hb.os,hb.tape,hb.output,hb.size,fun k hk _=>hb.block k hk⟩,?_,fun _ _=>rfl⟩
 ·rw[e0]
  refine⟨fun y b hy=>?_,H.inj,H.scp,H.tight,fun b o h=>(hb.block b (heap_lt (H.zok b o h))).trans (H.zok b o h),H.zap⟩
  by_cases hr:b.real
  ·exact(H.blk y b hy).mono rfl (fun _ _=>rfl) (ZLe.refl _) fun pl hpl=>hb.block _ ((H.blk y b hy).lt hr hpl)
  ·exact(H.blk y b hy).unreal hr rfl
 ·rw[e0]
  exact⟨fun l b pl g1 g2 g3=>.inl ⟨l,b,pl,g1,g2,g3,rfl⟩,fun l b pl g1 g2 g3=>.inl (.inl ⟨l,b,pl,g1,g2,g3,rfl⟩),fun _ _ h=>h,fun _ h=>.inl h,
   fun b h=>h.elim .inr fun⟨l,blk,pl,q1,q2,q3,q4⟩=>.inl ⟨l,blk,pl,q1,Blk.mut_real q2,q3,q4⟩⟩
def r64 (n:Int):Prop:= -9223372036854775808<=n/\n<=9223372036854775807
def itoS (n:Int):ByteArray:=⟨(Lib.itoa n).toArray⟩
def itC1:CT where
 X:=Int
 pre:=r64
 args:=fun n=>[.i .i64 n]
 g0:=fun _=>[]
 res:=fun n=>.s (itoS n)
 g1:=fun _=>[]
theorem pow_tab {ρ:Env} {w:World} (hg:glob10.ok ρ) (hz:∀ b o,ρ.z b=some o->w.heap[b]? =some o):Lib.TabIs Tryz.prog w "internal/strconv.uint64pow10" .u64 Lib.pow10Tab:=by
 obtain⟨_,T,fz,e⟩:=hg
 have h1:=hz _ _ e
 unfold Lib.TabIs World.var?
 rw[show Tryz.prog.globalNamed "internal/strconv.uint64pow10" =some 1 by kernel_rfl,Option.bind_some,h1]
 rfl
theorem it_good:Good Tryz.prog 47 itC1/\FnOk Tryz.prog 47:=by
 refine⟨good_below (fun _ _=>rfl) (fun _=>rfl) fun x hx ρ w vals hg hv H=>?_,Tryz.f47,rfl,by decide+kernel,rfl⟩
 simp only[itC1,DenL,Den]at hv
 obtain⟨v,r,rfl,rfl,rfl⟩:=hv
 refine(Tryz.strconv_Itoa x hx.1 hx.2 w (pow_tab hg H.zok)).mono ?_
 rintro e w' ⟨rfl,k,os,rfl⟩
 exact⟨⟨_,rfl,by simp only[itC1,Den];rfl⟩,Lib.below_grow _ _ (Nat.le_refl _) _ _⟩
def joiS (xs:List ByteArray) (sep:ByteArray):ByteArray:=⟨(Lib.join (xs.map (·.data.toList)) sep.data.toList).toArray⟩
instance:Inhabited ByteArray:=⟨ByteArray.empty⟩
def joC:CT where
 X:=List ByteArray × ByteArray
 pre:=fun x=>x.1.length<=1000/\(joiS x.1 x.2).size<=1000000
 args:=fun x=>[.sl 100001 0 x.1.length,.s x.2]
 g0:=fun x=>[(100001,.rows .bor [.str] x.1.length (encL encS x.1))]
 res:=fun x=>.s (joiS x.1 x.2)
 g1:=fun _=>[]
theorem jo_good:Good Tryz.prog 48 joC/\FnOk Tryz.prog 48:=by
 refine⟨good_below (fun _ _=>rfl) (fun _=>rfl) fun x hx ρ w vals hg hv H=>?_,Tryz.f48,rfl,by decide+kernel,rfl⟩
 obtain⟨xs,sep⟩:=x
 have hlen:(Lib.join (xs.map (·.data.toList)) sep.data.toList).length<=140737488355328:=by
  have:=hx.2
  unfold joiS at this
  rw[show(ByteArray.mk (Lib.join (xs.map (·.data.toList)) sep.data.toList).toArray).size=(Lib.join (xs.map (·.data.toList)) sep.data.toList).length from by simp[ByteArray.size]]at this
  omega
 simp only[joC,DenL,Den]at hv
 obtain⟨v,r,rfl,hd,v2,r2,rfl,rfl,rfl⟩:=hv
 have hG:hget (joC.g0 (xs,sep)) 100001=some (.rows .bor [.str] xs.length (encL encS xs)):=rfl
 have nil:xs=[]->v= .slice none 0 0∨∃ a c,v= .slice a 0 c:=fun h=>by
  subst h
  rcases hd with⟨_,rfl,_⟩|⟨pl,a,_,rfl,_⟩
  ·exact .inl rfl
  ·exact .inr ⟨_,_,rfl⟩
 by_cases hx0:xs=[]
 ·have:∃ a c,v= .slice a 0 c:=(nil hx0).elim (fun h=>⟨_,_,h⟩) id
  obtain⟨a,c,rfl⟩:=this
  subst hx0
  refine(Tryz.strings_Join_none a c sep w).mono ?_
  rintro e w' ⟨rfl,rfl⟩
  exact⟨⟨_,rfl,by simp only[joC,Den];rfl⟩,Below.refl _ _⟩
 ·have hpos:0<xs.length:=List.length_pos_iff.2 hx0
  rcases hd with⟨_,_,h,_⟩|⟨pl,a,hpl,rfl,h1,h2⟩
  ·exact absurd h (by show xs.length≠0;omega)
  ·rcases H.blk _ _ hG with⟨h3,_⟩|⟨_,_,h3,_⟩|⟨pl',arr,T,fz,e1,e2,e3,_,e4,e5,e6,e7⟩
   ·rw[hpl]at h3;cases h3
   ·omega
   rw[hpl]at e1
   cases e1
   have h1:0+xs.length<=pl.cap:=h1
   have ha:=h2 (by omega)
   subst ha
   have hk:pl.k=1:=e4
   refine(Tryz.strings_Join pl.b (pl.off+0*pl.k+0) (pl.cap-0) xs sep w (fun j y hj=>?_) (heap_lt e2) (by have:=hx.1;show xs.length<=_;have:xs.length<=1000:=hx.1;omega) (by omega) hlen).mono ?_
   ·have hjl:j<xs.length:=by
     rcases Nat.lt_or_ge j xs.length with h|h
     ·exact h
     ·rw[List.getElem?_eq_none h]at hj;cases hj
    have h9:=e7 j hjl
    simp only[DenR,DenD,and_true]at h9
    obtain⟨u,g1,g2⟩:=h9
    unfold World.cell?
    rw[e2]
    simp only[Option.isSome_none,Bool.false_eq_true,if_false]
    rw[show pl.off+0*pl.k+0+j=pl.off+j*pl.k by rw[hk];omega,g1,g2]
    congr 2
    unfold encL encS D.toS
    rw[List.getD_eq_getElem?_getD,hj]
    rfl
   ·rintro e w' ⟨rfl,hb⟩
    exact⟨⟨_,rfl,by simp only[joC,Den];rfl⟩,hb⟩
theorem ba_size (a b:ByteArray):(a++b).size=a.size+b.size:=by simp
theorem joi_one (x s:ByteArray):joiS [x] s=x:=by
 unfold joiS Lib.join
 simp[List.intercalate]
theorem joi_two (x y:ByteArray) (l:List ByteArray) (s:ByteArray):joiS (x::y::l) s=x++s++joiS (y::l) s:=by
 unfold joiS Lib.join
 apply ByteArray.ext
 simp[List.intercalate]
theorem joi_size {b:Nat} (s:ByteArray):∀(xs:List ByteArray),(∀ x∈xs,x.size<=b)->(joiS xs s).size<=xs.length*(b+s.size)
 | [],_=>Nat.zero_le _
 | [x],h=>by
  rw[joi_one,List.length_singleton]
  have:=h x (by simp)
  omega
 |x::y::l,h=>by
  have h1:=joi_size s (y::l) (fun z hz=>h z (List.mem_cons_of_mem _ hz))
  have h2:=h x (by simp)
  rw[joi_two,ba_size,ba_size,List.length_cons,Nat.succ_mul]
  omega
theorem ito_size {n:Int} (h:r64 n):(itoS n).size<=21:=by
 have:=Lib.itoa_length_le n h.1 h.2
 unfold itoS
 simpa[ByteArray.size]using this
end Go.Sym
namespace Go.Sym
set_option linter.unusedVariables false
def BdD (d:List Int) (M:Int):Prop:=∀ v,at0 d v=INF∨at0 d v<=M
theorem BdD.mono {d:List Int} {M M':Int} (h:BdD d M) (hm:M<=M'):BdD d M':=fun v=>(h v).imp id (fun q=>by omega)
theorem relax_bd {N:WNet} {d:List Int} {M:Int} (hM:0<=M) (hw:∀ i,i<N.m->N.w i=INF∨N.w i<=1048576) {i:Nat} (hi:i<N.m) (h:BdD d M):BdD (relaxE N d i) (M+1048576):=by
 intro v
 unfold relaxE
 split
 ·rename_i q
  rw[at0_set]
  split
  ·have h1:=(h (N.s i)).resolve_left (by omega)
   have h2:=(hw i hi).resolve_left (by omega)
   exact .inr (by omega)
  ·exact(h v).imp id (fun q=>by omega)
 ·exact(h v).imp id (fun q=>by omega)
theorem roundAt_bd {N:WNet} {d:List Int} {M:Int} (hM:0<=M) (hw:∀ i,i<N.m->N.w i=INF∨N.w i<=1048576) (h:BdD d M):∀ k,k<=N.m->BdD (roundAt N d k) (M+1048576*k)
 |0,_=>by simpa[roundAt]using h
 |k+1,hk=>by
  rw[roundAt_succ]
  refine(relax_bd (by omega) hw (by omega) (roundAt_bd hM hw h k (by omega))).mono ?_
  omega
theorem rounds_bd {N:WNet} {d:List Int} (hw:∀ i,i<N.m->N.w i=INF∨N.w i<=1048576) (hm:N.m<=16384) (h:BdD d 0):∀ k,BdD (rounds N d k) (17179869184*k)
 |0=>by simpa[rounds]using h
 |k+1=>by
  rw[rounds_succ]
  refine(roundAt_bd (M:=17179869184*k) (by omega) hw (rounds_bd hw hm h k) N.m (Nat.le_refl _)).mono ?_
  omega
theorem dist_bd {g:Gr} (hg:GOk g) (ts src:List Int) (fwd:Bool) (v:Nat):(distG g ts src fwd).getD v default=INF∨(distG g ts src fwd).getD v default<=70368744177664:=by
 have hi:BdD (initL g.n (isSrc src)) 0:=by
  intro v
  rcases Nat.lt_or_ge v g.n with h|h
  ·rw[initL_at h]
   split
   ·exact .inr (Int.le_refl _)
   ·exact .inl rfl
  ·refine .inr ?_
   unfold at0
   rw[List.getD_eq_getElem?_getD,List.getElem?_eq_none (by simp[initL];exact h)]
   exact Int.le_refl _
 have hw:=wsOk_tt g ts
 have:=rounds_bd (N:=netG g (ttL ts g.es.length) fwd) (d:=initL g.n (isSrc src)) (fun i hi=>by
  rcases hw.ok i hi with h|h
  ·exact .inl h
  ·exact .inr h.2) hg.m hi g.n v
 have hn:=hg.n
 rcases this with h|h
 ·exact .inl h
 ·refine .inr ?_
  have h:(distG g ts src fwd).getD v default<=17179869184*(g.n:Int):=h
  omega
structure Sr where
 g:Gr
 ts:List Int
 us:List Un
 tg:List Int
def dsF (x:Sr) (a b:Int):Int:=if 0<=b/\b<x.g.n then(distG x.g x.ts [a] true).getD b.toNat default else INF
theorem dsF_r {x:Sr} (hg:GOk x.g) (a b:Int):0<=dsF x a b/\(dsF x a b=INF∨dsF x a b<=70368744177664):=by
 unfold dsF
 split
 ·rename_i h
  have h1:=dist_rng hg x.ts [a] true (v:=b.toNat) (by omega)
  exact⟨h1.1,dist_bd hg x.ts [a] true b.toNat⟩
 ·exact⟨by decide,.inl rfl⟩
def nearA (x:Sr) (t:Int) (nd:List Int) (k:Nat):Int:=(nd.take k).foldl (fun m a=>min m (dsF x a t)) INF
def nearF (x:Sr) (t:Int) (nd:List Int):Int:=nd.foldl (fun m a=>min m (dsF x a t)) INF
def waitA (x:Sr) (nd:List Int) (k:Nat):Int:=(x.tg.take k).foldl (fun w t=>max w (nearF x t nd)) 0
def waitF (x:Sr) (nd:List Int):Int:=x.tg.foldl (fun w t=>max w (nearF x t nd)) 0
structure I2x where
 a:Int
 b:Int
def cmpI (a b:Int):Int:=if a<b then -1 else if b<a then 1 else 0
theorem cmp_lt {a b:Int} (h:a<b):cmpI a b= -1:=if_pos h
theorem cmp_gt {a b:Int} (h:¬ a<b) (h2:b<a):cmpI a b=1:=by unfold cmpI;rw[if_neg h,if_pos h2]
theorem cmp_eq {a b:Int} (h:¬ a<b) (h2:¬ b<a):cmpI a b=0:=by unfold cmpI;rw[if_neg h,if_neg h2]
theorem cmp_neg {a b:Int}:cmpI a b<0↔a<b:=by unfold cmpI;split <;>(try split) <;>omega
theorem subK (i:Nat):0+((i:Int)-1).toNat=i-1:=by omega
def orF:List Int->Int
 | []=>0
 |x::r=>if x=0 then orF r else x
theorem orF_take {l:List Int} {k:Nat} (hk:k<l.length) (h:∀ z∈l.take k,z=0) (hn:l.getD k default≠0):orF l=l.getD k default:=by
 induction l generalizing k with
 |nil=>simp at hk
 |cons x r ih=>
  cases k with
  |zero=>unfold orF;rw[if_neg (by simpa using hn)];rfl
  |succ k=>
   unfold orF
   rw[if_pos (h x (by simp))]
   exact ih (by simpa using hk) (fun z hz=>h z (by simp[hz])) hn
theorem orF_none {l:List Int} (h:∀ z∈l,z=0):orF l=0:=by
 induction l with
 |nil=>rfl
 |cons x r ih=>unfold orF;rw[if_pos (h x (by simp))];exact ih fun z hz=>h z (by simp[hz])
abbrev Mv:=Int × Int
def cmpMv (a b:Mv):Int:=orF [cmpI a.1 b.1,cmpI a.2 b.2]
def cmpMs:List Mv->List Mv->Int
 | [],[]=>0
 | [],_::_=> -1
 |_::_,[]=>1
 |a::l,b::m=>if cmpMv a b≠0 then cmpMv a b else cmpMs l m
structure Bst where
 found:Bool:=false
 best:List Mv:=[]
 worst:Int:=0
 total:Int:=0
structure Pos where
 nd:List Int
 mv:List Mv:=[]
 dur:Int:=0
def betF (w:Int) (p:Pos) (b:Bst):Int:=orF [cmpI w b.worst,cmpI p.mv.length b.best.length,cmpI p.dur b.total,cmpMs p.mv b.best]
def cnF (x:Sr) (p:Pos) (b:Bst):Bst:=if b.found=false∨betF (waitF x p.nd) p b<0 then⟨true,p.mv,waitF x p.nd,p.dur⟩else b
def pushP (x:Sr) (p:Pos) (i:Nat) (t:Int):Pos:=⟨p.nd.set i t,p.mv++[((x.us.getD i default).id,t)],p.dur+dsF x (p.nd.getD i default) t⟩
def goP (x:Sr) (p:Pos) (i:Nat) (t:Int):Prop:=¬ (t=p.nd.getD i default∨dsF x (p.nd.getD i default) t=INF)
instance (x:Sr) (p:Pos) (i:Nat) (t:Int):Decidable (goP x p i t):=by unfold goP;infer_instance
def exF (x:Sr):Nat->Nat->Pos->Bst->Bst
 |0,_,p,b=>cnF x p b
 |m+1,fi0,p,b=>(List.range' fi0 (x.us.length-fi0)).foldl (fun b i=>x.tg.foldl (fun b t=>if goP x p i t then exF x m (i+1) (pushP x p i t) b else b) b) (cnF x p b)
def exT (x:Sr) (m:Nat) (p:Pos) (i:Nat) (k:Nat) (b:Bst):Bst:=(x.tg.take k).foldl (fun b t=>if goP x p i t then exF x m (i+1) (pushP x p i t) b else b) b
def exA (x:Sr) (m:Nat) (p:Pos) (fi0 i:Nat) (b:Bst):Bst:=(List.range' fi0 (i-fi0)).foldl (fun b i=>exT x m p i x.tg.length b) (cnF x p b)
theorem exA_0 {x:Sr} {m:Nat} {p:Pos} {fi0:Nat} {b:Bst}:exA x m p fi0 fi0 b=cnF x p b:=by unfold exA;rw[Nat.sub_self];rfl
theorem exA_s {x:Sr} {m:Nat} {p:Pos} {fi0 i:Nat} {b:Bst} (h:fi0<=i):exA x m p fi0 (i+1) b=exT x m p i x.tg.length (exA x m p fi0 i b):=by
 unfold exA
 rw[show i+1-fi0=(i-fi0)+1 by omega,List.range'_concat,List.foldl_append,show fi0+1*(i-fi0)=i by omega]
 rfl
theorem exT_s {x:Sr} {m:Nat} {p:Pos} {i k:Nat} {b:Bst} (h:k<x.tg.length):exT x m p i (k+1) b=if goP x p i (x.tg.getD k default)then exF x m (i+1) (pushP x p i (x.tg.getD k default)) (exT x m p i k b)else exT x m p i k b:=by
 unfold exT
 rw[take_succ_getD (d:=default) h,List.foldl_append]
 rfl
theorem exA_t {x:Sr} {m:Nat} {p:Pos} {fi0 i:Nat} {b:Bst} (h:¬ i<x.us.length) (h1:i<=x.us.length∨i=fi0):exA x m p fi0 i b=exF x (m+1) fi0 p b:=by
 have e:i-fi0=x.us.length-fi0:=by omega
 unfold exA exF
 rw[e]
 congr 1
 funext b i
 unfold exT
 rw[List.take_length]
end Go.Sym