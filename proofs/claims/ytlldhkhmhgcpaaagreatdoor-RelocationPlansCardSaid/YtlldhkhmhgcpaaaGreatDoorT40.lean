import Derived.Test.YtlldhkhmhgcpaaaGreatDoorA1
import Derived.Test.YtlldhkhmhgcpaaaGreatDoorXD
import Derived.LaidMore
import Derived.Lay
import Derived.LaidOnce
import Derived.ProofKit
import Derived.OpenShut
import Derived.Shelf.Spec.TrailingZeros
namespace Go.Sym
open Go.Proofs.YtlldhkhmhgcpaaaGreatDoor Go.Proofs Go.ChangeShapes Go.WideShapes Go.RowKit
set_option maxRecDepth 100000
theorem pow_list {H:Type}:(Rows.laid_internal_strconv_uint64pow10:DataW H)= .agg (Go.Lib.pow10Tab.map fun z:Int=>.lit (.int .u64 z)):=rfl
theorem tab_list {H:Type}:(Rows.laid_math_bits_deBruijn64tab:DataW H)= .agg (Go.Lib.deBruijn64tab.map fun n:Nat=>.lit (.int .u8 (n:Int))):=rfl
theorem tab_laid {W:World} (h:laidMetH Tryz.prog [("math/bits.deBruijn32tab",Rows.laid_math_bits_deBruijn32tab),("math/bits.deBruijn64tab",Rows.laid_math_bits_deBruijn64tab),("internal/strconv.uint64pow10",Rows.laid_internal_strconv_uint64pow10)] W):∃ TT fz,W.heap[0]? =some (.cells tabV TT fz):=by
 rw[MakeChecks.laidMetH_plain _ _ _ (by kernel_rfl)]at h
 obtain⟨ps,⟨_,_,_,_,_,_,_,_,_,_,⟨g,t,cs,fuel,p,q,hg,ht,hv,hd,_,_⟩,_⟩,_,_⟩:=h
 obtain rfl:=Option.some.inj ((show Tryz.prog.globalNamed "math/bits.deBruijn64tab" =some 0 by kernel_rfl).symm.trans hg)
 obtain rfl:=Option.some.inj ((show(Tryz.prog.globals[0]?).map (·.type)=some 164 by kernel_rfl).symm.trans ht)
 have c5:Tryz.prog.cellsOf 5=1:=by kernel_rfl
 have c1:Tryz.prog.cellsOf 164=64:=by kernel_rfl
 obtain⟨xs,m,_,ex,hlen,hl,hel⟩:=DataW.trod_array Tryz.underlying164 hd
 rw[c1]at hlen
 rw[c5]at hel
 have e3:=(Prod.mk.inj ex).1
 rw[tab_list]at e3
 have e3:=DataW.agg.inj e3
 have hcs:cs=tabV:=by
  apply Array.ext (by rw[<- Array.length_toList,hlen];rfl)
  intro i h1 h2
  have hi:i<64:=by rw[<- Array.length_toList,hlen]at h1;exact h1
  have k:=hel i hi
  rw[Nat.mul_one,List.getElem?_eq_getElem (by omega)]at k
  obtain⟨z,a,b,_⟩:=DataW.trod_int Tryz.underlying5 k
  have e4:(xs.map (·.1))[i]? =some (.lit (.int .u8 z)):=by rw[List.getElem?_map,List.getElem?_eq_getElem (by omega),Option.map_some,b]
  rw[<- e3,List.getElem?_map]at e4
  have hn:i<Go.Lib.deBruijn64tab.length:=hi
  rw[List.getElem?_eq_getElem hn,Option.map_some]at e4
  have e4:=Option.some.inj e4
  simp only[DataW.lit.injEq,Lit.int.injEq,true_and]at e4
  have a0:cs[i]? =some (.int .u8 z):=by
   have:=congrArg (fun l=>l[0]?) a
   simp only[List.getElem?_take,List.getElem?_drop,Nat.add_zero]at this
   simpa using this
  rw[Array.getElem?_eq_getElem h1]at a0
  have a0:=Option.some.inj a0
  rw[a0,<- e4]
  have e5:tabV[i]? =some (.int .u8 ((Go.Lib.deBruijn64tab[i]:Nat):Int)):=by unfold tabV;rw[List.getElem?_toArray,List.getElem?_map,List.getElem?_eq_getElem hn];rfl
  rw[Array.getElem?_eq_getElem h2]at e5
  exact(Option.some.inj e5).symm
 subst hcs
 unfold World.var? at hv
 rw[show Tryz.prog.globalNamed "math/bits.deBruijn64tab" =some 0 by kernel_rfl,Option.bind_some]at hv
 split at hv
 ·rename_i cs' TT fz hb
  cases hv
  exact⟨TT,fz,hb⟩
 ·cases hv
theorem pow_laid {W:World} (h:laidMetH Tryz.prog [("math/bits.deBruijn32tab",Rows.laid_math_bits_deBruijn32tab),("math/bits.deBruijn64tab",Rows.laid_math_bits_deBruijn64tab),("internal/strconv.uint64pow10",Rows.laid_internal_strconv_uint64pow10)] W):∃ TT fz,W.heap[1]? =some (.cells powV TT fz):=by
 rw[MakeChecks.laidMetH_plain _ _ _ (by kernel_rfl)]at h
 obtain⟨ps,⟨_,_,_,_,_,_,_,_,_,_,⟨_,_,_,_,_,_,_,_,_,_,⟨g,t,cs,fuel,p,q,hg,ht,hv,hd,_,_⟩,_⟩,_⟩,_,_⟩:=h
 obtain rfl:=Option.some.inj ((show Tryz.prog.globalNamed "internal/strconv.uint64pow10" =some 1 by kernel_rfl).symm.trans hg)
 obtain rfl:=Option.some.inj ((show(Tryz.prog.globals[1]?).map (·.type)=some 185 by kernel_rfl).symm.trans ht)
 have c5:Tryz.prog.cellsOf 82=1:=by kernel_rfl
 have c1:Tryz.prog.cellsOf 185=20:=by kernel_rfl
 obtain⟨xs,m,_,ex,hlen,hl,hel⟩:=DataW.trod_array Tryz.underlying185 hd
 rw[c1]at hlen
 rw[c5]at hel
 have e3:=(Prod.mk.inj ex).1
 rw[pow_list]at e3
 have e3:=DataW.agg.inj e3
 have hcs:cs=powV:=by
  apply Array.ext (by rw[<- Array.length_toList,hlen];rfl)
  intro i h1 h2
  have hi:i<20:=by rw[<- Array.length_toList,hlen]at h1;exact h1
  have k:=hel i hi
  rw[Nat.mul_one,List.getElem?_eq_getElem (by omega)]at k
  obtain⟨z,a,b,_⟩:=DataW.trod_int Tryz.underlying82 k
  have e4:(xs.map (·.1))[i]? =some (.lit (.int .u64 z)):=by rw[List.getElem?_map,List.getElem?_eq_getElem (by omega),Option.map_some,b]
  rw[<- e3,List.getElem?_map]at e4
  have hn:i<Go.Lib.pow10Tab.length:=hi
  rw[List.getElem?_eq_getElem hn,Option.map_some]at e4
  have e4:=Option.some.inj e4
  simp only[DataW.lit.injEq,Lit.int.injEq,true_and]at e4
  have a0:cs[i]? =some (.int .u64 z):=by
   have:=congrArg (fun l=>l[0]?) a
   simp only[List.getElem?_take,List.getElem?_drop,Nat.add_zero]at this
   simpa using this
  rw[Array.getElem?_eq_getElem h1]at a0
  have a0:=Option.some.inj a0
  rw[a0,<- e4]
  have e5:powV[i]? =some (.int .u64 (Go.Lib.pow10Tab[i])):=by unfold powV;rw[List.getElem?_toArray,List.getElem?_map,List.getElem?_eq_getElem hn];rfl
  rw[Array.getElem?_eq_getElem h2]at e5
  exact(Option.some.inj e5).symm
 subst hcs
 unfold World.var? at hv
 rw[show Tryz.prog.globalNamed "internal/strconv.uint64pow10" =some 1 by kernel_rfl,Option.bind_some]at hv
 split at hv
 ·rename_i cs' TT fz hb
  cases hv
  exact⟨TT,fz,hb⟩
 ·cases hv
theorem tabs_laid {W:World} (h:laidMetH Tryz.prog [("math/bits.deBruijn32tab",Rows.laid_math_bits_deBruijn32tab),("math/bits.deBruijn64tab",Rows.laid_math_bits_deBruijn64tab),("internal/strconv.uint64pow10",Rows.laid_internal_strconv_uint64pow10)] W):glob10.ok ⟨fun _=>none,fun b=>W.heap[b]?⟩:=⟨tab_laid h,pow_laid h⟩
end Go.Sym
namespace Go.Sym
set_option linter.unusedVariables false
open Go.Proofs Go.RowKit
set_option maxRecDepth 100000
set_option maxHeartbeats 1000000 in
theorem tz64_core (x k idx:Nat) (w:World) (hx0:((x:Int)==0)=false)
  (key:IntKind.u64.wrap (bits BinOp.and IntKind.u64 (x:Int) (IntKind.u64.wrap (-(x:Int)))*285870213051353865) / 288230376151711744=(idx:Int))
  (hi:idx<64) (hk:k<64) (hcell:w.cell? ⟨0,idx,none⟩=some (.int .u8 k)):
  Calls Tryz.prog 76 #[.int .u64 x] w fun e w'=>e= .returned (.int .i64 k)/\w'=w:=by
 go_enter Tryz.func76,Tryz.ntmps76
 go_wp2_with (simp only[key])
 go_ret
 exact⟨rfl,rfl⟩
theorem tz64_zero (w:World):Calls Tryz.prog 76 #[.int .u64 0] w fun e w'=>e= .returned (.int .i64 64)/\w'=w:=by
 go_enter Tryz.func76,Tryz.ntmps76
 go_wp2
 go_ret
 exact⟨rfl,rfl⟩
theorem tz64 (x:Nat) (hx:x<18446744073709551616) (w:World) (hT:x≠0->TabAt 0 Lib.deBruijn64tab w):
  Calls Tryz.prog 76 #[.int .u64 x] w fun e w'=>e= .returned (.int .i64 (Lib.ctz 64 x))/\w'=w:=by
 by_cases hx0:x=0
 ·subst hx0
  exact tz64_zero w
 ·obtain⟨hlow,hk⟩:=Lib.lowest_bit 64 x hx0 hx
  obtain⟨hi,htab⟩:=Lib.deBruijn64_at _ hk
  have hcell:=hT hx0 _ hi
  rw[htab]at hcell
  exact tz64_core x _ _ w (by simp;omega) (tz64_key x _ hx hx0 hlow) hi hk hcell
theorem good_pure {P:Program} {f:Nat} {ct:CT} [Glob] (hst:∀ x,ct.pre x->ctSt ct x=true) (h0:∀ x,ct.g0 x=[]) (h1:∀ x,ct.g1 x=[])
  (h:∀ x,ct.pre x->∀(ρ:Env) (w:World) (vals:List Value),Glob.ok ρ->DenL ρ (ct.args x) vals->(∀ b o,ρ.z b=some o->w.heap[b]? =some o)->Calls P f vals.toArray w fun e w'=>(∃ v,e= .returned v/\Den ρ (ct.res x) v)/\w'=w):Good P f ct:=by
 intro x hx
 refine⟨hst x hx,fun ρ w vals hg hv H=>(h x hx ρ w vals hg hv H.zok).mono ?_⟩
 rintro e w' ⟨⟨v,rfl,hd⟩,rfl⟩
 rw[h0]at H
 have e0:appH (ct.g1 x) (ct.g0 x)=[]:=by rw[h0,h1];rfl
 refine⟨v,ρ,rfl,hd,by rw[e0];exact H,⟨rfl,rfl,rfl,Nat.le_refl _,fun _ _ _=>rfl⟩,?_,fun _ _=>rfl⟩
 rw[e0]
 refine⟨fun l b pl h=>(by cases h),fun l b pl h=>(by cases h),fun _ _ h=>h,fun _ h=>.inl h,fun b h=>h.elim .inr fun⟨l,blk,pl,h1,_⟩=>(by rw[h0]at h1;cases h1)⟩
end Go.Sym
namespace Go.Sym
set_option linter.unusedVariables false
structure WOk (ws:List Nat):Prop where
 len:ws.length=64
 lt:∀ i,ws.getD i default<18446744073709551616
def nilW:List Nat:=List.replicate 64 0
def addW (ws:List Nat) (n:Int):List Nat:=ws.set (n.toNat / 64) (ws.getD (n.toNat / 64) default|||2 ^ (n.toNat%64))
def hasW (ws:List Nat) (n:Nat):Bool:=(ws.getD (n / 64) default).testBit (n%64)
theorem two64:(18446744073709551616:Nat)=2 ^ 64:=by decide
theorem u64_wrap {a:Nat} (h:a<18446744073709551616):IntKind.u64.wrap (a:Int)=a:=by
 simp only[IntKind.wrap,IntKind.signed,IntKind.bits]
 have:((a:Int)%18446744073709551616)=a:=by omega
 simpa using this
theorem ofInt_nat {a:Nat} (h:a<18446744073709551616):(BitVec.ofInt IntKind.u64.bits (a:Int)).toNat=a:=by
 have e:IntKind.u64.bits=64:=rfl
 rw[e,BitVec.ofInt_natCast,BitVec.toNat_ofNat]
 exact Nat.mod_eq_of_lt (by omega)
theorem or_u64 {a b:Nat} (ha:a<18446744073709551616) (hb:b<18446744073709551616):IntKind.u64.wrap ((BitVec.ofInt IntKind.u64.bits (a:Int)|||BitVec.ofInt IntKind.u64.bits (b:Int)).toNat:Int)=(a|||b:Nat):=by
 rw[BitVec.toNat_or,ofInt_nat ha,ofInt_nat hb]
 exact u64_wrap (by rw[two64]at *;exact Nat.or_lt_two_pow ha hb)
theorem and_u64 {a b:Nat} (ha:a<18446744073709551616) (hb:b<18446744073709551616):IntKind.u64.wrap ((BitVec.ofInt IntKind.u64.bits (a:Int)&&&BitVec.ofInt IntKind.u64.bits (b:Int)).toNat:Int)=(a&&&b:Nat):=by
 rw[BitVec.toNat_and,ofInt_nat ha,ofInt_nat hb]
 exact u64_wrap (Nat.lt_of_le_of_lt Nat.and_le_left ha)
theorem shl_u64 {n:Int} (h:0<=n/\n<64):IntKind.u64.wrap (1*2 ^ min n.toNat IntKind.u64.bits)=(2 ^ n.toNat:Nat):=by
 have e:min n.toNat IntKind.u64.bits=n.toNat:=by
  have:IntKind.u64.bits=64:=rfl
  rw[this];omega
 rw[e,Int.one_mul]
 have h2:2 ^ n.toNat<18446744073709551616:=by rw[two64];exact Nat.pow_lt_pow_right (by decide) (by omega)
 have:=u64_wrap h2
 simpa using this
theorem pow_lt64 {n:Nat} (h:n<64):2 ^ n<18446744073709551616:=by rw[two64];exact Nat.pow_lt_pow_right (by decide) h
theorem getD_set {ws:List Nat} {i j v:Nat}:(ws.set i v).getD j default=if i=j/\j<ws.length then v else ws.getD j default:=by
 simp only[List.getD_eq_getElem?_getD,List.getElem?_set]
 by_cases h:i=j
 ·subst h
  by_cases h2:i<ws.length
  ·simp[h2]
  ·simp[h2]
 ·simp[h]
theorem WOk.add {ws:List Nat} (h:WOk ws) (n:Int):WOk (addW ws n):=by
 refine⟨by unfold addW;rw[List.length_set];exact h.len,fun i=>?_⟩
 unfold addW
 rw[getD_set]
 split
 ·have h1:=h.lt (n.toNat / 64)
  have h2:=pow_lt64 (Nat.mod_lt n.toNat (by decide:0<64))
  rw[two64]at*
  exact Nat.or_lt_two_pow h1 h2
 ·exact h.lt i
theorem nilW_at (i:Nat):nilW.getD i default=0:=by
 unfold nilW
 rw[List.getD_eq_getElem?_getD,List.getElem?_replicate]
 split <;>rfl
theorem WOk.nil:WOk nilW:=⟨List.length_replicate,fun i=>by rw[nilW_at];decide⟩
theorem hasW_add {ws:List Nat} (h:WOk ws) {n:Int} (hn:0<=n/\n<4096) (k:Nat):hasW (addW ws n) k=(hasW ws k||decide (k=n.toNat)):=by
 unfold hasW addW
 rw[getD_set,h.len]
 by_cases e:n.toNat / 64=k / 64
 ·rw[if_pos ⟨e,by omega⟩,Nat.testBit_or,e,Nat.testBit_two_pow]
  congr 1
  by_cases e2:n.toNat%64=k%64
  ·have:k=n.toNat:=by omega
   simp[e2,this]
  ·have:¬ k=n.toNat:=by omega
   simp[e2,this]
 ·rw[if_neg (fun q=>e q.1)]
  have:¬ k=n.toNat:=by omega
  simp[this]
theorem hasW_nil (k:Nat):hasW nilW k=false:=by
 unfold hasW
 rw[nilW_at,Nat.zero_testBit]
theorem all_zero {ws:List Nat} (h:WOk ws) (hz:∀ r,r<64->((ws.getD r default:Nat):Int)=0):ws=nilW:=by
 apply List.ext_getElem (by rw[h.len];exact List.length_replicate.symm)
 intro i h1 h2
 have:=hz i (by rw[h.len]at h1;exact h1)
 have e:ws[i]=ws.getD i default:=by simp[List.getD_eq_getElem?_getD,h1]
 have e2:nilW[i]=nilW.getD i default:=by simp[List.getD_eq_getElem?_getD,h2]
 rw[e,e2,nilW_at]
 omega
end Go.Sym