import Derived.Test.YtpommejalaechaaDoorW8
import Derived.Test.YtpommejalaechaaDoorQ1
import Derived.Test.YtpommejalaechaaDoorXD
namespace Go.Sym
set_option linter.unusedVariables false
set_option linter.unusedSimpArgs false
open Go.Proofs
set_option maxRecDepth 100000
set_option maxHeartbeats 4000000
def arB (x:LX):List SV:=[]
set_option maxRecDepth 100000 in
theorem rb_no:Keeps cfgLn Tryd.f6 (law10 arB false) noIv:=Eq.mp (show((∀ x1:LX,((True/\plOk x1.p=false)->(∃ x3:PLX,((plOk x3=false)/\(((x1.p.n=x3.n/\((0=0/\x1.p.es.length=x3.es.length)/\((0=0/\x1.p.ts.length=x3.ts.length)/\((0=0/\x1.p.acts.length=x3.acts.length)/\True))))/\True)/\((((RLe x3.es.length x1.p.es.length)/\(RowsEq [.int .i64,.int .i64,.int .i64] x3.es.length (encL encE x1.p.es) (encL encE x3.es)))/\(((RLe x3.ts.length x1.p.ts.length)/\(RI x3.ts.length x1.p.ts x3.ts))/\(((RLe x3.acts.length x1.p.acts.length)/\(RowsEq [.int .i64,.int .i64,.int .i64] x3.acts.length (encL encA x1.p.acts) (encL encA x3.acts)))/\True)))/\(∃ x4:Unit,(True/\(True/\(True/\(true=true/\True))))))))))))=(Keeps cfgLn Tryd.f6 (law10 arB false) noIv) by kernel_rfl) (fun x1=>fun h2=>⟨(LX.p x1),
(by grind),
⟨⟨rfl,
⟨rfl,rfl⟩,
⟨rfl,rfl⟩,
⟨rfl,rfl⟩,trivial⟩,trivial⟩,
⟨⟨rl,rr⟩,
⟨rl,rr⟩,
⟨rl,rr⟩,trivial⟩,
(default),trivial,trivial,trivial,rfl,trivial⟩)
def LX.sr (x:LX):List Int:=srcL x.m.src
def kSr (x:LX) (j:Nat):List Bool:=(List.range x.m.g.n).map fun(v:Nat)=>decide ((v:Int)∈x.sr.drop j)
def kM (x:LX) (j:Nat):MS:=⟨x.m.g,x.m.ts,kSr x j,[],[],true⟩
theorem kS_at {x:LX} {j v:Nat} (h:v<x.m.g.n):(kSr x j).getD v default=decide ((v:Int)∈x.sr.drop j):=by
 unfold kSr
 rw[List.getD_eq_getElem?_getD,List.getElem?_map,List.getElem?_range h];rfl
theorem kS_len (x:LX) (j:Nat):(kSr x j).length=x.m.g.n:=by unfold kSr;simp
theorem kS_end (x:LX):kSr x x.sr.length=List.replicate x.m.g.n false:=by
 apply List.ext_getElem (by rw[kS_len];simp)
 intro i h1 h2
 rw[kS_len]at h1
 have:=kS_at (j:=x.sr.length) h1
 rw[List.getD_eq_getElem?_getD,List.getElem?_eq_getElem (by rw[kS_len];exact h1)]at this
 simpa using this
theorem kS_0 {x:LX} (h:MSok x.m):kSr x 0=x.m.src:=by
 apply List.ext_getElem (by rw[kS_len,h.src])
 intro i h1 h2
 rw[kS_len]at h1
 have:=kS_at (j:=0) h1
 rw[List.getD_eq_getElem?_getD,List.getElem?_eq_getElem (by rw[kS_len];exact h1)]at this
 have e:(kSr x 0)[i]=decide ((i:Int)∈x.sr):=this
 rw[e,Bool.eq_iff_iff,decide_eq_true_iff]
 unfold LX.sr
 rw[srcL_mem,Int.toNat_natCast,List.getD_eq_getElem?_getD,List.getElem?_eq_getElem h2]
 show _↔x.m.src[i]=true
 exact⟨fun q=>q.2.2,fun q=>⟨by omega,by omega,q⟩⟩
theorem kM_step {x:LX} (hm:MSok x.m) {j:Nat} (hj:j<=x.sr.length) (h0:0<=(j:Int)-1):addE (kM x j) (x.sr.getD (j-1) default)=0/\(addM (kM x j) (x.sr.getD (j-1) default)).src=kSr x (j-1)/\(addM (kM x j) (x.sr.getD (j-1) default)).od=true:=by
 have hlt:j-1<x.sr.length:=by omega
 have e1:x.sr.getD (j-1) default=x.sr[j-1]:=by rw[List.getD_eq_getElem?_getD,List.getElem?_eq_getElem hlt];rfl
 have hmem:x.sr.getD (j-1) default∈srcL x.m.src:=by rw[e1];exact List.getElem_mem _
 generalize hs:x.sr.getD (j-1) default=s at*
 have q:=srcL_mem.1 hmem
 have hn:=hm.src
 have hi:inN1 (kM x j) s=true:=decide_eq_true (by show 0<=s/\s<x.m.g.n;omega)
 have hd:x.sr.drop (j-1)=s::x.sr.drop j:=by
  have:=drop_getD (l:=x.sr) hlt
  rw[hs,show j-1+1=j by omega]at this;exact this
 have hp:(x.sr.drop (j-1)).Pairwise (· <·):=(srcL_sorted x.m.src).sublist (List.drop_sublist _ _)
 rw[hd]at hp
 have hno:(kM x j).src.getD s.toNat default=false:=by
  show(kSr x j).getD _ default=false
  rw[kS_at (by omega),decide_eq_false_iff_not]
  intro w
  have e:((s.toNat:Nat):Int)=s:=by omega
  rw[e]at w
  have:=(List.pairwise_cons.1 hp).1 s w
  omega
 refine⟨by unfold addE;rw[hi,hno];rfl,?_,?_⟩
 ·unfold addM;rw[if_pos ⟨hi,hno⟩]
  show(kSr x j).set s.toNat true=kSr x (j-1)
  apply List.ext_getElem (by rw[List.length_set,kS_len,kS_len])
  intro i h1 h2
  rw[List.length_set,kS_len]at h1
  have a:=kS_at (x:=x) (j:=j) h1
  have b:=kS_at (x:=x) (j:=j-1) h1
  rw[List.getD_eq_getElem?_getD,List.getElem?_eq_getElem (by rw[kS_len];exact h1)]at a b
  have a:(kSr x j)[i]'(by rw[kS_len];exact h1)=decide ((i:Int)∈x.sr.drop j):=a
  have b:(kSr x (j-1))[i]'h2=decide ((i:Int)∈x.sr.drop (j-1)):=b
  rw[List.getElem_set,b,hd]
  split
  ·exact(decide_eq_true (by rw[List.mem_cons];exact .inl (by omega))).symm
  ·rw[a];apply decide_eq_decide.2
   rw[List.mem_cons]
   exact⟨.inr,fun w=>w.elim (fun w=>absurd w (by omega)) id⟩
 ·unfold addM;split <;>rfl
theorem rb_ts {x:LX} (hm:MSok x.m):ttL x.m.ts x.m.g.es.length=x.m.ts:=by
 apply List.ext_getElem (by rw[ttL_len,hm.ts])
 intro i h1 h2
 rw[ttL_len]at h1
 have a:=ttL_at (ts:=x.m.ts) h1
 have e:tt x.m.ts i=x.m.ts.getD i default:=by
  rcases hm.tv i h2 with q|q
  ·rw[q];exact tt_no (by rw[q];omega)
  ·exact tt_yes ⟨h2,q⟩
 rw[e,List.getD_eq_getElem?_getD,List.getD_eq_getElem?_getD,List.getElem?_eq_getElem (by rw[ttL_len];exact h1),List.getElem?_eq_getElem h2]at a
 exact a
structure SD2 where
 a:SD
 b:SD
def lyC (s gl:Nat) (m:MS) (d:SD):List (Nat × Blk):=[(s,.one .own [.p gl 0 0,.sl (s+2000) 0 m.g.es.length,.sl (s+4000) 0 m.g.n,.sl 197 0 d.dist.length,.sl 198 0 d.so.length,.b d.od]),(s+2000,.rows .own k1 m.g.es.length (encL encI m.ts)),(s+4000,.rows .own kB m.g.n (encL encBo m.src)),
 (197,.rows .own k1 d.dist.length (encL encI d.dist)),(198,.rows .own k1 d.so.length (encL encI d.so))]
theorem rb_eq {y z m:MS} (h:Alk y m) (h2:Alk z m) (v:Int):tmD y v=tmD z v/\tmS y v=tmS z v:=by
 have a:rF y=rF z:=by unfold rF;rw[h.g,h.ts,h.src,h2.g,h2.ts,h2.src]
 have e1:=etm_is h.ok v
 have e2:=etm_is h2.ok v
 rw[a,e2]at e1
 exact⟨(congrArg Prod.fst e1).symm,(congrArg Prod.snd e1).symm⟩
theorem sr_l {x:LX} (h:True/\plOk x.p=true):x.sr.length<=12:=Nat.le_trans (srcL_len _) (by rw[(lm_ok h).1.src];exact(lm_l h).2.2.1)
theorem kM_go {x:LX} (h:True/\plOk x.p=true) {j:Nat} (hj:j<=x.sr.length) (h0:(j:Int)-1 ≥ 0):x.sr.getD (0+((j:Int)-1).toNat) default=x.sr.getD (j-1) default/\addE (kM x j) (x.sr.getD (j-1) default)=0/\(addM (kM x j) (x.sr.getD (j-1) default)).src=kSr x (j-1)/\(addM (kM x j) (x.sr.getD (j-1) default)).od=true:=by
 refine⟨?_,kM_step (lm_ok h).1 hj h0⟩
 rw[show 0+((j:Int)-1).toNat=j-1 by omega]
theorem rb_b0 {x:LX} (h:True/\plOk x.p=true):MSok (yS x.m ⟨0,[],[],true⟩):=by
 have q:=(lm_ok h).1
 exact⟨q.g,q.n,q.ts,q.tv,q.src,by show 0<=12;omega,by show 0<=12;omega,fun w=>by cases w⟩
def rbI (x:LX) (id:Nat):Option Inv:=match id with
 |100031=>some (cutT 31 false)
 |0=>some { X:=Nat,ok:=fun j=>j<=x.sr.length,fr:=fun j=>[(9,.i .i64 ((j:Int)-1)),(7,.p 36 0 0)],hp:=fun j=>[(36,.one .own [.p 29 0 0,.sl 2036 0 x.m.g.es.length,.sl 4036 0 x.m.g.n,.ns,.ns,.b true]),(4036,.rows .own kB x.m.g.n (encL encBo (kSr x j)))],me:=fun j=>j }
 | 2 => some { X := SD2, ok := fun s => s.a.k <= x.m.g.n /\ MSok (yS x.m s.a) /\ MSok (yS x.m s.b), fr := fun s => [(64, .i .i64 s.a.k), (3, .p 2017 0 0), (7, .p 36 0 0)], hp := fun s => lyB 17 x.m s.a ++ lyC 36 29 x.m s.b, me := fun s => x.m.g.n - s.a.k,
               inn:=fun s id=>match id with
                |100086=>some (cutT 86 false)
                |_=>none }
 |_=>none
def CB10:List (Nat × Con):=[(8,.one plYC),(9,.one awC),(17,.one (netYC .bor)),(18,.one newIC),(12,.one addNC),(11,.one timC),(10,.one srcsC),(19,.one sameC),(20,.one wiC),(21,.one equalC)]
def cfgRb:Cfg:=⟨T,[],CB10,noInv,16,{}⟩
theorem conRb:ConOk Tryd.prog cfgRb:=ConL.ok (.cons (ConL.one plY_good) (.cons (ConL.one aw_good) (.cons (ConL.one netYb_good) (.cons (ConL.one newI_good) (.cons (ConL.one addN_good) (.cons (ConL.one tim_good) (.cons (ConL.one srcs_good) (.cons (ConL.one same_good) (.cons (ConL.one wi_good) (.cons (ConL.one equal_good) .nil))))))))))
set_option maxRecDepth 100000 in
theorem rb_yes:Keeps cfgRb Tryd.f6 (law10 arB true) rbI:=Eq.mp (show((∀ x1:LX,((True/\plOk x1.p=true)->(∃ x3:PLX,((plOk x3=true)/\(((x1.p.n=x3.n/\((0=0/\x1.p.es.length=x3.es.length)/\((0=0/\x1.p.ts.length=x3.ts.length)/\((0=0/\x1.p.acts.length=x3.acts.length)/\True))))/\True)/\((((RLe x3.es.length x1.p.es.length)/\(RowsEq [.int .i64,.int .i64,.int .i64] x3.es.length (encL encE x1.p.es) (encL encE x3.es)))/\(((RLe x3.ts.length x1.p.ts.length)/\(RI x3.ts.length x1.p.ts x3.ts))/\(((RLe x3.acts.length x1.p.acts.length)/\(RowsEq [.int .i64,.int .i64,.int .i64] x3.acts.length (encL encA x1.p.acts) (encL encA x3.acts)))/\True)))/\(∃ x4:NewX,((rightB x4=true)/\(((x1.p.n=x4.n/\((0=0/\x1.p.es.length=x4.es.length)/\True))/\True)/\((((RLe x4.es.length x1.p.es.length)/\(RowsEq [.int .i64,.int .i64,.int .i64] x4.es.length (encL encE x1.p.es) (encL encE x4.es)))/\True)/\((∃ x5:Unit,(True/\(false=false/\True)))/\(∀ x6:Unit,(True->(∃ x8:NIx,((GOk x8.g)/\(((0=0/\0=0)/\((0=0/\((plM x3).g.es.length=x8.ts.length))/\True))/\(((RLe 1 1/\(RowsEq [.sl [.int .i64,.int .i64,.int .i64],.sl [.sl [.int .i64]],.sl [.sl [.int .i64]]] 1 (encG (NewX.g x4)) (encG x8.g)))/\(((RLe x8.ts.length (plM x3).g.es.length)/\(RI x8.ts.length (plM x3).ts x8.ts))/\True))/\(((decide ((0:Int)≠(0:Int))=false)->((((-9223372036854775808:Int)<=(↑(srcL (plM x3).src).length:Int)-1)/\((↑(srcL (plM x3).src).length:Int)-1<=(9223372036854775807:Int)))/\(∃ x10:Nat,(((x10<=(LX.sr x1).length)/\((((↑(srcL (plM x3).src).length:Int)-1=(x10:Int)-1)/\((0=0/\0=0)/\(((0:Int)=0)/\((0=0/\0=0)/\(true=true/\((0=0/\0=0)/\((0=0/\0=0)/\(((0=0/\0=0)/\((x3.n=x3.n/\((0=0/\((plM x3).g.es.length=(plM x3).g.es.length))/\((0=0/\((plM x3).g.es.length=(plM x3).g.es.length))/\((0=0/\((srcL (plM x3).src).length=(srcL (plM x3).src).length))/\True))))/\(true=true/\True)))/\((0=0/\0=0)/\((x1.p.n=x1.p.n/\((0=0/\x1.p.es.length=x1.p.es.length)/\((0=0/\x1.p.ts.length=x1.p.ts.length)/\((0=0/\x1.p.acts.length=x1.p.acts.length)/\True))))/\True))))))))))/\(((0=0/\0=0)/\((0=0/\(x8.g.es.length=(LX.m x1).g.es.length))/\((0=0/\(x8.g.n=(LX.m x1).g.n))/\(True/\(True/\(true=true/\True))))))/\(((RLe (LX.m x1).g.n x8.g.n)/\(RowsEq (Kd.bool::[]) (LX.m x1).g.n (encL encBo (List.replicate x8.g.n false)) (encL encBo (kSr x1 x10))))/\(((RLe x8.g.es.length x8.g.es.length)/\(RI x8.g.es.length (ttL x8.ts x8.g.es.length) (ttL x8.ts x8.g.es.length)))/\((RLe 1 1/\(RowsEq [.sl [.int .i64,.int .i64,.int .i64],.sl [.sl [.int .i64]],.sl [.sl [.int .i64]]] 1 (encG (NewX.g x4)) (encG (NewX.g x4))))/\((x3.n=x3.n/\((0=0/\((plM x3).g.es.length=(plM x3).g.es.length))/\((0=0/\((plM x3).g.es.length=(plM x3).g.es.length))/\((0=0/\((srcL (plM x3).src).length=(srcL (plM x3).src).length))/\True))))/\((RLe 1 1/\(RowsEq [.sl [.int .i64,.int .i64,.int .i64],.sl [.sl [.int .i64]],.sl [.sl [.int .i64]]] 1 (encG (plM x3).g) (encG (plM x3).g)))/\(((0=0/\0=0)/\((0=0/\((plM x3).g.es.length=(plM x3).g.es.length))/\((0=0/\((plM x3).g.n=(plM x3).g.n))/\((0=0/\((plM x3).dist.length=(plM x3).dist.length))/\((0=0/\((plM x3).so.length=(plM x3).so.length))/\(((plM x3).od=(plM x3).od)/\True))))))/\(((RLe (plM x3).g.es.length (plM x3).g.es.length)/\(RowsEq [.int .i64] (plM x3).g.es.length (encL encI (plM x3).ts) (encL encI (plM x3).ts)))/\(((RLe (plM x3).g.n (plM x3).g.n)/\(RowsEq (Kd.bool::[]) (plM x3).g.n (encL encBo (plM x3).src) (encL encBo (plM x3).src)))/\(((RLe (plM x3).dist.length (plM x3).dist.length)/\(RowsEq [.int .i64] (plM x3).dist.length (encL encI (plM x3).dist) (encL encI (plM x3).dist)))/\(((RLe (plM x3).so.length (plM x3).so.length)/\(RowsEq [.int .i64] (plM x3).so.length (encL encI (plM x3).so) (encL encI (plM x3).so)))/\(((RLe (plM x3).g.es.length (plM x3).g.es.length)/\(RowsEq [.int .i64] (plM x3).g.es.length (encL encI (plM x3).ts) (encL encI (plM x3).ts)))/\(((RLe (srcL (plM x3).src).length (srcL (plM x3).src).length)/\(RowsEq [.int .i64] (srcL (plM x3).src).length (encL encI (srcL (plM x3).src)) (encL encI (srcL (plM x3).src))))/\((x1.p.n=x1.p.n/\((0=0/\x1.p.es.length=x1.p.es.length)/\((0=0/\x1.p.ts.length=x1.p.ts.length)/\((0=0/\x1.p.acts.length=x1.p.acts.length)/\True))))/\(((RLe x1.p.es.length x1.p.es.length)/\(RowsEq [.int .i64,.int .i64,.int .i64] x1.p.es.length (encL encE x1.p.es) (encL encE x1.p.es)))/\(((RLe x1.p.ts.length x1.p.ts.length)/\(RI x1.p.ts.length x1.p.ts x1.p.ts))/\(((RLe x1.p.acts.length x1.p.acts.length)/\(RowsEq [.int .i64,.int .i64,.int .i64] x1.p.acts.length (encL encA x1.p.acts) (encL encA x1.p.acts)))/\True)))))))))))))))))))/\(∀ x11:Nat,((x11<=(LX.sr x1).length)->(((decide ((0:Int)<=(x11:Int)-1)=true)->((((0:Int)<=(x11:Int)-1)/\((x11:Int)-1<(↑(srcL (plM x3).src).length:Int)))/\((0+Int.toNat ((x11:Int)-1)<(srcL (plM x3).src).length)/\(∃ x14:MNx,(x14.m.src.length=x14.m.g.n/\(((0=0/\0=0)/\(((srcL (plM x3).src).getD (0+Int.toNat ((x11:Int)-1)) default=x14.v)/\True))/\((((0=0/\0=0)/\((0=0/\((LX.m x1).g.es.length=x14.m.g.es.length))/\((0=0/\((LX.m x1).g.n=x14.m.g.n))/\(True/\(True/\(true=x14.m.od/\True))))))/\((RLe 1 1/\(RowsEq [.sl [.int .i64,.int .i64,.int .i64],.sl [.sl [.int .i64]],.sl [.sl [.int .i64]]] 1 (encG (NewX.g x4)) (encG x14.m.g)))/\(((RLe x14.m.g.es.length x8.g.es.length)/\(RI x14.m.g.es.length (ttL x8.ts x8.g.es.length) x14.m.ts))/\(((RLe x14.m.g.n (LX.m x1).g.n)/\(RowsEq (Kd.bool::[]) x14.m.g.n (encL encBo (kSr x1 x11)) (encL encBo x14.m.src)))/\True))))/\(((decide (addE x14.m x14.v≠(0:Int))=true)->(false=true/\True))/\((decide (addE x14.m x14.v≠(0:Int))=false)->((((-9223372036854775808:Int)<=(x11:Int)-1-1)/\((x11:Int)-1-1<=(9223372036854775807:Int)))/\(∃ x17:Nat,((x17<x11)/\((x17<=(LX.sr x1).length)/\((((x11:Int)-1-1=(x17:Int)-1)/\((0=0/\0=0)/\(((0:Int)=0)/\((0=0/\0=0)/\(true=true/\((0=0/\0=0)/\((0=0/\0=0)/\(((0=0/\0=0)/\((x3.n=x3.n/\((0=0/\((plM x3).g.es.length=(plM x3).g.es.length))/\((0=0/\((plM x3).g.es.length=(plM x3).g.es.length))/\((0=0/\((srcL (plM x3).src).length=(srcL (plM x3).src).length))/\True))))/\(true=true/\True)))/\((0=0/\0=0)/\((x1.p.n=x1.p.n/\((0=0/\x1.p.es.length=x1.p.es.length)/\((0=0/\x1.p.ts.length=x1.p.ts.length)/\((0=0/\x1.p.acts.length=x1.p.acts.length)/\True))))/\True))))))))))/\(((0=0/\0=0)/\((0=0/\(x14.m.g.es.length=(LX.m x1).g.es.length))/\((0=0/\(x14.m.g.n=(LX.m x1).g.n))/\(True/\(True/\(((addM x14.m x14.v).od=true)/\True))))))/\(((RLe (LX.m x1).g.n x14.m.g.n)/\(RowsEq (Kd.bool::[]) (LX.m x1).g.n (encL encBo (addM x14.m x14.v).src) (encL encBo (kSr x1 x17))))/\(((RLe x8.g.es.length x8.g.es.length)/\(RI x8.g.es.length (ttL x8.ts x8.g.es.length) (ttL x8.ts x8.g.es.length)))/\((RLe 1 1/\(RowsEq [.sl [.int .i64,.int .i64,.int .i64],.sl [.sl [.int .i64]],.sl [.sl [.int .i64]]] 1 (encG (NewX.g x4)) (encG (NewX.g x4))))/\((x3.n=x3.n/\((0=0/\((plM x3).g.es.length=(plM x3).g.es.length))/\((0=0/\((plM x3).g.es.length=(plM x3).g.es.length))/\((0=0/\((srcL (plM x3).src).length=(srcL (plM x3).src).length))/\True))))/\((RLe 1 1/\(RowsEq [.sl [.int .i64,.int .i64,.int .i64],.sl [.sl [.int .i64]],.sl [.sl [.int .i64]]] 1 (encG (plM x3).g) (encG (plM x3).g)))/\(((0=0/\0=0)/\((0=0/\((plM x3).g.es.length=(plM x3).g.es.length))/\((0=0/\((plM x3).g.n=(plM x3).g.n))/\((0=0/\((plM x3).dist.length=(plM x3).dist.length))/\((0=0/\((plM x3).so.length=(plM x3).so.length))/\(((plM x3).od=(plM x3).od)/\True))))))/\(((RLe (plM x3).g.es.length (plM x3).g.es.length)/\(RowsEq [.int .i64] (plM x3).g.es.length (encL encI (plM x3).ts) (encL encI (plM x3).ts)))/\(((RLe (plM x3).g.n (plM x3).g.n)/\(RowsEq (Kd.bool::[]) (plM x3).g.n (encL encBo (plM x3).src) (encL encBo (plM x3).src)))/\(((RLe (plM x3).dist.length (plM x3).dist.length)/\(RowsEq [.int .i64] (plM x3).dist.length (encL encI (plM x3).dist) (encL encI (plM x3).dist)))/\(((RLe (plM x3).so.length (plM x3).so.length)/\(RowsEq [.int .i64] (plM x3).so.length (encL encI (plM x3).so) (encL encI (plM x3).so)))/\(((RLe (plM x3).g.es.length (plM x3).g.es.length)/\(RowsEq [.int .i64] (plM x3).g.es.length (encL encI (plM x3).ts) (encL encI (plM x3).ts)))/\(((RLe (srcL (plM x3).src).length (srcL (plM x3).src).length)/\(RowsEq [.int .i64] (srcL (plM x3).src).length (encL encI (srcL (plM x3).src)) (encL encI (srcL (plM x3).src))))/\((x1.p.n=x1.p.n/\((0=0/\x1.p.es.length=x1.p.es.length)/\((0=0/\x1.p.ts.length=x1.p.ts.length)/\((0=0/\x1.p.acts.length=x1.p.acts.length)/\True))))/\(((RLe x1.p.es.length x1.p.es.length)/\(RowsEq [.int .i64,.int .i64,.int .i64] x1.p.es.length (encL encE x1.p.es) (encL encE x1.p.es)))/\(((RLe x1.p.ts.length x1.p.ts.length)/\(RI x1.p.ts.length x1.p.ts x1.p.ts))/\(((RLe x1.p.acts.length x1.p.acts.length)/\(RowsEq [.int .i64,.int .i64,.int .i64] x1.p.acts.length (encL encA x1.p.acts) (encL encA x1.p.acts)))/\True)))))))))))))))))))))))))))))))/\((decide ((0:Int)<=(x11:Int)-1)=false)->(∃ x19:SD2,((((x19.a.k<=(LX.m x1).g.n)/\((MSok (yS (LX.m x1) x19.a))/\(MSok (yS (LX.m x1) x19.b))))/\(((0=(x19.a.k:Int))/\((0=0/\0=0)/\((0=0/\0=0)/\(x1.p.n=x1.p.n/\(((x11:Int)-1=(x11:Int)-1)/\(((0:Int)=0)/\((0=0/\0=0)/\(true=true/\((0=0/\0=0)/\(((0=0/\0=0)/\((x3.n=x3.n/\((0=0/\((plM x3).g.es.length=(plM x3).g.es.length))/\((0=0/\((plM x3).g.es.length=(plM x3).g.es.length))/\((0=0/\((srcL (plM x3).src).length=(srcL (plM x3).src).length))/\True))))/\(true=true/\True)))/\((0=0/\0=0)/\((x1.p.n=x1.p.n/\((0=0/\x1.p.es.length=x1.p.es.length)/\((0=0/\x1.p.ts.length=x1.p.ts.length)/\((0=0/\x1.p.acts.length=x1.p.acts.length)/\True))))/\True))))))))))))/\(((0=0/\0=0)/\((0=0/\((plM x3).g.es.length=(LX.m x1).g.es.length))/\((0=0/\((plM x3).g.n=(LX.m x1).g.n))/\((0=0/\((plM x3).dist.length=x19.a.dist.length))/\((0=0/\((plM x3).so.length=x19.a.so.length))/\(((plM x3).od=x19.a.od)/\True))))))/\(((RLe (LX.m x1).g.es.length (plM x3).g.es.length)/\(RowsEq [.int .i64] (LX.m x1).g.es.length (encL encI (plM x3).ts) (encL encI (LX.m x1).ts)))/\(((RLe (LX.m x1).g.n (plM x3).g.n)/\(RowsEq (Kd.bool::[]) (LX.m x1).g.n (encL encBo (plM x3).src) (encL encBo (LX.m x1).src)))/\(((RLe x19.a.dist.length (plM x3).dist.length)/\(RI x19.a.dist.length (plM x3).dist x19.a.dist))/\(((RLe x19.a.so.length (plM x3).so.length)/\(RI x19.a.so.length (plM x3).so x19.a.so))/\(((0=0/\0=0)/\((0=0/\((LX.m x1).g.es.length=(LX.m x1).g.es.length))/\((0=0/\((LX.m x1).g.n=(LX.m x1).g.n))/\((True/\(0=0/\(x19.b.dist.length=(0:Nat))))/\((True/\(0=0/\(x19.b.so.length=(0:Nat))))/\(true=x19.b.od/\True))))))/\(((RLe (LX.m x1).g.es.length x8.g.es.length)/\(RowsEq [.int .i64] (LX.m x1).g.es.length (encL encI (ttL x8.ts x8.g.es.length)) (encL encI (LX.m x1).ts)))/\(((RLe (LX.m x1).g.n (LX.m x1).g.n)/\(RowsEq (Kd.bool::[]) (LX.m x1).g.n (encL encBo (kSr x1 x11)) (encL encBo (LX.m x1).src)))/\((x19.b.dist.length=(0:Nat))/\((x19.b.so.length=(0:Nat))/\((RLe 1 1/\(RowsEq [.sl [.int .i64,.int .i64,.int .i64],.sl [.sl [.int .i64]],.sl [.sl [.int .i64]]] 1 (encG (NewX.g x4)) (encG (NewX.g x4))))/\((x3.n=x3.n/\((0=0/\((plM x3).g.es.length=(plM x3).g.es.length))/\((0=0/\((plM x3).g.es.length=(plM x3).g.es.length))/\((0=0/\((srcL (plM x3).src).length=(srcL (plM x3).src).length))/\True))))/\((RLe 1 1/\(RowsEq [.sl [.int .i64,.int .i64,.int .i64],.sl [.sl [.int .i64]],.sl [.sl [.int .i64]]] 1 (encG (plM x3).g) (encG (plM x3).g)))/\(((RLe (plM x3).g.es.length (plM x3).g.es.length)/\(RowsEq [.int .i64] (plM x3).g.es.length (encL encI (plM x3).ts) (encL encI (plM x3).ts)))/\(((RLe (srcL (plM x3).src).length (srcL (plM x3).src).length)/\(RowsEq [.int .i64] (srcL (plM x3).src).length (encL encI (srcL (plM x3).src)) (encL encI (srcL (plM x3).src))))/\((x1.p.n=x1.p.n/\((0=0/\x1.p.es.length=x1.p.es.length)/\((0=0/\x1.p.ts.length=x1.p.ts.length)/\((0=0/\x1.p.acts.length=x1.p.acts.length)/\True))))/\(((RLe x1.p.es.length x1.p.es.length)/\(RowsEq [.int .i64,.int .i64,.int .i64] x1.p.es.length (encL encE x1.p.es) (encL encE x1.p.es)))/\(((RLe x1.p.ts.length x1.p.ts.length)/\(RI x1.p.ts.length x1.p.ts x1.p.ts))/\(((RLe x1.p.acts.length x1.p.acts.length)/\(RowsEq [.int .i64,.int .i64,.int .i64] x1.p.acts.length (encL encA x1.p.acts) (encL encA x1.p.acts)))/\True)))))))))))))))))))))/\(∀ x20:SD2,((x20.a.k<=(LX.m x1).g.n/\MSok (yS (LX.m x1) x20.a)/\MSok (yS (LX.m x1) x20.b))->(((decide ((x20.a.k:Int)<x1.p.n)=true)->(∃ x23:MNx,((MSok x23.m)/\(((0=0/\0=0)/\(((x20.a.k:Int)=x23.v)/\True))/\((((0=0/\0=0)/\((0=0/\((LX.m x1).g.es.length=x23.m.g.es.length))/\((0=0/\((LX.m x1).g.n=x23.m.g.n))/\((0=0/\x20.a.dist.length=x23.m.dist.length)/\((0=0/\x20.a.so.length=x23.m.so.length)/\(x20.a.od=x23.m.od/\True))))))/\((RLe 1 1/\(RowsEq [.sl [.int .i64,.int .i64,.int .i64],.sl [.sl [.int .i64]],.sl [.sl [.int .i64]]] 1 (encG (plM x3).g) (encG x23.m.g)))/\(((RLe x23.m.g.es.length (LX.m x1).g.es.length)/\(RI x23.m.g.es.length (LX.m x1).ts x23.m.ts))/\(((RLe x23.m.g.n (LX.m x1).g.n)/\(RowsEq (Kd.bool::[]) x23.m.g.n (encL encBo (LX.m x1).src) (encL encBo x23.m.src)))/\(((RLe x23.m.dist.length x20.a.dist.length)/\(RI x23.m.dist.length x20.a.dist x23.m.dist))/\(((RLe x23.m.so.length x20.a.so.length)/\(RI x23.m.so.length x20.a.so x23.m.so))/\True))))))/\(∃ x24:MNx,((MSok x24.m)/\(((0=0/\0=0)/\(((x20.a.k:Int)=x24.v)/\True))/\((((0=0/\0=0)/\((0=0/\((LX.m x1).g.es.length=x24.m.g.es.length))/\((0=0/\((LX.m x1).g.n=x24.m.g.n))/\((0=0/\x20.b.dist.length=x24.m.dist.length)/\((0=0/\x20.b.so.length=x24.m.so.length)/\(x20.b.od=x24.m.od/\True))))))/\((RLe 1 1/\(RowsEq [.sl [.int .i64,.int .i64,.int .i64],.sl [.sl [.int .i64]],.sl [.sl [.int .i64]]] 1 (encG (NewX.g x4)) (encG x24.m.g)))/\(((RLe x24.m.g.es.length (LX.m x1).g.es.length)/\(RI x24.m.g.es.length (LX.m x1).ts x24.m.ts))/\(((RLe x24.m.g.n (LX.m x1).g.n)/\(RowsEq (Kd.bool::[]) x24.m.g.n (encL encBo (LX.m x1).src) (encL encBo x24.m.src)))/\(((RLe x24.m.dist.length x20.b.dist.length)/\(RI x24.m.dist.length x20.b.dist x24.m.dist))/\(((RLe x24.m.so.length x20.b.so.length)/\(RI x24.m.so.length x20.b.so x24.m.so))/\True))))))/\((((decide (tmD x23.m x23.v≠tmD x24.m x24.v)=false)->(∃ x26:Unit,(True/\((decide (tmS x23.m x23.v≠tmS x24.m x24.v)=false)/\True))))/\((decide (tmD x23.m x23.v≠tmD x24.m x24.v)=true)->(∃ x28:Unit,(True/\(true=false/\True)))))/\(∀ x29:Unit,(True->((((-9223372036854775808:Int)<=(x20.a.k:Int)+1)/\((x20.a.k:Int)+1<=(9223372036854775807:Int)))/\(∃ x31:SD2,(((LX.m x1).g.n-x31.a.k<(LX.m x1).g.n-x20.a.k)/\(((x31.a.k<=(LX.m x1).g.n)/\((MSok (yS (LX.m x1) x31.a))/\(MSok (yS (LX.m x1) x31.b))))/\((((x20.a.k:Int)+1=(x31.a.k:Int))/\((0=0/\0=0)/\((0=0/\0=0)/\(x1.p.n=x1.p.n/\(((x11:Int)-1=(x11:Int)-1)/\(((0:Int)=0)/\((0=0/\0=0)/\(true=true/\((0=0/\0=0)/\(((0=0/\0=0)/\((x3.n=x3.n/\((0=0/\((plM x3).g.es.length=(plM x3).g.es.length))/\((0=0/\((plM x3).g.es.length=(plM x3).g.es.length))/\((0=0/\((srcL (plM x3).src).length=(srcL (plM x3).src).length))/\True))))/\(true=true/\True)))/\((0=0/\0=0)/\((x1.p.n=x1.p.n/\((0=0/\x1.p.es.length=x1.p.es.length)/\((0=0/\x1.p.ts.length=x1.p.ts.length)/\((0=0/\x1.p.acts.length=x1.p.acts.length)/\True))))/\True))))))))))))/\(((0=0/\0=0)/\((0=0/\(x23.m.g.es.length=(LX.m x1).g.es.length))/\((0=0/\(x23.m.g.n=(LX.m x1).g.n))/\((0=0/\((tmM x23.m x23.v).dist.length=x31.a.dist.length))/\((0=0/\((tmM x23.m x23.v).so.length=x31.a.so.length))/\(((tmM x23.m x23.v).od=x31.a.od)/\True))))))/\(((RLe (LX.m x1).g.es.length (LX.m x1).g.es.length)/\(RowsEq [.int .i64] (LX.m x1).g.es.length (encL encI (LX.m x1).ts) (encL encI (LX.m x1).ts)))/\(((RLe (LX.m x1).g.n (LX.m x1).g.n)/\(RowsEq (Kd.bool::[]) (LX.m x1).g.n (encL encBo (LX.m x1).src) (encL encBo (LX.m x1).src)))/\(((RLe x31.a.dist.length (tmM x23.m x23.v).dist.length)/\(RI x31.a.dist.length (tmM x23.m x23.v).dist x31.a.dist))/\(((RLe x31.a.so.length (tmM x23.m x23.v).so.length)/\(RI x31.a.so.length (tmM x23.m x23.v).so x31.a.so))/\(((0=0/\0=0)/\((0=0/\(x24.m.g.es.length=(LX.m x1).g.es.length))/\((0=0/\(x24.m.g.n=(LX.m x1).g.n))/\((0=0/\((tmM x24.m x24.v).dist.length=x31.b.dist.length))/\((0=0/\((tmM x24.m x24.v).so.length=x31.b.so.length))/\(((tmM x24.m x24.v).od=x31.b.od)/\True))))))/\(((RLe (LX.m x1).g.es.length (LX.m x1).g.es.length)/\(RowsEq [.int .i64] (LX.m x1).g.es.length (encL encI (LX.m x1).ts) (encL encI (LX.m x1).ts)))/\(((RLe (LX.m x1).g.n (LX.m x1).g.n)/\(RowsEq (Kd.bool::[]) (LX.m x1).g.n (encL encBo (LX.m x1).src) (encL encBo (LX.m x1).src)))/\(((RLe x31.b.dist.length (tmM x24.m x24.v).dist.length)/\(RI x31.b.dist.length (tmM x24.m x24.v).dist x31.b.dist))/\(((RLe x31.b.so.length (tmM x24.m x24.v).so.length)/\(RI x31.b.so.length (tmM x24.m x24.v).so x31.b.so))/\((RLe 1 1/\(RowsEq [.sl [.int .i64,.int .i64,.int .i64],.sl [.sl [.int .i64]],.sl [.sl [.int .i64]]] 1 (encG (NewX.g x4)) (encG (NewX.g x4))))/\((x3.n=x3.n/\((0=0/\((plM x3).g.es.length=(plM x3).g.es.length))/\((0=0/\((plM x3).g.es.length=(plM x3).g.es.length))/\((0=0/\((srcL (plM x3).src).length=(srcL (plM x3).src).length))/\True))))/\((RLe 1 1/\(RowsEq [.sl [.int .i64,.int .i64,.int .i64],.sl [.sl [.int .i64]],.sl [.sl [.int .i64]]] 1 (encG (plM x3).g) (encG (plM x3).g)))/\(((RLe (plM x3).g.es.length (plM x3).g.es.length)/\(RowsEq [.int .i64] (plM x3).g.es.length (encL encI (plM x3).ts) (encL encI (plM x3).ts)))/\(((RLe (srcL (plM x3).src).length (srcL (plM x3).src).length)/\(RowsEq [.int .i64] (srcL (plM x3).src).length (encL encI (srcL (plM x3).src)) (encL encI (srcL (plM x3).src))))/\((x1.p.n=x1.p.n/\((0=0/\x1.p.es.length=x1.p.es.length)/\((0=0/\x1.p.ts.length=x1.p.ts.length)/\((0=0/\x1.p.acts.length=x1.p.acts.length)/\True))))/\(((RLe x1.p.es.length x1.p.es.length)/\(RowsEq [.int .i64,.int .i64,.int .i64] x1.p.es.length (encL encE x1.p.es) (encL encE x1.p.es)))/\(((RLe x1.p.ts.length x1.p.ts.length)/\(RI x1.p.ts.length x1.p.ts x1.p.ts))/\(((RLe x1.p.acts.length x1.p.acts.length)/\(RowsEq [.int .i64,.int .i64,.int .i64] x1.p.acts.length (encL encA x1.p.acts) (encL encA x1.p.acts)))/\True))))))))))))))))))))))))))))))))))))/\((decide ((x20.a.k:Int)<x1.p.n)=false)->(∃ x33:MS,((x33.src.length=x33.g.n/\(x33.g.n<=(12:Nat)))/\(((0=0/\0=0)/\True)/\((((0=0/\0=0)/\((0=0/\((LX.m x1).g.es.length=x33.g.es.length))/\((0=0/\((LX.m x1).g.n=x33.g.n))/\((0=0/\x20.a.dist.length=x33.dist.length)/\((0=0/\x20.a.so.length=x33.so.length)/\(x20.a.od=x33.od/\True))))))/\((RLe 1 1/\(RowsEq [.sl [.int .i64,.int .i64,.int .i64],.sl [.sl [.int .i64]],.sl [.sl [.int .i64]]] 1 (encG (plM x3).g) (encG x33.g)))/\(((RLe x33.g.es.length (LX.m x1).g.es.length)/\(RI x33.g.es.length (LX.m x1).ts x33.ts))/\(((RLe x33.g.n (LX.m x1).g.n)/\(RowsEq (Kd.bool::[]) x33.g.n (encL encBo (LX.m x1).src) (encL encBo x33.src)))/\(((RLe x33.dist.length x20.a.dist.length)/\(RI x33.dist.length x20.a.dist x33.dist))/\(((RLe x33.so.length x20.a.so.length)/\(RI x33.so.length x20.a.so x33.so))/\True))))))/\(∃ x34:MS,((x34.src.length=x34.g.n/\(x34.g.n<=(12:Nat)))/\(((0=0/\0=0)/\True)/\((((0=0/\0=0)/\((0=0/\((LX.m x1).g.es.length=x34.g.es.length))/\((0=0/\((LX.m x1).g.n=x34.g.n))/\((0=0/\x20.b.dist.length=x34.dist.length)/\((0=0/\x20.b.so.length=x34.so.length)/\(x20.b.od=x34.od/\True))))))/\((RLe 1 1/\(RowsEq [.sl [.int .i64,.int .i64,.int .i64],.sl [.sl [.int .i64]],.sl [.sl [.int .i64]]] 1 (encG (NewX.g x4)) (encG x34.g)))/\(((RLe x34.g.es.length (LX.m x1).g.es.length)/\(RI x34.g.es.length (LX.m x1).ts x34.ts))/\(((RLe x34.g.n (LX.m x1).g.n)/\(RowsEq (Kd.bool::[]) x34.g.n (encL encBo (LX.m x1).src) (encL encBo x34.src)))/\(((RLe x34.dist.length x20.b.dist.length)/\(RI x34.dist.length x20.b.dist x34.dist))/\(((RLe x34.so.length x20.b.so.length)/\(RI x34.so.length x20.b.so x34.so))/\True))))))/\(∃ x35:LLX,((x35.a.length<=(1073741824:Nat))/\(((0=0/\((srcL x33.src).length=x35.a.length))/\((0=0/\((srcL x34.src).length=x35.b.length))/\True))/\((((RLe x35.a.length (srcL x33.src).length)/\(RI x35.a.length (srcL x33.src) x35.a))/\(((RLe x35.b.length (srcL x34.src).length)/\(RI x35.b.length (srcL x34.src) x35.b))/\True))/\(((decide (x35.a=x35.b)=true)->(∃ x37:MNx,((MSok x37.m)/\(((0=0/\0=0)/\(4611686018427387904=x37.v/\True))/\((((0=0/\0=0)/\((0=0/\((LX.m x1).g.es.length=x37.m.g.es.length))/\((0=0/\((LX.m x1).g.n=x37.m.g.n))/\((0=0/\x20.a.dist.length=x37.m.dist.length)/\((0=0/\x20.a.so.length=x37.m.so.length)/\(x20.a.od=x37.m.od/\True))))))/\((RLe 1 1/\(RowsEq [.sl [.int .i64,.int .i64,.int .i64],.sl [.sl [.int .i64]],.sl [.sl [.int .i64]]] 1 (encG (plM x3).g) (encG x37.m.g)))/\(((RLe x37.m.g.es.length (LX.m x1).g.es.length)/\(RI x37.m.g.es.length (LX.m x1).ts x37.m.ts))/\(((RLe x37.m.g.n (LX.m x1).g.n)/\(RowsEq (Kd.bool::[]) x37.m.g.n (encL encBo (LX.m x1).src) (encL encBo x37.m.src)))/\(((RLe x37.m.dist.length x20.a.dist.length)/\(RI x37.m.dist.length x20.a.dist x37.m.dist))/\(((RLe x37.m.so.length x20.a.so.length)/\(RI x37.m.so.length x20.a.so x37.m.so))/\True))))))/\(∃ x38:MNx,((MSok x38.m)/\(((0=0/\0=0)/\(4611686018427387904=x38.v/\True))/\((((0=0/\0=0)/\((0=0/\((LX.m x1).g.es.length=x38.m.g.es.length))/\((0=0/\((LX.m x1).g.n=x38.m.g.n))/\((0=0/\x20.b.dist.length=x38.m.dist.length)/\((0=0/\x20.b.so.length=x38.m.so.length)/\(x20.b.od=x38.m.od/\True))))))/\((RLe 1 1/\(RowsEq [.sl [.int .i64,.int .i64,.int .i64],.sl [.sl [.int .i64]],.sl [.sl [.int .i64]]] 1 (encG (NewX.g x4)) (encG x38.m.g)))/\(((RLe x38.m.g.es.length (LX.m x1).g.es.length)/\(RI x38.m.g.es.length (LX.m x1).ts x38.m.ts))/\(((RLe x38.m.g.n (LX.m x1).g.n)/\(RowsEq (Kd.bool::[]) x38.m.g.n (encL encBo (LX.m x1).src) (encL encBo x38.m.src)))/\(((RLe x38.m.dist.length x20.b.dist.length)/\(RI x38.m.dist.length x20.b.dist x38.m.dist))/\(((RLe x38.m.so.length x20.b.so.length)/\(RI x38.m.so.length x20.b.so x38.m.so))/\True))))))/\(∃ x39:TwoX,(((WOk x39.a)/\(WOk x39.b))/\((((szW (ofW (wiL (MS.dI x37.m) x37.v) (wiL (MS.dI x37.m) x37.v).length)=szW x39.a)/\True)/\(((szW (ofW (wiL (MS.dI x38.m) x38.v) (wiL (MS.dI x38.m) x38.v).length)=szW x39.b)/\True)/\True))/\((((RLe (szW x39.a) (szW (ofW (wiL (MS.dI x37.m) x37.v) (wiL (MS.dI x37.m) x37.v).length)))/\(RowsEq [.int .u64] (szW x39.a) (encL encW (ofW (wiL (MS.dI x37.m) x37.v) (wiL (MS.dI x37.m) x37.v).length)) (encL encW x39.a)))/\(((RLe (szW x39.b) (szW (ofW (wiL (MS.dI x38.m) x38.v) (wiL (MS.dI x38.m) x38.v).length)))/\(RowsEq [.int .u64] (szW x39.b) (encL encW (ofW (wiL (MS.dI x38.m) x38.v) (wiL (MS.dI x38.m) x38.v).length)) (encL encW x39.b)))/\True))/\(((decide (x39.a=x39.b)=true)->(∃ x41:Unit,(True/\(True/\(True/\(true=true/\True))))))/\((decide (x39.a=x39.b)=false)->(false=true/\True))))))))))))))))/\((decide (x35.a=x35.b)=false)->(false=true/\True)))))))))))))))))))))))))))))/\((decide ((0:Int)≠(0:Int))=true)->(false=true/\True)))))))))))))))))))))=(Keeps cfgRb Tryd.f6 (law10 arB true) rbI) by kernel_rfl) (fun x1=>fun h2=>⟨(LX.p x1),
(by grind),
⟨⟨rfl,
⟨rfl,rfl⟩,
⟨rfl,rfl⟩,
⟨rfl,rfl⟩,trivial⟩,trivial⟩,
⟨⟨rl,rr⟩,
⟨rl,rr⟩,
⟨rl,rr⟩,trivial⟩,
(PLX.nw (LX.p x1)),
((plOk_iff.1 h2.2).1),
⟨⟨rfl,
⟨rfl,rfl⟩,trivial⟩,trivial⟩,
⟨⟨⟨(Nat.le_refl _)⟩,rr⟩,trivial⟩,
⟨(default),trivial,rfl,trivial⟩,
fun x6=>fun h7=>⟨({ g:=MS.g (LX.m x1),ts:=MS.ts (LX.m x1):NIx }),
((lm_ok h2).1.g),
⟨⟨rfl,rfl⟩,
⟨rfl,
((lm_ok h2).1.ts.symm)⟩,trivial⟩,
⟨⟨rl,
(rowsG (lm_ok h2).2.1.symm)⟩,
⟨⟨(Nat.le_of_eq (lm_ok h2).1.ts)⟩,rr⟩,trivial⟩,
fun g9=>have h9:=dF g9;⟨⟨(by omega),
(by have:(srcL (plM x1.p).src).length<=12:=sr_l h2;omega)⟩,
(List.length (LX.sr x1)),
⟨(by omega),
⟨(by have:x1.sr.length=(srcL (plM x1.p).src).length:=rfl;omega),
⟨rfl,rfl⟩,rfl,
⟨rfl,rfl⟩,rfl,
⟨rfl,rfl⟩,
⟨rfl,rfl⟩,
⟨⟨rfl,rfl⟩,
⟨rfl,
⟨rfl,rfl⟩,
⟨rfl,rfl⟩,
⟨rfl,rfl⟩,trivial⟩,rfl,trivial⟩,
⟨rfl,rfl⟩,
⟨rfl,
⟨rfl,rfl⟩,
⟨rfl,rfl⟩,
⟨rfl,rfl⟩,trivial⟩,trivial⟩,
⟨⟨rfl,rfl⟩,
⟨rfl,rfl⟩,
⟨rfl,rfl⟩,trivial,trivial,rfl,trivial⟩,
⟨rl,
(rowsE (kS_end x1).symm)⟩,
⟨rl,rr⟩,
⟨rl,rr⟩,
⟨rfl,
⟨rfl,rfl⟩,
⟨rfl,rfl⟩,
⟨rfl,rfl⟩,trivial⟩,
⟨rl,rr⟩,
⟨⟨rfl,rfl⟩,
⟨rfl,rfl⟩,
⟨rfl,rfl⟩,
⟨rfl,rfl⟩,
⟨rfl,rfl⟩,rfl,trivial⟩,
⟨rl,rr⟩,
⟨rl,rr⟩,
⟨rl,rr⟩,
⟨rl,rr⟩,
⟨rl,rr⟩,
⟨rl,rr⟩,
⟨rfl,
⟨rfl,rfl⟩,
⟨rfl,rfl⟩,
⟨rfl,rfl⟩,trivial⟩,
⟨rl,rr⟩,
⟨rl,rr⟩,
⟨rl,rr⟩,trivial⟩,
fun x11=>fun h12=>⟨fun g13=>have h13:=dT g13;⟨⟨(by omega),
(by have:x1.sr.length=(srcL (plM x1.p).src).length:=rfl;omega)⟩,
(by have:x1.sr.length=(srcL (plM x1.p).src).length:=rfl;omega),
({ m:=kM x1 x11,v:=List.getD (LX.sr x1) (x11-(1:Nat)) default:MNx }),
((kS_len x1 x11)),
⟨⟨rfl,rfl⟩,
((kM_go h2 h12 h13).1),trivial⟩,
⟨⟨⟨rfl,rfl⟩,
⟨rfl,rfl⟩,
⟨rfl,rfl⟩,trivial,trivial,rfl,trivial⟩,
⟨rl,
(rowsG (lm_ok h2).2.1.symm)⟩,
⟨⟨(Nat.le_refl _)⟩,
(rowsE (rb_ts (lm_ok h2).1))⟩,
⟨⟨(Nat.le_refl _)⟩,rr⟩,trivial⟩,
fun g15=>have h15:=dT g15;⟨(by exact absurd (kM_go h2 h12 h13).2.1 ‹_›),trivial⟩,
fun g16=>have h16:=dF g16;⟨⟨(by omega),
(by have:x1.sr.length<=12:=sr_l h2;omega)⟩,
(x11-(1:Nat)),
(by omega),
(by omega),
⟨(by omega),
⟨rfl,rfl⟩,rfl,
⟨rfl,rfl⟩,rfl,
⟨rfl,rfl⟩,
⟨rfl,rfl⟩,
⟨⟨rfl,rfl⟩,
⟨rfl,
⟨rfl,rfl⟩,
⟨rfl,rfl⟩,
⟨rfl,rfl⟩,trivial⟩,rfl,trivial⟩,
⟨rfl,rfl⟩,
⟨rfl,
⟨rfl,rfl⟩,
⟨rfl,rfl⟩,
⟨rfl,rfl⟩,trivial⟩,trivial⟩,
⟨⟨rfl,rfl⟩,
⟨rfl,rfl⟩,
⟨rfl,rfl⟩,trivial,trivial,
((kM_go h2 h12 h13).2.2.2),trivial⟩,
⟨⟨(Nat.le_refl _)⟩,
(rowsE (kM_go h2 h12 h13).2.2.1)⟩,
⟨rl,rr⟩,
⟨rl,rr⟩,
⟨rfl,
⟨rfl,rfl⟩,
⟨rfl,rfl⟩,
⟨rfl,rfl⟩,trivial⟩,
⟨rl,rr⟩,
⟨⟨rfl,rfl⟩,
⟨rfl,rfl⟩,
⟨rfl,rfl⟩,
⟨rfl,rfl⟩,
⟨rfl,rfl⟩,rfl,trivial⟩,
⟨rl,rr⟩,
⟨rl,rr⟩,
⟨rl,rr⟩,
⟨rl,rr⟩,
⟨rl,rr⟩,
⟨rl,rr⟩,
⟨rfl,
⟨rfl,rfl⟩,
⟨rfl,rfl⟩,
⟨rfl,rfl⟩,trivial⟩,
⟨rl,rr⟩,
⟨rl,rr⟩,
⟨rl,rr⟩,trivial⟩⟩,
fun g18=>have h18:=dF g18;⟨({ a:=sD (0:Nat) (LX.m x1),b:={ k:=(0:Nat),dist:=@List.nil Int,so:=@List.nil Int,od:=true:SD }:SD2 }),
⟨⟨(Nat.zero_le _),
((lm_ok h2).1),
(rb_b0 h2)⟩,
⟨rfl,
⟨rfl,rfl⟩,
⟨rfl,rfl⟩,rfl,rfl,rfl,
⟨rfl,rfl⟩,rfl,
⟨rfl,rfl⟩,
⟨⟨rfl,rfl⟩,
⟨rfl,
⟨rfl,rfl⟩,
⟨rfl,rfl⟩,
⟨rfl,rfl⟩,trivial⟩,rfl,trivial⟩,
⟨rfl,rfl⟩,
⟨rfl,
⟨rfl,rfl⟩,
⟨rfl,rfl⟩,
⟨rfl,rfl⟩,trivial⟩,trivial⟩,
⟨⟨rfl,rfl⟩,
⟨rfl,rfl⟩,
⟨rfl,rfl⟩,
⟨rfl,rfl⟩,
⟨rfl,rfl⟩,rfl,trivial⟩,
⟨⟨(Nat.le_refl _)⟩,rr⟩,
⟨⟨(Nat.le_refl _)⟩,rr⟩,
⟨⟨(Nat.le_refl _)⟩,rr⟩,
⟨⟨(Nat.le_refl _)⟩,rr⟩,
⟨⟨rfl,rfl⟩,
⟨rfl,rfl⟩,
⟨rfl,rfl⟩,
⟨trivial,rfl,
(by grind)⟩,
⟨trivial,rfl,
(by grind)⟩,rfl,trivial⟩,
⟨rl,
(rowsE (rb_ts (lm_ok h2).1))⟩,
⟨rl,
(by rw[show x11=0 by omega];exact rowsE (kS_0 (lm_ok h2).1))⟩,
(by grind),
(by grind),
⟨rl,rr⟩,
⟨rfl,
⟨rfl,rfl⟩,
⟨rfl,rfl⟩,
⟨rfl,rfl⟩,trivial⟩,
⟨rl,rr⟩,
⟨rl,rr⟩,
⟨rl,rr⟩,
⟨rfl,
⟨rfl,rfl⟩,
⟨rfl,rfl⟩,
⟨rfl,rfl⟩,trivial⟩,
⟨rl,rr⟩,
⟨rl,rr⟩,
⟨rl,rr⟩,trivial⟩,
fun x20=>fun h21=>⟨fun g22=>have h22:=dT g22;⟨({ m:=yS (LX.m x1) (SD2.a x20),v:=(↑(SD.k (SD2.a x20)):Int):MNx }),
(by grind),
⟨⟨rfl,rfl⟩,rfl,trivial⟩,
⟨⟨⟨rfl,rfl⟩,
⟨rfl,rfl⟩,
⟨rfl,rfl⟩,
⟨rfl,rfl⟩,
⟨rfl,rfl⟩,rfl,trivial⟩,
⟨rl,rr⟩,
⟨⟨(Nat.le_refl _)⟩,rr⟩,
⟨⟨(Nat.le_refl _)⟩,rr⟩,
⟨⟨(Nat.le_refl _)⟩,rr⟩,
⟨⟨(Nat.le_refl _)⟩,rr⟩,trivial⟩,
({ m:=yS (LX.m x1) (SD2.b x20),v:=(↑(SD.k (SD2.a x20)):Int):MNx }),
(by grind),
⟨⟨rfl,rfl⟩,rfl,trivial⟩,
⟨⟨⟨rfl,rfl⟩,
⟨rfl,rfl⟩,
⟨rfl,rfl⟩,
⟨rfl,rfl⟩,
⟨rfl,rfl⟩,rfl,trivial⟩,
⟨rl,
(rowsG (lm_ok h2).2.1.symm)⟩,
⟨⟨(Nat.le_refl _)⟩,rr⟩,
⟨⟨(Nat.le_refl _)⟩,rr⟩,
⟨⟨(Nat.le_refl _)⟩,rr⟩,
⟨⟨(Nat.le_refl _)⟩,rr⟩,trivial⟩,
⟨fun g25=>have h25:=dF g25;⟨(default),trivial,
(decide_eq_false (fun q=>q (rb_eq (yS_alk h21.2.1) (yS_alk h21.2.2) _).2)),trivial⟩,
fun g27=>have h27:=dT g27;⟨(default),trivial,
(by exact absurd (rb_eq (yS_alk h21.2.1) (yS_alk h21.2.2) _).1 ‹_›),trivial⟩⟩,
fun x29=>fun h30=>⟨⟨(by omega),
(by have:=(pl_n h2.2).2.1;omega)⟩,
({ a:=sD (SD.k (SD2.a x20)+(1:Nat)) (tmM (yS (LX.m x1) (SD2.a x20)) (↑(SD.k (SD2.a x20)):Int)),b:=sD (0:Nat) (tmM (yS (LX.m x1) (SD2.b x20)) (↑(SD.k (SD2.a x20)):Int)):SD2 }),
(by have:=(lm_ok h2).2.2;have:x1.m.g.n=(plM x1.p).g.n:=rfl;show x1.m.g.n-(x20.a.k+1)<x1.m.g.n-x20.a.k;omega),
⟨(by have:=(lm_ok h2).2.2;have:x1.m.g.n=(plM x1.p).g.n:=rfl;show x20.a.k+1<=x1.m.g.n;omega),
(yS_tm h21.2.1 _ _),
(yS_tm h21.2.2 _ _)⟩,
⟨rfl,
⟨rfl,rfl⟩,
⟨rfl,rfl⟩,rfl,rfl,rfl,
⟨rfl,rfl⟩,rfl,
⟨rfl,rfl⟩,
⟨⟨rfl,rfl⟩,
⟨rfl,
⟨rfl,rfl⟩,
⟨rfl,rfl⟩,
⟨rfl,rfl⟩,trivial⟩,rfl,trivial⟩,
⟨rfl,rfl⟩,
⟨rfl,
⟨rfl,rfl⟩,
⟨rfl,rfl⟩,
⟨rfl,rfl⟩,trivial⟩,trivial⟩,
⟨⟨rfl,rfl⟩,
⟨rfl,rfl⟩,
⟨rfl,rfl⟩,
⟨rfl,rfl⟩,
⟨rfl,rfl⟩,rfl,trivial⟩,
⟨rl,rr⟩,
⟨rl,rr⟩,
⟨⟨(Nat.le_refl _)⟩,rr⟩,
⟨⟨(Nat.le_refl _)⟩,rr⟩,
⟨⟨rfl,rfl⟩,
⟨rfl,rfl⟩,
⟨rfl,rfl⟩,
⟨rfl,rfl⟩,
⟨rfl,rfl⟩,rfl,trivial⟩,
⟨rl,rr⟩,
⟨rl,rr⟩,
⟨⟨(Nat.le_refl _)⟩,rr⟩,
⟨⟨(Nat.le_refl _)⟩,rr⟩,
⟨rl,rr⟩,
⟨rfl,
⟨rfl,rfl⟩,
⟨rfl,rfl⟩,
⟨rfl,rfl⟩,trivial⟩,
⟨rl,rr⟩,
⟨rl,rr⟩,
⟨rl,rr⟩,
⟨rfl,
⟨rfl,rfl⟩,
⟨rfl,rfl⟩,
⟨rfl,rfl⟩,trivial⟩,
⟨rl,rr⟩,
⟨rl,rr⟩,
⟨rl,rr⟩,trivial⟩⟩,
fun g32=>have h32:=dF g32;⟨(yS (LX.m x1) (SD2.a x20)),
⟨h21.2.1.src,
((lm_ok h2).1.n)⟩,
⟨⟨rfl,rfl⟩,trivial⟩,
⟨⟨⟨rfl,rfl⟩,
⟨rfl,rfl⟩,
⟨rfl,rfl⟩,
⟨rfl,rfl⟩,
⟨rfl,rfl⟩,rfl,trivial⟩,
⟨rl,rr⟩,
⟨⟨(Nat.le_refl _)⟩,rr⟩,
⟨⟨(Nat.le_refl _)⟩,rr⟩,
⟨⟨(Nat.le_refl _)⟩,rr⟩,
⟨⟨(Nat.le_refl _)⟩,rr⟩,trivial⟩,
(yS (LX.m x1) (SD2.b x20)),
⟨h21.2.1.src,
((lm_ok h2).1.n)⟩,
⟨⟨rfl,rfl⟩,trivial⟩,
⟨⟨⟨rfl,rfl⟩,
⟨rfl,rfl⟩,
⟨rfl,rfl⟩,
⟨rfl,rfl⟩,
⟨rfl,rfl⟩,rfl,trivial⟩,
⟨rl,
(rowsG (lm_ok h2).2.1.symm)⟩,
⟨⟨(Nat.le_refl _)⟩,rr⟩,
⟨⟨(Nat.le_refl _)⟩,rr⟩,
⟨⟨(Nat.le_refl _)⟩,rr⟩,
⟨⟨(Nat.le_refl _)⟩,rr⟩,trivial⟩,
({ a:=LX.sr x1,b:=LX.sr x1:LLX }),
(by(try dsimp only at *);(have:x1.sr.length<=12:=sr_l h2;omega)),
⟨⟨rfl,rfl⟩,
⟨rfl,rfl⟩,trivial⟩,
⟨⟨⟨(Nat.le_refl _)⟩,rr⟩,
⟨⟨(Nat.le_refl _)⟩,rr⟩,trivial⟩,
fun g36=>have h36:=dT g36;⟨({ m:=yS (LX.m x1) (SD2.a x20),v:=(4611686018427387904:Int):MNx }),
(by grind),
⟨⟨rfl,rfl⟩,rfl,trivial⟩,
⟨⟨⟨rfl,rfl⟩,
⟨rfl,rfl⟩,
⟨rfl,rfl⟩,
⟨rfl,rfl⟩,
⟨rfl,rfl⟩,rfl,trivial⟩,
⟨rl,rr⟩,
⟨⟨(Nat.le_refl _)⟩,rr⟩,
⟨⟨(Nat.le_refl _)⟩,rr⟩,
⟨⟨(Nat.le_refl _)⟩,rr⟩,
⟨⟨(Nat.le_refl _)⟩,rr⟩,trivial⟩,
({ m:=yS (LX.m x1) (SD2.b x20),v:=(4611686018427387904:Int):MNx }),
(by grind),
⟨⟨rfl,rfl⟩,rfl,trivial⟩,
⟨⟨⟨rfl,rfl⟩,
⟨rfl,rfl⟩,
⟨rfl,rfl⟩,
⟨rfl,rfl⟩,
⟨rfl,rfl⟩,rfl,trivial⟩,
⟨rl,
(rowsG (lm_ok h2).2.1.symm)⟩,
⟨⟨(Nat.le_refl _)⟩,rr⟩,
⟨⟨(Nat.le_refl _)⟩,rr⟩,
⟨⟨(Nat.le_refl _)⟩,rr⟩,
⟨⟨(Nat.le_refl _)⟩,rr⟩,trivial⟩,
({ a:=ofW (wiL (MS.dI (yS (LX.m x1) (SD2.a x20))) (4611686018427387904:Int)) (List.length (wiL (MS.dI (yS (LX.m x1) (SD2.a x20))) (4611686018427387904:Int))),b:=ofW (wiL (MS.dI (yS (LX.m x1) (SD2.b x20))) (4611686018427387904:Int)) (List.length (wiL (MS.dI (yS (LX.m x1) (SD2.b x20))) (4611686018427387904:Int))):TwoX }),
⟨(ofW_ok _ _),
(ofW_ok _ _)⟩,
⟨⟨rfl,trivial⟩,
⟨rfl,trivial⟩,trivial⟩,
⟨⟨rl,rr⟩,
⟨rl,rr⟩,trivial⟩,
fun g40=>have h40:=dT g40;⟨(default),trivial,trivial,trivial,rfl,trivial⟩,
fun g42=>have h42:=dF g42;⟨(absurd rfl h42),trivial⟩⟩,
fun g43=>have h43:=dF g43;⟨(by grind),trivial⟩⟩⟩⟩⟩⟩,
fun g44=>have h44:=dT g44;⟨(by omega),trivial⟩⟩⟩)
theorem rbN_good:Good Tryd.prog 6 (law10 arB false)/\FnOk Tryd.prog 6:=good_of tok conLn (fn:=Tryd.f6) rfl (by decide+kernel) (fun _=>rfl) rb_no
theorem rbY_good:Good Tryd.prog 6 (law10 arB true)/\FnOk Tryd.prog 6:=good_of tok conRb (fn:=Tryd.f6) rfl (by decide+kernel) (fun _=>rfl) rb_yes
theorem rb_good:Good Tryd.prog 6 ⟨LX,fun _=>True,fun x=>plA x.p::arB x,fun x=>plH x.p,fun _=>.b true,fun _=>[]⟩:=both_b (X:=LX) (t:=fun x:LX=>plOk x.p) rbY_good.1 rbN_good.1
end Go.Sym