import Derived.Test.YtpnnecijeoipfaaGreatDoorNJ
import Derived.Test.YtpnnecijeoipfaaGreatDoorXD
namespace Go.Sym
set_option linter.unusedVariables false
set_option linter.unusedSimpArgs false
open Go.Proofs Go.Maps Go.RowKit
set_option maxRecDepth 100000
open Go.MapKept (Stamped)
theorem good_new {P:Program} {f:Nat} {ct:CT} [Glob] {ks:List Kd} {n:ct.X->Nat} {g:ct.X->Nat->Nat->D} {T:TypeId} (hst:∀ x,ct.pre x->ctSt ct x=true) (h1:∀ x,ct.g1 x=[(1,.rows .own ks (n x) (g x))])
  (hr:∀ x,ct.res x= .sl 1 0 (n x)) (h0:∀ x,hget (ct.g0 x) 1=none)
  (h:∀ x,ct.pre x->∀(ρ:Env) (w:World) (vals:List Value),Glob.ok ρ->DenL ρ (ct.args x) vals->HSat ρ (hget (ct.g0 x)) w->
   Calls P f vals.toArray w fun e w'=>∃ v,e= .returned v/\(∃ xs,w'.ownsRow w.heap.size T ks.length v (n x) xs/\∀ r,r<n x->DenR ρ.z ks (g x r) 0 xs.toArray (r*ks.length))/\Below w.heap.size w w'):Good P f ct:=by
 intro x hx
 refine⟨hst x hx,fun ρ w vals hg hv H=>(h x hx ρ w vals hg hv H).mono ?_⟩
 rintro e w' ⟨v,rfl,⟨xs,hrow,hden⟩,hb⟩
 have hge:appH (ct.g1 x) (ct.g0 x)=(1,.rows .own ks (n x) (g x))::ct.g0 x:=by rw[h1];rfl
 have key:∀(p:Option Place),(∀ q,p=some q->w.heap.size<=q.b)->Den (updE ρ 1 p) (.sl 1 0 (n x)) v->BlkOk (updE ρ 1 p) w' 1 (.rows .own ks (n x) (g x))->
   ∃ z ρ',Ending.returned v= .returned z/\Den ρ' (ct.res x) z/\HSat ρ' (hget (appH (ct.g1 x) (ct.g0 x))) w'/\Keep (CE ρ (ct.g0 x)) w w'/\
    MutIn (CE ρ (ct.g0 x)) (CA ρ (ct.g0 x)) ρ w.heap.size ρ' (hget (appH (ct.g1 x) (ct.g0 x)))/\∀ l,hget (ct.g0 x) l≠none->ρ' l=ρ l:=by
  intro p hp hd hk
  have at1:(updE ρ 1 p) 1=p:=rfl
  have at0:∀ {l},l≠1->(updE ρ 1 p) l=ρ l:=fun {l} h=>by show(match Nat.beq 1 l with|true=>p|false=>ρ l)=ρ l;rw[beq_ne (Ne.symm h)]
  have ne1:∀ {l b},hget (ct.g0 x) l=some b->l≠1:=fun {l b} q e=>by rw[e,h0]at q;cases q
  have zlt:∀ {b o},ρ.z b=some o->b<w.heap.size:=fun h=>(Array.getElem?_eq_some_iff.1 (H.zok _ _ h)).1
  have got:∀ {l b},hget ((1,Blk.rows .own ks (n x) (g x))::ct.g0 x) l=some b->(l=1/\b= .rows .own ks (n x) (g x))∨(l≠1/\hget (ct.g0 x) l=some b):=by
   intro l b q
   by_cases e:l=1
   ·subst e
    have q:some (Blk.rows .own ks (n x) (g x))=some b:=q
    cases q
    exact .inl ⟨rfl,rfl⟩
   ·refine .inr ⟨e,?_⟩
    have q:(match Nat.beq 1 l with|true=>some (Blk.rows .own ks (n x) (g x))|false=>hget (ct.g0 x) l)=some b:=q
    rw[beq_ne (Ne.symm e)]at q
    exact q
  have blt:∀ {l b pl},hget (ct.g0 x) l=some b->b.real->ρ l=some pl->pl.b<w.heap.size:=fun h1 h2 h3=>(H.blk _ _ h1).lt h2 h3
  rw[hge]
  refine⟨v,updE ρ 1 p,rfl,by rw[hr];exact hd,⟨fun l b q=>?_,fun l1 l2 b1 b2 p1 p2 hne q1 q2 m1 r2 e1 e2=>?_,fun l b q l' hl'=>?_,fun l q=>?_,fun b o q=>?_,fun l b q hq hm he=>?_⟩,⟨hb.os,hb.tape,hb.output,hb.size,fun k hk _=>hb.block k hk⟩,?_,fun l hl=>?_⟩
  ·rcases got q with⟨rfl,rfl⟩|⟨hn,q⟩
   ·exact hk
   ·by_cases hrl:b.real
    ·refine(H.blk l b q).mono (at0 hn) (fun y hy=>at0 fun e=>?_) (fun _ _ z=>z) fun pl hpl=>hb.block _ (blt q hrl hpl)
     subst e
     exact H.scp l b q 1 hy (h0 x)
    ·exact(H.blk l b q).unreal hrl (at0 hn)
  ·rcases got q1 with⟨rfl,rfl⟩|⟨hn1,q1⟩
   ·rcases got q2 with⟨rfl,rfl⟩|⟨hn2,q2⟩
    ·exact absurd rfl hne
    ·rw[at1]at e1
     rw[at0 hn2]at e2
     have:=hp _ e1
     have:=blt q2 r2 e2
     omega
   ·rcases got q2 with⟨rfl,rfl⟩|⟨hn2,q2⟩
    ·rw[at1]at e2
     rw[at0 hn1]at e1
     have:=hp _ e2
     have:=blt q1 (Blk.real_of_mut m1) e1
     omega
    ·rw[at0 hn1]at e1
     rw[at0 hn2]at e2
     exact H.inj l1 l2 b1 b2 p1 p2 hne q1 q2 m1 r2 e1 e2
  ·rcases got q with⟨rfl,rfl⟩|⟨hn,q⟩
   ·cases hl'
   ·have h2:=H.scp l b q l' hl'
    by_cases e:l'=1
    ·subst e;exact absurd (h0 x) h2
    ·show(match Nat.beq 1 l' with|true=>some (Blk.rows .own ks (n x) (g x))|false=>hget (ct.g0 x) l')≠none
     rw[beq_ne (Ne.symm e)]
     exact h2
  ·have e:l≠1:=by rintro rfl;cases q
   rw[at0 e]
   refine H.tight l ?_
   have q:(match Nat.beq 1 l with|true=>some (Blk.rows .own ks (n x) (g x))|false=>hget (ct.g0 x) l)=none:=q
   rw[beq_ne (Ne.symm e)]at q
   exact q
  ·exact(hb.block b (zlt q)).trans (H.zok b o q)
  ·rcases got hq with⟨rfl,rfl⟩|⟨hn,hq⟩
   ·rw[at1]at he
    cases hz:(updE ρ 1 p).z q.b with
    |none=>rfl
    |some o=>have:=zlt (b:=q.b) (o:=o) hz;have:=hp _ he;omega
   ·rw[at0 hn]at he
    exact H.zap l b q hq hm he
  ·refine⟨fun l b pl q1 q2 q3=>?_,fun l b pl q1 q2 q3=>?_,fun _ _ z=>z,fun _ z=>.inl z,fun b z=>z.elim .inr fun⟨l,blk,pl,q1,q2,q3,q4⟩=>.inl ?_⟩
   ·rcases got q1 with⟨rfl,rfl⟩|⟨hn,q1⟩
    ·rw[at1]at q3;exact .inr (hp _ q3)
    ·rw[at0 hn]at q3;exact .inl ⟨l,b,pl,q1,q2,q3,rfl⟩
   ·rcases got q1 with⟨rfl,rfl⟩|⟨hn,q1⟩
    ·rw[at1]at q3;exact .inr (hp _ q3)
    ·rw[at0 hn]at q3;exact .inl (.inl ⟨l,b,pl,q1,q2,q3,rfl⟩)
   ·exact⟨l,blk,pl,q1,Blk.mut_real q2,q3,q4⟩
  ·have e:l≠1:=by rintro rfl;exact hl (h0 x)
   exact at0 e
 obtain⟨hlen,hrow⟩:=hrow
 rcases hrow with⟨rfl,hz⟩|⟨gb,cap,cur,rfl,hbase,hgb,r1,r2,r3,r4⟩
 ·refine key none (fun q h=>by cases h) ?_ (.inl ⟨rfl,hz⟩)
  simp only[Den]
  exact .inl ⟨rfl,trivial,hz,trivial⟩
 ·refine key (some ⟨gb,0,ks.length,cap⟩) (fun q h=>by cases h;exact hbase) ?_ (.inr (.inr ⟨⟨gb,0,ks.length,cap⟩,cur,T,(0,0),rfl,hgb,fun _=>rfl,fun h=>(by cases h),rfl,r1,by show 0+cap*ks.length<=_;omega,fun r hr=>?_⟩))
  ·simp only[Den]
   exact .inr ⟨⟨gb,0,ks.length,cap⟩,_,rfl,rfl,by show 0+_<=cap;omega,fun _=>by simp[ptr]⟩
  ·have hd:=hden r hr
   show DenR ρ.z ks (g x r) 0 cur (0+r*ks.length)
   rw[Nat.zero_add]
   have hmul:r*ks.length+ks.length<=n x*ks.length:=by rw[<- Nat.succ_mul];exact Nat.mul_le_mul_right _ hr
   have key2:∀(ks':List Kd) (c o:Nat),o+ks'.length<=n x*ks.length->DenR ρ.z ks' (g x r) c xs.toArray o->DenR ρ.z ks' (g x r) c cur o:=by
    intro ks'
    induction ks' with
    |nil=>intro c o _ _;simp[DenR]
    |cons k ks' ih=>
     intro c o ho hd
     simp only[DenR]at hd ⊢
     simp only[List.length_cons]at ho
     refine⟨?_,ih (c+1) (o+1) (by omega) hd.2⟩
     obtain⟨u,hu,hu2⟩:=hd.1
     refine⟨u,?_,hu2⟩
     rw[<- r4]at hu
     simp only[List.getElem?_toArray]at hu
     rw[List.getElem?_take_of_lt (by omega)]at hu
     simpa using hu
   exact key2 ks 0 _ hmul hd
def srtZ (l:List Int):List Int:=l.mergeSort fun x y=>decide (x<=y)
structure SkX where
 keys:List Int
 f:Int->Nat->D
def skC (ks:List Kd) (fn:Nat):CT where
 X:=SkX
 pre:=fun x=>x.keys.length<=1000/\∀ k∈x.keys,0<=k/\k<=1099511627776
 args:=fun x=>[.fn fn [.p 100001 0 0]]
 g0:=fun x=>[(100001,.one .bor [.mp 100002]),(100002,.map .bor .i64 ks true x.keys x.f)]
 res:=fun x=>.sl 1 0 x.keys.length
 g1:=fun x=>[(1,.rows .own k1 x.keys.length (encL encI (srtZ x.keys)))]
def RZ:Value->Option (DataW Unit × List MemPlace):=fun _=>some (.lit (.bool true),[])
theorem srtZ_len (l:List Int):(srtZ l).length=l.length:=(List.mergeSort_perm l _).length_eq
theorem owns_map {P:Program} {z:Nat->Option Obj} {ks:List Kd} {keys:List Int} {f:Int->Nat->D} {es:Array MapEntry} {clk b:Nat} {w:World} (hP:P.underlying 2=some (.int .i64)) (hM:MapOk z .i64 ks true keys f es clk) (hw:w.heap[b]? =some (.map es clk))
  (hl:keys.length<=1000) (hk:∀ k∈keys,0<=k/\k<=1099511627776):
  w.ownsMap P 2 RZ b es.size (.map ((es.toList.map (WideElems.rg P 2 RZ)).foldr DataW.insert []))/\(intKeys (.map ((es.toList.map (WideElems.rg P 2 RZ)).foldr DataW.insert []):DataW Unit)).Perm keys/\es.size=keys.length:=by
 obtain⟨hnd,⟨l,hp,he⟩,_,_,_⟩:=hM
 have hsz:es.size=keys.length:=by
  have:=congrArg List.length he
  simp only[List.length_map,Array.length_toList]at this
  rw[this,hp.length_eq]
 have hkey:∀ x∈es.toList,∃ k∈keys,x.key= .int .i64 k:=fun x hx=>by
  have:x.key∈es.toList.map (·.key):=List.mem_map.2 ⟨x,hx,rfl⟩
  rw[he]at this
  obtain⟨k,h1,h2⟩:=List.mem_map.1 this
  exact⟨k,hp.mem_iff.1 h1,h2.symm⟩
 have hwf:∀ k∈keys,(Lit.int .i64 k).wf=true:=fun k h=>by
  have:=hk k h
  unfold Lit.wf
  rw[Bool.and_eq_true]
  exact⟨decide_eq_true (by show(-9223372036854775808:Int)<=k;omega),decide_eq_true (by show k<=(9223372036854775807:Int);omega)⟩
 have hkof:∀ k∈keys,keyOf P 2 (.int .i64 k)=some (.int .i64 k):=fun k h=>by
  have:=hwf k h
  simp[keyOf,hP,mapKey,this]
 have hrd:∀ x∈es.toList,∃ k∈keys,x.key= .int .i64 k/\WideElems.rd P 2 RZ x=some (.int .i64 k,.lit (.bool true)):=fun x hx=>by
  obtain⟨k,h1,h2⟩:=hkey x hx
  refine⟨k,h1,h2,?_⟩
  unfold WideElems.rd
  rw[h2,hkof k h1]
  rfl
 refine⟨⟨es,clk,hw,⟨by rw[hsz];exact Nat.le_trans hl (by decide),(MapOk.stamped (z:=z) (ks:=ks) (agg:=true) (keys:=keys) (f:=f) ⟨hnd,⟨l,hp,he⟩,‹_›,‹_›,‹_›⟩),fun x hx=>?_⟩,Nat.le_refl _,rfl⟩,?_,hsz⟩
 ·obtain⟨k,_,_,h⟩:=hrd x hx
  exact⟨_,h⟩
 ·show(((es.toList.map (WideElems.rg P 2 RZ)).foldr DataW.insert []).map fun p=>intOf p.1).Perm keys
  refine((WideShapes.sorted_perm _).map _).trans ?_
  rw[List.map_map]
  refine List.Perm.trans (List.Perm.of_eq ?_) hp
  have e1:∀ x∈es.toList,((fun p:Lit × DataW Unit=>intOf p.1)∘WideElems.rg P 2 RZ) x=(match x.key with| .int _ k=>k|_=>0):=fun x hx=>by
   obtain⟨k,_,h2,h3⟩:=hrd x hx
   show intOf (WideElems.rg P 2 RZ x).1=_
   rw[WideElems.rg_of h3,h2]
   rfl
  rw[List.map_congr_left e1]
  have e2:es.toList.map (fun x=>(match x.key with| .int _ k=>k|_=>0))=(es.toList.map (·.key)).map fun v=>(match v with| .int _ k=>k|_=>0):=by rw[List.map_map];rfl
  rw[e2,he,List.map_map]
  exact List.map_id l
theorem sk_den {ρ:Env} {w:World} {ks:List Kd} {fn:Nat} {x:SkX} {vals:List Value} (hv:DenL ρ ((skC ks fn).args x) vals) (H:HSat ρ (hget ((skC ks fn).g0 x)) w):
  ∃ Bm off b es clk,vals=[.func (.func fn) #[] #[.pointer (some ⟨Bm,off,none⟩)]]/\Bm<w.heap.size/\w.cell? ⟨Bm,off,none⟩=some (.map (some b))/\w.heap[b]? =some (.map es clk)/\MapOk ρ.z .i64 ks true x.keys x.f es clk:=by
 simp only[skC,DenL,Den]at hv
 obtain⟨v,r,rfl,⟨vs,rfl,hvs⟩,rfl⟩:=hv
 obtain⟨u,r2,e2,⟨pl,hpl,rfl⟩,rfl⟩:=hvs
 obtain rfl:vs= #[.pointer (some (ptr pl 0 0))]:=by cases vs;simp_all
 have b1:BlkOk ρ w 100001 (.one .bor [.mp 100002]):=H.blk 100001 _ rfl
 obtain⟨pl',arr,T,fz,e1,h1,_,_,hs,hd⟩:=b1
 rw[hpl]at e1
 cases e1
 obtain⟨pl2,es,clk,e3,h3,hM⟩:∃ pl es clk,ρ 100002=some pl/\w.heap[pl.b]? =some (.map es clk)/\MapOk ρ.z .i64 ks true x.keys x.f es clk:=H.blk 100002 _ rfl
 simp only[DenL,Den]at hd
 obtain⟨v,r,ed,⟨pl3,e4,rfl⟩,rfl⟩:=hd
 rw[e3]at e4
 cases e4
 refine⟨pl.b,pl.off,pl2.b,es,clk,by simp[ptr],heap_lt h1,?_,h3,hM⟩
 rw[cell_of_block h1]
 have:=congrArg (fun l=>l[0]?) ed
 simp only[List.getElem?_take_of_lt (show 0<[SV.mp 100002].length by decide),List.getElem?_drop,List.getElem?_cons_zero,Nat.add_zero]at this
 simpa using this
theorem sk_rows {l:List Int} {z:Nat->Option Obj} {r:Nat} (hr:r<l.length):DenR z k1 (encL encI l r) 0 (l.map encZ).toArray (r*k1.length):=by
 have e:k1.length=1:=rfl
 rw[e,Nat.mul_one]
 simp only[k1,DenR,and_true]
 refine⟨.int .i64 (l.getD r default),?_,by simp[DenD,encL,encI,D.toI]⟩
 simp[List.getD_eq_getElem?_getD,hr]
theorem sk_use {P:Program} {fn f:Nat} {ks:List Kd} [Glob] (hP:P.underlying 2=some (.int .i64))
  (hc:∀(Bm off b nn:Nat) (D0:DataW Unit) (w:World),Bm<w.heap.size->w.cell? ⟨Bm,off,none⟩=some (.map (some b))->w.ownsMap P 2 RZ b nn D0->Maps.size D0<=maxLen->Maps.size D0*8<=140737488355328->
   Calls P f #[.func (.func fn) #[] #[.pointer (some ⟨Bm,off,none⟩)]] w fun e w'=>∃(v:Value) (ss:List Int),e= .returned v/\ss.Perm (intKeys D0)/\
    w'.ownsRow w.heap.size 2 1 v ss.length ((ss.mergeSort (fun x y=>decide (x<=y))).map encZ)/\(v= .slice none 0 0↔ss=[])/\Below w.heap.size w w'):Good P f (skC ks fn):=by
 refine good_new (ct:=skC ks fn) (ks:=k1) (n:=fun x=>x.keys.length) (g:=fun x=>encL encI (srtZ x.keys)) (T:=2) (fun _ _=>rfl) (fun _=>rfl) (fun _=>rfl) (fun _=>rfl) fun x hx ρ w vals hg hv H=>?_
 obtain⟨Bm,off,b,es,clk,rfl,h1,h2,h3,hM⟩:=sk_den hv H
 obtain⟨ho,hp,hsz⟩:=owns_map hP hM h3 hx.1 hx.2
 have hs:Maps.size (.map ((es.toList.map (WideElems.rg P 2 RZ)).foldr DataW.insert []):DataW Unit)=x.keys.length:=by
  have:=hp.length_eq
  unfold intKeys at this
  rw[List.length_map]at this
  exact this
 refine(hc Bm off b _ _ w h1 h2 ho (by rw[hs];exact Nat.le_trans hx.1 (by decide)) (by rw[hs];have:=hx.1;omega)).mono ?_
 rintro e w' ⟨v,ss,rfl,hss,hrow,_,hb⟩
 have hps:ss.Perm x.keys:=hss.trans hp
 have e:ss.mergeSort (fun x y=>decide (x<=y))=srtZ x.keys:=mergeSort_of_perm_i hps
 rw[e,hps.length_eq]at hrow
 exact⟨v,rfl,⟨_,hrow,fun r hr=>sk_rows (by rw[srtZ_len];exact hr)⟩,hb⟩
theorem skI_good:Good Tryz.prog 59 (skC kI 87)/\FnOk Tryz.prog 59:=
 ⟨sk_use Tryz.underlying2 fun Bm off b nn D0 w h1 h2 h3 h4 h5=>Tryz.sortedI Bm off b nn D0 w h1 h2 h3 h4 h5,Tryz.f59,rfl,by decide+kernel,rfl⟩
theorem skC_good:Good Tryz.prog 59 (skC kC 95)/\FnOk Tryz.prog 59:=
 ⟨sk_use Tryz.underlying2 fun Bm off b nn D0 w h1 h2 h3 h4 h5=>Tryz.sortedC Bm off b nn D0 w h1 h2 h3 h4 h5,Tryz.f59,rfl,by decide+kernel,rfl⟩
end Go.Sym