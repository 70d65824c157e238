import Derived.Test.YtcghhlodddpmaaaDoorFG
import Derived.Test.YtcghhlodddpmaaaDoorY5
namespace Go.Sym
set_option linter.unusedVariables false
set_option linter.unusedSimpArgs false
open Go.Proofs
set_option maxRecDepth 100000
theorem sp_inj {s:UInt8}:∀(a b:List UInt8) {R R':List UInt8},s∉a->s∉b->a++s::R=b++s::R'->a=b/\R=R'
 | [],[],R,R',_,_,h=>by
  simp only[List.nil_append,List.cons.injEq]at h
  exact⟨rfl,h.2⟩
 | [],y::b,R,R',_,hb,h=>by
  simp only[List.nil_append,List.cons_append,List.cons.injEq]at h
  exact absurd (h.1▸List.mem_cons_self ..) hb
 |x::a,[],R,R',ha,_,h=>by
  simp only[List.nil_append,List.cons_append,List.cons.injEq]at h
  exact absurd (h.1▸List.mem_cons_self ..) ha
 |x::a,y::b,R,R',ha,hb,h=>by
  simp only[List.cons_append,List.cons.injEq]at h
  obtain⟨h1,h2⟩:=sp_inj a b (fun q=>ha (List.mem_cons_of_mem _ q)) (fun q=>hb (List.mem_cons_of_mem _ q)) h.2
  exact⟨by rw[h.1,h1],h2⟩
theorem ic_one {s x:List UInt8}:s.intercalate [x]=x:=by simp[List.intercalate]
theorem ic_two {s x y:List UInt8} {l:List (List UInt8)}:s.intercalate (x::y::l)=x++(s++s.intercalate (y::l)):=by simp[List.intercalate]
theorem ic_inj {s:UInt8}:∀(xs ys:List (List UInt8)),xs≠[]->ys≠[]->(∀ x∈xs,s∉x)->(∀ y∈ys,s∉y)->[s].intercalate xs=[s].intercalate ys->xs=ys
 | [],_,h,_,_,_,_=>absurd rfl h
 |_::_,[],_,h,_,_,_=>absurd rfl h
 | [x],[y],_,_,_,_,h=>by rw[ic_one,ic_one]at h;rw[h]
 | [x],y::y'::l,_,_,hx,_,h=>by
  rw[ic_one,ic_two]at h
  exact absurd (by rw[h];simp) (hx x (by simp))
 |x::x'::l,[y],_,_,_,hy,h=>by
  rw[ic_one,ic_two]at h
  exact absurd (by rw[<- h];simp) (hy y (by simp))
 |x::x'::l,y::y'::l',_,_,hx,hy,h=>by
  rw[ic_two,ic_two]at h
  obtain⟨h1,h2⟩:=sp_inj x y (hx x (by simp)) (hy y (by simp)) h
  have:=ic_inj (x'::l) (y'::l') (by simp) (by simp) (fun z hz=>hx z (List.mem_cons_of_mem _ hz)) (fun z hz=>hy z (List.mem_cons_of_mem _ hz)) h2
  rw[h1,this]
theorem ic_mem {s b:UInt8}:∀(xs:List (List UInt8)),b∈[s].intercalate xs->b=s∨∃ x∈xs,b∈x
 | [],h=>by cases h
 | [x],h=>by rw[ic_one]at h;exact .inr ⟨x,by simp,h⟩
 |x::y::l,h=>by
  rw[ic_two]at h
  simp only[List.mem_append,List.mem_singleton]at h
  rcases h with h|h|h
  ·exact .inr ⟨x,by simp,h⟩
  ·exact .inl h
  ·rcases ic_mem (y::l) h with h|⟨z,hz,h⟩
   ·exact .inl h
   ·exact .inr ⟨z,List.mem_cons_of_mem _ hz,h⟩
def bL (b:ByteArray):List UInt8:=b.data.toList
theorem bL_inj {a b:ByteArray} (h:bL a=bL b):a=b:=ByteArray.ext (Array.toList_inj.1 h)
theorem bL_joi (xs:List ByteArray) (s:UInt8):bL (joiS xs ⟨#[s]⟩)=[s].intercalate (xs.map bL):=by
 unfold bL joiS Lib.join
 simp
theorem map_bL {xs ys:List ByteArray} (h:xs.map bL=ys.map bL):xs=ys:=by
 induction xs generalizing ys with
 |nil=>cases ys with
  |nil=>rfl
  |cons y ys=>cases h
 |cons x xs ih=>cases ys with
  |nil=>cases h
  |cons y ys=>
   simp only[List.map_cons,List.cons.injEq]at h
   rw[bL_inj h.1,ih h.2]
theorem joi_inj {xs ys:List ByteArray} {s:UInt8} (hx:xs≠[]) (hy:ys≠[]) (h1:∀ x∈xs,s∉bL x) (h2:∀ y∈ys,s∉bL y) (h:joiS xs ⟨#[s]⟩=joiS ys ⟨#[s]⟩):xs=ys:=by
 have:=congrArg bL h
 rw[bL_joi,bL_joi]at this
 refine map_bL (ic_inj _ _ (by simpa using hx) (by simpa using hy) (fun x hx=>?_) (fun y hy=>?_) this)
 ·obtain⟨z,hz,rfl⟩:=List.mem_map.1 hx
  exact h1 z hz
 ·obtain⟨z,hz,rfl⟩:=List.mem_map.1 hy
  exact h2 z hz
theorem dd_mem:∀(n:Nat) (b:UInt8),b∈Lib.decDigits n->48<=b.toNat/\b.toNat<=57:=by
 intro n
 induction n using Nat.strongRecOn with
 |_ n ih=>
  intro b hb
  have one:∀ d:Nat,d<10->48<=(UInt8.ofNat (48+d)).toNat/\(UInt8.ofNat (48+d)).toNat<=57:=by
   intro d hd
   rw[UInt8.toNat_ofNat']
   omega
  rw[Lib.decDigits]at hb
  split at hb
  ·rename_i h
   simp only[List.mem_singleton]at hb
   subst hb
   exact one n h
  ·rename_i h
   rcases List.mem_append.1 hb with hb|hb
   ·exact ih (n / 10) (by omega) b hb
   ·simp only[List.mem_singleton]at hb
    subst hb
    exact one _ (by omega)
def valD (l:List UInt8):Nat:=l.foldl (fun v b=>10*v+(b.toNat-48)) 0
theorem valD_dd:∀ n:Nat,valD (Lib.decDigits n)=n:=by
 intro n
 induction n using Nat.strongRecOn with
 |_ n ih=>
  have one:∀ d:Nat,d<10->(UInt8.ofNat (48+d)).toNat-48=d:=by
   intro d hd
   rw[UInt8.toNat_ofNat']
   omega
  rw[Lib.decDigits]
  split
  ·rename_i h
   show 10*0+((UInt8.ofNat (48+n)).toNat-48)=n
   rw[one n h]
   omega
  ·rename_i h
   unfold valD
   rw[List.foldl_append]
   show 10*valD (Lib.decDigits (n / 10))+((UInt8.ofNat (48+n%10)).toNat-48)=n
   rw[ih (n / 10) (by omega),one _ (by omega)]
   omega
theorem ito_L {n:Int} (h:0<=n):bL (itoS n)=Lib.decDigits n.toNat:=by
 unfold itoS bL
 conv=>lhs;rw[show n=((n.toNat:Nat):Int) by omega,Lib.itoa_nonneg]
theorem ito_inj {a b:Int} (ha:0<=a) (hb:0<=b) (h:itoS a=itoS b):a=b:=by
 have h1:=congrArg bL h
 rw[ito_L ha,ito_L hb]at h1
 have h2:=congrArg valD h1
 rw[valD_dd,valD_dd]at h2
 omega
theorem ito_no {n:Int} (h:0<=n) {s:UInt8} (hs:s.toNat<48∨57<s.toNat):s∉bL (itoS n):=by
 rw[ito_L h]
 intro q
 have:=dd_mem _ _ q
 omega
theorem nev_no {n:Int} (h:0<=n):¬ nevS=itoS n:=by
 intro e
 exact ito_no h (s:=110) (by decide) (by rw[<- e];decide)
theorem run_L {p:Int × Int} (h:¬ p.1=p.2):bL (runT p)=bL (itoS p.1)++45::bL (itoS p.2):=by
 unfold runT
 rw[if_neg h]
 unfold bL
 simp
theorem run_S {p:Int × Int} (h:p.1=p.2):runT p=itoS p.1:=by unfold runT;rw[if_pos h]
theorem run_inj {p q:Int × Int} (hp:0<=p.1/\0<=p.2) (hq:0<=q.1/\0<=q.2) (h:runT p=runT q):p=q:=by
 have no45:∀ {n:Int},0<=n->(45:UInt8)∉bL (itoS n):=fun h=>ito_no h (by decide)
 by_cases h1:p.1=p.2
 ·by_cases h2:q.1=q.2
  ·rw[run_S h1,run_S h2]at h
   have:=ito_inj hp.1 hq.1 h
   exact Prod.ext this (by rw[<- h1,<- h2];exact this)
  ·have:=congrArg bL h
   rw[run_S h1,run_L h2]at this
   exact absurd (by rw[this];simp) (no45 hp.1)
 ·by_cases h2:q.1=q.2
  ·have:=congrArg bL h
   rw[run_S h2,run_L h1]at this
   exact absurd (by rw[<- this];simp) (no45 hq.1)
  ·have:=congrArg bL h
   rw[run_L h1,run_L h2]at this
   obtain⟨a,b⟩:=sp_inj _ _ (no45 hp.1) (no45 hq.1) this
   exact Prod.ext (ito_inj hp.1 hq.1 (bL_inj a)) (ito_inj hp.2 hq.2 (bL_inj b))
theorem run_no {p:Int × Int} (hp:0<=p.1/\0<=p.2) {s:UInt8} (hs:s.toNat<48∨57<s.toNat) (h45:s≠45):s∉bL (runT p):=by
 by_cases h1:p.1=p.2
 ·rw[run_S h1];exact ito_no hp.1 hs
 ·rw[run_L h1]
  intro q
  rcases List.mem_append.1 q with q|q
  ·exact ito_no hp.1 hs q
  ·rcases List.mem_cons.1 q with q|q
   ·exact h45 q
   ·exact ito_no hp.2 hs q
def memR (R:List (Int × Int)) (x:Int):Prop:=∃ p∈R,p.1<=x/\x<=p.2
theorem memR_app {R:List (Int × Int)} {p:Int × Int} {x:Int}:memR (R++[p]) x↔memR R x∨(p.1<=x/\x<=p.2):=by
 unfold memR
 simp only[List.mem_append,List.mem_singleton]
 constructor
 ·rintro⟨q,hq|rfl,h⟩
  ·exact .inl ⟨q,hq,h⟩
  ·exact .inr h
 ·rintro(⟨q,hq,h⟩|h)
  ·exact⟨q,.inl hq,h⟩
  ·exact⟨p,.inr rfl,h⟩
theorem fold_mem (x:Int):∀(t:List Int) (s:RS),0<=s.f->s.f<=s.l->(s.l::t).Pairwise (· <·)->(memR (rsF (t.foldl rsS s)) x↔memR s.R x∨(s.f<=x/\x<=s.l)∨x∈t)
 | [],s,h0,h1,_=>by
  show memR (rsF s) x↔_
  unfold rsF
  rw[if_pos h0,memR_app]
  simp
 |n::t,s,h0,h1,hp=>by
  have hn:s.l<n:=(List.pairwise_cons.1 hp).1 n (List.mem_cons_self ..)
  have ht:=(List.pairwise_cons.1 hp).2
  rw[List.foldl_cons]
  by_cases h2:s.l+1<n
  ·have e:rsS s n=⟨s.R++[(s.f,s.l)],n,n⟩:=by unfold rsS;rw[if_pos (.inr h2),if_pos h0]
   rw[e,fold_mem x t _ (by show 0<=n;omega) (Int.le_refl _) ht,memR_app,List.mem_cons]
   simp only
   constructor
   ·rintro((h|h)|h|h)
    ·exact .inl h
    ·exact .inr (.inl h)
    ·exact .inr (.inr (.inl (by omega)))
    ·exact .inr (.inr (.inr h))
   ·rintro(h|h|h|h)
    ·exact .inl (.inl h)
    ·exact .inl (.inr h)
    ·exact .inr (.inl (by omega))
    ·exact .inr (.inr h)
  ·have e:rsS s n=⟨s.R,s.f,n⟩:=by unfold rsS;rw[if_neg (by omega)]
   rw[e,fold_mem x t ⟨s.R,s.f,n⟩ h0 (by show s.f<=n;omega) ht,List.mem_cons]
   simp only
   constructor
   ·rintro(h|h|h)
    ·exact .inl h
    ·by_cases hx:x=n
     ·exact .inr (.inr (.inl hx))
     ·exact .inr (.inl (by omega))
    ·exact .inr (.inr (.inr h))
   ·rintro(h|h|h|h)
    ·exact .inl h
    ·exact .inr (.inl (by omega))
    ·exact .inr (.inl (by omega))
    ·exact .inr (.inr h)
theorem runs_mem {l:List Int} (hl:∀ n∈l,0<=n) (hs:l.Pairwise (· <·)) (x:Int):memR (runsL l) x↔x∈l:=by
 cases l with
 |nil=>
  constructor
  ·rintro⟨p,hp,_⟩;cases hp
  ·intro h;cases h
 |cons n t=>
  have hn:=hl n (List.mem_cons_self ..)
  unfold runsL
  rw[List.foldl_cons,show rsS rs0 n=⟨[],n,n⟩from rfl,fold_mem x t _ hn (Int.le_refl _) hs,List.mem_cons]
  simp only
  constructor
  ·rintro(⟨p,hp,_⟩|h|h)
   ·cases hp
   ·exact .inl (by omega)
   ·exact .inr h
  ·rintro(h|h)
   ·exact .inr (.inl (by omega))
   ·exact .inr (.inr h)
theorem runs_ne {l:List Int} (hl:∀ n∈l,0<=n) (hs:l.Pairwise (· <·)) (h:l≠[]):runsL l≠[]:=by
 intro e
 cases l with
 |nil=>exact h rfl
 |cons n t=>
  obtain⟨p,hp,_⟩:=(runs_mem hl hs n).2 (List.mem_cons_self ..)
  rw[e]at hp
  cases hp
theorem runs_inj {a b:List Int} (ha:∀ n∈a,0<=n) (hb:∀ n∈b,0<=n) (sa:a.Pairwise (· <·)) (sb:b.Pairwise (· <·)) (h:runsL a=runsL b):a=b:=
 sorted_ext sa sb fun x=>by rw[<- runs_mem ha sa,<- runs_mem hb sb,h]
theorem map_inj_on {α β:Type} {f:α->β}:∀ {xs ys:List α},(∀ x∈xs,∀ y∈ys,f x=f y->x=y)->xs.map f=ys.map f->xs=ys
 | [],[],_,_=>rfl
 | [],_::_,_,h=>by cases h
 |_::_,[],_,h=>by cases h
 |x::xs,y::ys,hi,h=>by
  simp only[List.map_cons,List.cons.injEq]at h
  rw[hi x (by simp) y (by simp) h.1,map_inj_on (fun a ha b hb=>hi a (List.mem_cons_of_mem _ ha) b (List.mem_cons_of_mem _ hb)) h.2]
theorem set_inj {a b:List Int} (ha:∀ n∈a,0<=n/\n<4096) (hb:∀ n∈b,0<=n/\n<4096) (sa:a.Pairwise (· <·)) (sb:b.Pairwise (· <·)) (na:a≠[]) (nb:b≠[]) (h:setS a=setS b):a=b:=by
 have ha':∀ n∈a,0<=n:=fun n hn=>(ha n hn).1
 have hb':∀ n∈b,0<=n:=fun n hn=>(hb n hn).1
 have ra:=(runsL_ok ha).1
 have rb:=(runsL_ok hb).1
 have no:∀ {R:List (Int × Int)},(∀ p∈R,(0<=p.1/\p.1<4096)/\(0<=p.2/\p.2<4096))->∀ x∈R.map runT,(44:UInt8)∉bL x:=by
  intro R hR x hx
  obtain⟨p,hp,rfl⟩:=List.mem_map.1 hx
  exact run_no ⟨(hR p hp).1.1,(hR p hp).2.1⟩ (by decide) (by decide)
 have h1:=joi_inj (by simpa using runs_ne ha' sa na) (by simpa using runs_ne hb' sb nb) (no ra) (no rb) h
 refine runs_inj ha' hb' sa sb (map_inj_on (fun p hp q hq e=>?_) h1)
 exact run_inj ⟨(ra p hp).1.1,(ra p hp).2.1⟩ ⟨(rb q hq).1.1,(rb q hq).2.1⟩ e
theorem set_no {l:List Int} (hl:∀ n∈l,0<=n/\n<4096):(32:UInt8)∉bL (setS l):=by
 unfold setS
 rw[bL_joi]
 intro q
 rcases ic_mem _ q with q|⟨x,hx,q⟩
 ·exact absurd q (by decide)
 ·obtain⟨w,hw,rfl⟩:=List.mem_map.1 hx
  obtain⟨p,hp,rfl⟩:=List.mem_map.1 hw
  have:=(runsL_ok hl).1 p hp
  exact run_no ⟨this.1.1,this.2.1⟩ (by decide) (by decide) q
theorem code_no {s:ByteArray} (h:vCode s=true):(32:UInt8)∉bL s:=by
 unfold vCode at h
 simp only[Bool.and_eq_true,decide_eq_true_eq]at h
 intro q
 obtain⟨i,hi,e⟩:=List.getElem_of_mem q
 have hi':i<s.data.size:=by simpa[bL]using hi
 have h1:=h.2 i hi'
 have h2:atS s i=32:=by
  unfold atS
  rw[Array.getD_eq_getD_getElem?,Array.getElem?_eq_getElem hi']
  have:s.data[i]=32:=by simpa[bL]using e
  rw[Option.getD_some,this]
  rfl
 omega
theorem inRF_0 {f n:Int} (h:inRF f n=true):0<=n:=by
 unfold inRF at h
 repeat' split at h
 all_goals first|(simp only[decide_eq_true_eq,Bool.or_eq_true,Bool.and_eq_true]at h;omega)|omega|cases h
theorem vNodes_ne {l:List Int} (h:vNodes l=true):l≠[]:=by
 unfold vNodes at h
 simp only[Bool.and_eq_true,decide_eq_true_eq]at h
 intro e
 subst e
 exact absurd h.1.1 (by decide)
theorem word_no {c:Cmd} {f:Int} (h:fOk c f=true):(32:UInt8)∉bL (wordF c f):=by
 unfold wordF
 split
 ·exact code_no (fOk4 h ‹_›)
 ·split
  ·exact set_no (vNodes_p (fOk5 h ‹_› ‹_›)).1
  ·split
   ·decide
   ·exact ito_no (inRF_0 (fOkn h ‹_› ‹_›)) (by decide)
theorem word_inj {a b:Cmd} {f:Int} (ha:fOk a f=true) (hb:fOk b f=true) (h:wordF a f=wordF b f):∀ d,copyF a d f=copyF b d f:=by
 intro d
 unfold wordF at h
 unfold copyF
 by_cases h4:f=4
 ·rw[if_pos h4,if_pos h4]at h
  rw[if_pos h4,if_pos h4,h]
 ·rw[if_neg h4,if_neg h4]at h
  rw[if_neg h4,if_neg h4]
  by_cases h5:f=5
  ·rw[if_pos h5,if_pos h5]at h
   have va:=fOk5 ha h4 h5
   have vb:=fOk5 hb h4 h5
   have:=set_inj (vNodes_p va).1 (vNodes_p vb).1 (vNodes_p va).2 (vNodes_p vb).2 (vNodes_ne va) (vNodes_ne vb) h
   rw[if_pos h5,if_pos h5,this]
  ·rw[if_neg h5,if_neg h5]at h
   rw[if_neg h5,if_neg h5]
   have ra:=inRF_0 (fOkn ha h4 h5)
   have rb:=inRF_0 (fOkn hb h4 h5)
   have key:numF a f=numF b f:=by
    by_cases p:f=16/\a.time=4611686018427387904
    ·by_cases q:f=16/\b.time=4611686018427387904
     ·obtain⟨rfl,p⟩:=p
      rw[show numF a 16=a.time from rfl,show numF b 16=b.time from rfl,p,q.2]
     ·rw[if_pos p,if_neg q]at h
      exact absurd h (nev_no rb)
    ·by_cases q:f=16/\b.time=4611686018427387904
     ·rw[if_neg p,if_pos q]at h
      exact absurd h.symm (nev_no ra)
     ·rw[if_neg p,if_neg q]at h
      exact ito_inj ra rb h
   rw[key]
theorem nm_all:(∀ i:Fin 16,(32:UInt8)∉bL (nmT (i.val:Int)))/\∀ i j:Fin 16,1<=i.val->1<=j.val->bL (nmT (i.val:Int))=bL (nmT (j.val:Int))->i=j:=by decide+kernel
theorem nm_no {k:Int} (h:1<=k/\k<=15):(32:UInt8)∉bL (nmT k):=by
 have:=nm_all.1 ⟨k.toNat,by omega⟩
 rw[show((k.toNat:Nat):Int)=k by omega]at this
 exact this
theorem nm_inj {k m:Int} (h:1<=k/\k<=15) (h1:1<=m/\m<=15) (e:nmT k=nmT m):k=m:=by
 have:=nm_all.2 ⟨k.toNat,by omega⟩ ⟨m.toNat,by omega⟩ (by show 1<=k.toNat;omega) (by show 1<=m.toNat;omega) (by
  rw[show((k.toNat:Nat):Int)=k by omega,show((m.toNat:Nat):Int)=m by omega,e])
 have:=congrArg Fin.val this
 simp only at this
 omega
theorem copy_fold {a b:Cmd}:∀(fs:List Int) (d:Cmd),(∀ f∈fs,fOk a f=true/\fOk b f=true)->fs.map (wordF a)=fs.map (wordF b)->fs.foldl (copyF a) d=fs.foldl (copyF b) d
 | [],_,_,_=>rfl
 |f::fs,d,h,e=>by
  simp only[List.map_cons,List.cons.injEq]at e
  have h1:=h f (List.mem_cons_self ..)
  rw[List.foldl_cons,List.foldl_cons,word_inj h1.1 h1.2 e.1 d]
  exact copy_fold fs _ (fun g hg=>h g (List.mem_cons_of_mem _ hg)) e.2
theorem fmt_inj {a b:Cmd} (ha:vC a=true) (hb:vC b=true) (h:fmtF a=fmtF b):a=b:=by
 have ka:=kOk_iff.1 (vC_k ha)
 have kb:=kOk_iff.1 (vC_k hb)
 have no:∀ {c:Cmd},vC c=true->∀ x∈wdsF c,(32:UInt8)∉bL x:=by
  intro c hc x hx
  unfold wdsF at hx
  rcases List.mem_cons.1 hx with rfl|hx
  ·exact nm_no (kOk_iff.1 (vC_k hc))
  ·obtain⟨f,hf,rfl⟩:=List.mem_map.1 hx
   exact word_no (vC_all hc f hf)
 rw[<- fmt_v ha,<- fmt_v hb]at h
 have h1:=joi_inj (by simp[wdsF]) (by simp[wdsF]) (no ha) (no hb) h
 unfold wdsF at h1
 simp only[List.cons.injEq]at h1
 have hk:=nm_inj ka kb h1.1
 have h2:=h1.2
 rw[<- hk]at h2
 have fb:=vC_all hb
 rw[<- hk]at fb
 have:=copy_fold (fsC a.kind) (onlyK a.kind) (fun f hf=>⟨vC_all ha f hf,fb f hf⟩) h2
 rw[copy_all ha]at this
 rw[this]
 have e:=copy_all hb
 rw[<- hk]at e
 exact e
end Go.Sym