/- The engine of the proof: a symbolic walk over the model's code, and that it is sound; no statement of any program stands here. -/
import Derived.Test.YtlldhkhmhgcpaaaGreatDoorXB
import Derived.RangeFuncLeaves
import Derived.RangeFuncCalls
import Derived.TacticsIn
import Derived.OrdersIn
namespace Go.Sym
set_option linter.unusedVariables false
set_option linter.unusedSimpArgs false
theorem appH_eq (a b:List (Nat × Blk)):appH a b=a++b:=by induction a with|nil=>rfl|cons x r ih=>simp[appH,ih]
theorem hget_mem {g:List (Nat × Blk)} {l:Nat} {b:Blk} (h:hget g l=some b):(l,b)∈g:=by
 induction g with
 |nil=>cases h
 |cons x r ih=>
  obtain⟨k,v⟩:=x
  unfold hget at h
  split at h
  ·rename_i hk
   cases h
   rw[Nat.eq_of_beq_eq_true hk]
   simp
  ·exact List.mem_cons_of_mem _ (ih h)
theorem hget_of_mem {g:List (Nat × Blk)} (hn:(keys g).Nodup) {l:Nat} {b:Blk} (h:(l,b)∈g):hget g l=some b:=by
 induction g with
 |nil=>cases h
 |cons x r ih=>
  obtain⟨k,v⟩:=x
  simp only[keys,List.nodup_cons]at hn
  unfold hget
  rcases List.mem_cons.1 h with h|h
  ·cases h;simp
  ·have:l∈keys r:=by rw[keys_eq];exact List.mem_map.2 ⟨_,h,rfl⟩
   have hne:k≠l:=fun e=>hn.1 (e▸this)
   rw[beq_ne hne]
   exact ih hn.2 h
theorem hget_some_mem {g:List (Nat × Blk)} {l:Nat} (h:hget g l≠none):l∈keys g:=by
 rw[ne_eq,hget_none_iff]at h
 exact Classical.not_not.1 h
theorem hget_not_none {g:List (Nat × Blk)} {l:Nat} (h:l∈keys g):hget g l≠none:=by
 rw[ne_eq,hget_none_iff]
 exact fun k=>k h
theorem EntH_mem {G:Hp} {g:List (Nat × Blk)} (h:EntH G g) {l:Nat} {b:Blk} (hm:(l,b)∈g):EntB G l b:=by
 induction g with
 |nil=>cases hm
 |cons x r ih=>
  obtain⟨k,v⟩:=x
  rcases List.mem_cons.1 hm with h'|h'
  ·cases h';exact h.1
  ·exact ih h.2 h'
theorem renH_mem {m:Nat->Nat} {g:List (Nat × Blk)} {l:Nat} {b:Blk} (h:(l,b)∈g):(m l,b.ren m)∈renH m g:=by
 induction g with
 |nil=>cases h
 |cons x r ih=>
  obtain⟨k,v⟩:=x
  rcases List.mem_cons.1 h with h'|h'
  ·cases h';simp[renH]
  ·exact List.mem_cons_of_mem _ (ih h')
theorem newLs_mem (g0:List Nat) {l:Nat}:∀(g1:List Nat),l∈newLs g0 g1↔l∈g1/\l∉g0
 | []=>by simp[newLs]
 |x::r=>by
  unfold newLs
  cases h:memN g0 x with
  |true=>
   have:=(memN_iff g0 x).1 h
   simp only[newLs_mem g0 r,List.mem_cons]
   constructor
   ·rintro⟨h1,h2⟩;exact⟨.inr h1,h2⟩
   ·rintro⟨h1|h1,h2⟩
    ·subst h1;exact absurd this h2
    ·exact⟨h1,h2⟩
  |false=>
   have:=(memN_false g0 x).1 h
   simp only[List.mem_cons,newLs_mem g0 r]
   constructor
   ·rintro(h1|⟨h1,h2⟩)
    ·subst h1;exact⟨.inl rfl,this⟩
    ·exact⟨.inr h1,h2⟩
   ·rintro⟨h1|h1,h2⟩
    ·exact .inl h1
    ·exact .inr ⟨h1,h2⟩
theorem freshLs_spec {G:Hp} {m:Nat->Nat}:∀ {ls:List Nat},freshLs G m ls=true->∀ l∈ls,G (m l)=none
 | [],_,l,hl=>by simp at hl
 |x::r,h,l,hl=>by
  unfold freshLs at h
  split at h
  ·rename_i hx
   rcases List.mem_cons.1 hl with rfl|hl
   ·exact hx
   ·exact freshLs_spec h l hl
  ·cases h
theorem liveH_spec:∀ {g:List (Nat × Blk)},liveH g=true->∀ l b,(l,b)∈g->b.live=true
 | [],_,l,b,hm=>by cases hm
 |(k,v)::r,h,l,b,hm=>by
  unfold liveH at h
  split at h
  ·rename_i hv
   rcases List.mem_cons.1 hm with h'|h'
   ·cases h';exact hv
   ·exact liveH_spec h l b h'
  ·cases h
theorem mutOk_spec {g1:List Nat}:∀ {g:List (Nat × Blk)},mutOk g1 g=true->∀ l b,(l,b)∈g->b.mut=true->l∈g1
 | [],_,l,b,hm,_=>by cases hm
 |(k,v)::r,h,l,b,hm,hb=>by
  unfold mutOk at h
  rcases List.mem_cons.1 hm with h'|h'
  ·simp only[Prod.mk.injEq]at h'
   obtain⟨e1,e2⟩:=h'
   rw[<- e1,<- e2,hb]at h
   cases hg:memN g1 l with
   |true=>exact(memN_iff g1 l).1 hg
   |false=>rw[hg]at h;cases h
  ·refine mutOk_spec ?_ l b h' hb
   revert h
   cases v.mut <;>cases memN g1 k <;>simp
theorem chgOk_spec {g0:List (Nat × Blk)}:∀ {g:List (Nat × Blk)},chgOk g0 g=true->∀ l b,(l,b)∈g->(∀ b0,hget g0 l=some b0->b0.mut=true)
 | [],_,l,b,hm=>by cases hm
 |(k,v)::r,h,l,b,hm=>by
  unfold chgOk at h
  rcases List.mem_cons.1 hm with h'|h'
  ·simp only[Prod.mk.injEq]at h'
   obtain⟨e1,e2⟩:=h'
   rw[<- e1]at h
   split at h
   ·rename_i b0 hb0
    split at h
    ·rename_i hmut
     exact fun b1 hb1=>by rw[hb0]at hb1;cases hb1;exact hmut
    ·cases h
   ·rename_i hn
    exact fun b1 hb1=>(by rw[hn]at hb1;cases hb1)
  ·refine chgOk_spec (g:=r) ?_ l b h'
   split at h
   ·split at h
    ·exact h
    ·cases h
   ·exact h
theorem newBor_spec {g0:List Nat}:∀ {g:List (Nat × Blk)},newBor g0 g=false->∀ l b,(l,b)∈g->l∉g0->b.live=true->b.mut=true∨(∃ ks n f,b= .rows .fz ks n f)∨∃ cs,b= .one .fz cs
 | [],_,l,b,hm=>by cases hm
 |(k,v)::r,h,l,b,hm=>by
  unfold newBor at h
  intro hl hlive
  rcases List.mem_cons.1 hm with h'|h'
  ·simp only[Prod.mk.injEq]at h'
   obtain⟨e1,e2⟩:=h'
   subst e1 e2
   rw[(memN_false g0 _).2 hl]at h
   dsimp only at h
   cases b with
   |dead=>cases hlive
   |one m cs=>cases m <;>first|exact .inl rfl|exact .inr (.inr ⟨_,rfl⟩)|cases h
   |rows m ks n f=>cases m <;>first|exact .inl rfl|exact .inr (.inl ⟨_,_,_,rfl⟩)|cases h
   |map m kk ks a keys f=>cases m <;>first|exact .inl rfl|cases h
  ·refine newBor_spec (g:=r) ?_ l b h' hl hlive
   split at h
   ·exact h
   ·split at h <;>first|exact h|cases h
theorem lentOk_spec {G:Hp} {m:Nat->Nat}:∀ {g:List (Nat × Blk)},lentOk G m g=true->∀ l b,(l,b)∈g->b.mut=false->∀ b',G (m l)=some b'->b'.mut=false
 | [],_,l,b,hm=>by cases hm
 |(k,v)::r,h,l,b,hm=>by
  unfold lentOk at h
  intro hb b' hG
  rcases List.mem_cons.1 hm with h'|h'
  ·cases h'
   rw[hb]at h
   dsimp only at h
   rw[hG]at h
   dsimp only at h
   cases hm:b'.mut with
   |true=>rw[hm]at h;cases h
   |false=>rfl
  ·refine lentOk_spec (g:=r) ?_ l b h' hb b' hG
   split at h
   ·exact h
   ·split at h
    ·split at h
     ·cases h
     ·exact h
    ·exact h
theorem defd_spec {hp:List (Nat × Blk)}:∀ {ls:List Nat},defd hp ls=true->∀ l∈ls,hget hp l≠none
 | [],_,l,hl=>by simp at hl
 |x::r,h,l,hl=>by
  unfold defd at h
  split at h
  ·rename_i b hb
   rcases List.mem_cons.1 hl with rfl|hl
   ·rw[hb];simp
   ·exact defd_spec h l hl
  ·cases h
theorem scopeH_spec {hp:List (Nat × Blk)}:∀ {g:List (Nat × Blk)},scopeH hp g=true->∀ l b,(l,b)∈g->∀ y∈b.labs,hget hp y≠none
 | [],_,l,b,hm=>by cases hm
 |(k,v)::r,h,l,b,hm=>by
  unfold scopeH at h
  split at h
  ·rename_i hv
   rcases List.mem_cons.1 hm with h'|h'
   ·cases h';exact defd_spec hv
   ·exact scopeH_spec h l b h'
  ·cases h
def CE (ρ:Env) (g0:List (Nat × Blk)):Nat->Prop:=fun b=>∃ l blk pl,hget g0 l=some blk/\blk.mut=true/\ρ l=some pl/\pl.b=b
def CA (ρ:Env) (g0:List (Nat × Blk)):Nat->Prop:=fun b=>(∃ l blk pl,hget g0 l=some blk/\blk.real/\ρ l=some pl/\pl.b=b)∨ρ.z b≠none
structure CtSt (ct:CT) (x:ct.X):Prop where
 d0:(keys (ct.g0 x)).Nodup
 d1:(keys (ct.g1 x)).Nodup
 live:∀ l b,(l,b)∈ct.g0 x->b.live=true
 mutok:∀ l b,(l,b)∈ct.g0 x->b.mut=true->l∈keys (ct.g1 x)
 chg:∀ l b,(l,b)∈ct.g1 x->(∀ b0,hget (ct.g0 x) l=some b0->b0.mut=true)
 scp0:∀ l b,(l,b)∈ct.g0 x->∀ y∈b.labs,hget (ct.g0 x) y≠none
 args:∀ y∈labsL (ct.args x),hget (ct.g0 x) y≠none
 scp1:∀ l b,(l,b)∈ct.g1 x->∀ y∈b.labs,hget (appH (ct.g1 x) (ct.g0 x)) y≠none
 res:∀ y∈(ct.res x).labs,hget (appH (ct.g1 x) (ct.g0 x)) y≠none
 great:∀ l∈keys (ct.g0 x),100000<=l
theorem greatLs_spec:∀ {ls:List Nat},greatLs ls=true->∀ l∈ls,100000<=l
 | [],_,l,hl=>by simp at hl
 |x::r,h,l,hl=>by
  unfold greatLs at h
  split at h
  ·rename_i hx
   rcases List.mem_cons.1 hl with h'|h'
   ·rw[h'];exact Nat.le_of_ble_eq_true hx
   ·exact greatLs_spec h l h'
  ·cases h
theorem smallLs_spec {G:Hp} {m:Nat->Nat}:∀ {ls:List Nat},smallLs G m ls=true->∀ l∈ls,G (m l)=none->m l<100000
 | [],_,l,hl,_=>by simp at hl
 |x::r,h,l,hl,hG=>by
  unfold smallLs at h
  rcases List.mem_cons.1 hl with h'|h'
  ·rw[<- h',hG]at h
   simp only at h
   split at h
   ·rename_i hx;exact Nat.le_of_ble_eq_true (show Nat.ble (m l+1) 100000=true from hx)
   ·cases h
  ·refine smallLs_spec (ls:=r) ?_ l h' hG
   split at h
   ·exact h
   ·split at h
    ·exact h
    ·cases h
theorem ctSt_spec {ct:CT} {x:ct.X} (h:ctSt ct x=true):CtSt ct x:=by
 unfold ctSt at h
 split at h
 ·rename_i h1 h2 h3 h4 h5 h6 h7 h8 h9 h10
  exact⟨(diff_iff _).1 h1,(diff_iff _).1 h2,liveH_spec h3,mutOk_spec h4,chgOk_spec h5,scopeH_spec h6,defd_spec h7,scopeH_spec h8,defd_spec h9,greatLs_spec h10⟩
 ·cases h
theorem Blk.real_of_mut {b:Blk} (h:b.mut=true):b.real:=by
 cases b with
 |dead=>cases h
 |one m cs=>trivial
 |rows m ks n f=>exact .inl h
 |map m kk ks a keys f=>trivial
theorem Blk.live_of_real {b:Blk} (h:b.real):b.live=true:=by cases b <;>first|rfl|exact h.elim
theorem Blk.real_ren {b:Blk} {m:Nat->Nat}:(b.ren m).real↔b.real:=by cases b <;>exact Iff.rfl
def Good [Glob] (P:Program) (f:Nat) (ct:CT):Prop:=
 ∀ x,ct.pre x->ctSt ct x=true/\∀(ρ:Env) (w:World) (vals:List Value),Glob.ok ρ->DenL ρ (ct.args x) vals->HSat ρ (hget (ct.g0 x)) w->
  Calls P f vals.toArray w fun e w'=>∃ v ρ',e= .returned v/\Den ρ' (ct.res x) v/\HSat ρ' (hget (appH (ct.g1 x) (ct.g0 x))) w'/\Keep (CE ρ (ct.g0 x)) w w'/\
   MutIn (CE ρ (ct.g0 x)) (CA ρ (ct.g0 x)) ρ w.heap.size ρ' (hget (appH (ct.g1 x) (ct.g0 x)))/\∀ l,hget (ct.g0 x) l≠none->ρ' l=ρ l
section
variable {ρi:Env} {P:Program} {E A:Nat->Prop} {w0:World} {ρ:Env} {F:Fr} {G:Hp} {a:Act} {w:World}
theorem Md.le_spec {m' m:Md} (h:Md.le m' m=true):(m'.isOwn=true->m.isOwn=true)/\(m'= .fz->m= .fz):=by
 cases m' <;>cases m <;>simp_all[Md.le,Md.isOwn]
theorem EntB_use (H:HSat ρ G w) {m:Nat->Nat} {l:Nat} {b:Blk} {ρc:Env} (h:EntB G (m l) (b.ren m)) (hb:b.live=true) (hl:ρc l=ρ (m l)) (hz:ρc.z=ρ.z) (hlab:∀ y∈b.labs,ρc y=ρ (m y)):
  BlkOk ρc w l b/\(∀ pl,ρ (m l)=some pl->∃ b',G (m l)=some b'/\(b.real->b'.real)/\(b.mut=true->b'.mut=true)):=by
 have hzl:ZLe (ρ.ren m) ρc:=fun x o hx=>by rw[hz];exact hx
 cases b with
 |dead=>cases hb
 |one mb cs=>
  simp only[Blk.ren,EntB]at h
  split at h
  ·rename_i mb' cs' hG
   split at h
   ·rename_i h2 h1
    obtain⟨hm1,hm2⟩:=Md.le_spec h2
    have hlen:=Nat.eq_of_beq_eq_true h1
    rw[lenL_eq,lenL_eq,renL_length]at hlen
    obtain⟨pl,arr,T,fz,e1,e2,e3,e3',e4,e5⟩:=H.blk _ _ hG
    refine⟨⟨pl,arr,T,fz,hl.trans e1,e2,fun hm=>e3 (hm1 hm),fun hm=>by rw[hz];exact e3' (hm2 hm),by omega,?_⟩,fun pl' _=>⟨_,hG,fun _=>trivial,hm1⟩⟩
    rw[<- hlen]
    have:=EntL.den H.tight _ _ _ h e5
    rw[DenL_ren]at this
    exact DenL.congr hzl _ _ (fun y hy=>(hlab y (by simpa[Blk.labs]using hy)).symm) this
   ·exact h.elim
  ·exact h.elim
 |rows mb ks n f=>
  simp only[Blk.ren,EntB]at h
  split at h
  ·rename_i mb' ks' n' f' hG
   split at h
   ·rename_i h2 h1
    obtain⟨hm1,hm2⟩:=Md.le_spec h2
    obtain⟨⟨hle⟩,h3⟩:=h
    have:=kdsSame_iff.1 h1
    subst this
    refine⟨?_,fun pl' _=>⟨_,hG,fun hr=>hr.imp hm1 (fun h=>by omega),hm1⟩⟩
    rcases H.blk _ _ hG with⟨e1,e2⟩|⟨pl,e1,e2,e3,e4⟩|⟨pl,arr,T,fz,e1,e2,e3,e3',e4,e5,e6,e7⟩
    ·exact .inl ⟨hl.trans e1,by omega⟩
    ·refine .inr (.inl ⟨pl,hl.trans e1,by omega,?_,e4⟩)
     cases hq:mb.isOwn with
     |false=>rfl
     |true=>rw[hm1 hq]at e3;cases e3
    ·exact .inr (.inr ⟨pl,arr,T,fz,hl.trans e1,e2,fun hm=>e3 (hm1 hm),fun hm=>by rw[hz];exact e3' (hm2 hm),e4,by omega,e6,fun r hr=>by rw[hz];exact DenR.eqv (h3.h r hr) (e7 r (by omega))⟩)
   ·exact h.elim
  ·rename_i hG
   have:=H.tight _ hG
   exact⟨.inl ⟨hl.trans this,h⟩,fun pl hp=>by rw[this]at hp;cases hp⟩
  ·exact h.elim
 |map mb kk ks ag keys f=>
  simp only[Blk.ren,EntB]at h
  split at h
  ·rename_i mb' kk' ks' ag' keys' f' hG
   split at h
   ·rename_i h2 h1 h3 h4
    obtain⟨hm1,hm2⟩:=Md.le_spec h2
    have:=IntKind.same_iff.1 h1
    subst this
    have:=kdsSame_iff.1 h3
    subst this
    have:=eq_of_beq h4
    subst this
    refine⟨?_,fun pl' _=>⟨_,hG,fun _=>trivial,hm1⟩⟩
    obtain⟨pl,es,clk,e1,e2,q1,⟨ls,q2,q2'⟩,q3,q4⟩:=H.blk _ _ hG
    refine⟨pl,es,clk,hl.trans e1,e2,h.p.nodup_iff.1 q1,⟨ls,q2.trans h.p,q2'⟩,fun e he k hk=>?_,q4⟩
    obtain⟨r1,r2,r3⟩:=q3 e he k hk
    refine⟨r1,r2,?_⟩
    rw[hz]
    refine DenR.eqv (h.h k ?_) r3
    have:e.key∈ls.map (Value.int kk'):=by rw[<- q2'];exact List.mem_map.2 ⟨e,he,rfl⟩
    rw[hk]at this
    obtain⟨k',hk',e'⟩:=List.mem_map.1 this
    cases e'
    exact(q2.trans h.p).mem_iff.1 hk'
   ·exact h.elim
  ·exact h.elim
theorem absL_spec {m:Nat->Nat}:∀ {g:List (Nat × Blk)} {l':Nat} {b':Blk},(l',b')∈absL G m g->∃ l b,(l,b)∈g/\m l=l'/\b'=b.ren m/\G l'=none
 | [],l',b',h=>by cases h
 |(l,b)::r,l',b',h=>by
  unfold absL at h
  split at h
  ·rename_i hG
   rcases List.mem_cons.1 h with h|h
   ·cases h;exact⟨l,b,by simp,rfl,rfl,hG⟩
   ·obtain⟨l2,b2,h1,h2⟩:=absL_spec h
    exact⟨l2,b2,List.mem_cons_of_mem _ h1,h2⟩
  ·obtain⟨l2,b2,h1,h2⟩:=absL_spec h
   exact⟨l2,b2,List.mem_cons_of_mem _ h1,h2⟩
theorem absL_has {m:Nat->Nat}:∀ {g:List (Nat × Blk)} {l:Nat} {b:Blk},(l,b)∈g->G (m l)=none->(m l,b.ren m)∈absL G m g
 | [],l,b,h,_=>by cases h
 |(k,v)::r,l,b,h,hG=>by
  unfold absL
  rcases List.mem_cons.1 h with h|h
  ·cases h;rw[hG];simp
  ·split
   ·exact List.mem_cons_of_mem _ (absL_has h hG)
   ·exact absL_has h hG
def inv (m:Nat->Nat):List Nat->Nat->Option Nat
 | [],_=>none
 |x::r,l'=>match Nat.beq (m x) l' with|true=>some x|false=>inv m r l'
theorem inv_some {m:Nat->Nat}:∀ {ls:List Nat} {l' l:Nat},inv m ls l'=some l->l∈ls/\m l=l'
 | [],_,_,h=>by cases h
 |x::r,l',l,h=>by
  unfold inv at h
  split at h
  ·rename_i hx;cases h;exact⟨by simp,Nat.eq_of_beq_eq_true hx⟩
  ·obtain⟨h1,h2⟩:=inv_some h;exact⟨List.mem_cons_of_mem _ h1,h2⟩
theorem inv_none {m:Nat->Nat}:∀ {ls:List Nat} {l':Nat},inv m ls l'=none->∀ l∈ls,m l≠l'
 | [],_,_,l,hl=>by simp at hl
 |x::r,l',h,l,hl=>by
  unfold inv at h
  split at h
  ·cases h
  ·rename_i hx
   rcases List.mem_cons.1 hl with rfl|hl
   ·intro e;rw[e]at hx;simp at hx
   ·exact inv_none h l hl
theorem memF_spec {l:Nat} {g:Bool}:∀ {r:List (Nat × Bool)},memF l g r=false->∀ f,(l,f)∈r->f=false/\g=false
 | [],_,f,h=>by cases h
 |(x,f0)::r,h,f,hm=>by
  have hr:memF l g r=false->(l,f)∈r->f=false/\g=false:=fun h hm=>memF_spec h f hm
  unfold memF at h
  rcases List.mem_cons.1 hm with e|hm'
  ·cases e
   rw[Nat.beq_refl]at h
   cases f0 <;>cases g <;>simp_all
  ·refine hr ?_ hm'
   revert h
   cases Nat.beq x l <;>cases f0 <;>cases g <;>simp
theorem mfl_mem {m:Nat->Nat} {g:List (Nat × Blk)} {t:List (Nat × Bool)}:∀ {ls:List Nat} {z:Nat × Bool},z∈mfl m g ls t↔(∃ l∈ls,z=(m l,mflag g l))∨z∈t
 | [],z=>by simp[mfl]
 |l::r,z=>by
  simp only[mfl,List.mem_cons,mfl_mem (ls:=r)]
  constructor
  ·rintro(h|⟨l',h,e⟩|h)
   ·exact .inl ⟨l,.inl rfl,h⟩
   ·exact .inl ⟨l',.inr h,e⟩
   ·exact .inr h
  ·rintro(⟨l',h|h,e⟩|h)
   ·subst h;exact .inl e
   ·exact .inr (.inl ⟨l',h,e⟩)
   ·exact .inr (.inr h)
theorem mft_mem {m:Nat->Nat}:∀ {ls:List Nat} {z:Nat × Bool},z∈mft m ls↔∃ l∈ls,z=(m l,true)
 | [],z=>by simp[mft]
 |l::r,z=>by simp[mft,mft_mem (ls:=r)]
theorem diffF_tail {m:Nat->Nat} {g:List (Nat × Blk)} {t:List (Nat × Bool)}:∀ {ls:List Nat},diffF (mfl m g ls t)=true->diffF t=true
 | [],h=>h
 |l::r,h=>by
  simp only[mfl,diffF]at h
  split at h
  ·cases h
  ·exact diffF_tail h
theorem diffF_mft {m:Nat->Nat}:∀ {ls:List Nat},diffF (mft m ls)=true->∀ {y z:Nat},y∈ls->z∈ls->m y=m z->y=z
 | [],_,y,z,hy,_,_=>by simp at hy
 |x::r,h,y,z,hy,hz,e=>by
  simp only[mft,diffF]at h
  split at h
  ·cases h
  ·rename_i hm
   rcases List.mem_cons.1 hy with h1|h1
   ·rcases List.mem_cons.1 hz with h2|h2
    ·rw[h1,h2]
    ·have:=(memF_spec hm true (mft_mem.2 ⟨z,h2,by rw[<- e,h1]⟩)).1
     cases this
   ·rcases List.mem_cons.1 hz with h2|h2
    ·have:=(memF_spec hm true (mft_mem.2 ⟨y,h1,by rw[e,h2]⟩)).1
     cases this
    ·exact diffF_mft h h1 h2 e
theorem diffF_mfl {m:Nat->Nat} {g:List (Nat × Blk)} {t:List (Nat × Bool)}:∀ {ls:List Nat},diffF (mfl m g ls t)=true->∀ {y:Nat},y∈ls->(∀ z∈ls,m y=m z->y=z∨(mflag g y=false/\mflag g z=false))/\(∀ f,(m y,f)∈t->f=false/\mflag g y=false)
 | [],_,y,hy=>by simp at hy
 |x::r,h,y,hy=>by
  simp only[mfl,diffF]at h
  split at h
  ·cases h
  ·rename_i hm
   rcases List.mem_cons.1 hy with h1|h1
   ·subst h1
    refine⟨fun z hz e=>?_,fun f hf=>memF_spec hm f (mfl_mem.2 (.inr hf))⟩
    rcases List.mem_cons.1 hz with h2|h2
    ·exact .inl h2.symm
    ·have:=memF_spec hm (mflag g z) (mfl_mem.2 (.inl ⟨z,h2,by rw[e]⟩))
     exact .inr ⟨this.2,this.1⟩
   ·have ih:=diffF_mfl h h1
    refine⟨fun z hz e=>?_,ih.2⟩
    rcases List.mem_cons.1 hz with h2|h2
    ·subst h2
     have:=memF_spec hm (mflag g y) (mfl_mem.2 (.inl ⟨y,h1,by rw[e]⟩))
     exact .inr ⟨this.1,this.2⟩
    ·exact ih.1 z h2 e
theorem mflag_of {g:List (Nat × Blk)} {l:Nat} {b:Blk} (h:hget g l=some b):mflag g l=b.mut:=by unfold mflag;rw[h]
structure PostC (ct:CT) (x:ct.X) (ρ:Env) (w:World) (ρ':Env) (w':World):Prop where
 heap:HSat ρ' (hget (appH (ct.g1 x) (ct.g0 x))) w'
 keep:Keep (CE ρ (ct.g0 x)) w w'
 mutin:MutIn (CE ρ (ct.g0 x)) (CA ρ (ct.g0 x)) ρ w.heap.size ρ' (hget (appH (ct.g1 x) (ct.g0 x)))
 old:∀ l,hget (ct.g0 x) l≠none->ρ' l=ρ l
theorem call_gen (H:HSat ρ G w) (K:Keep E w0 w) (M:MutIn E A ρi w0.heap.size ρ G) {ct:CT} {args:List SV} {vals:List Value} (hargs:DenL ρ args vals)
  {x:ct.X} {m:Nat->Nat} (hct:ctSt ct x=true) (hst:callSt ct G x m=true) (hok:CallOk ct args G x m):
  ∃ ρc:Env,DenL ρc (ct.args x) vals/\HSat ρc (hget (ct.g0 x)) w/\ρc.z=ρ.z/\(ρc.at_=fun l=>match hget (ct.g0 x) l with|some _=>ρ (m l)|none=>none)/\∀ w' v ρ',PostC ct x ρc w ρ' w'->Den ρ' (ct.res x) v->∃ ρn:Env,ρn.z=ρ'.z/\Den ρn (ren m (ct.res x)) v/\
   HSat ρn (upds G (appH (renH m (ct.g1 x)) (absL G m (ct.g0 x)))) w'/\Keep E w0 w'/\
   MutIn E A ρi w0.heap.size ρn (upds G (appH (renH m (ct.g1 x)) (absL G m (ct.g0 x))))/\(∀ l,G l≠none->ρn l=ρ l)/\ZLe ρ ρn/\
   (∀ l∈(ren m (ct.res x)).labs,upds G (appH (renH m (ct.g1 x)) (absL G m (ct.g0 x))) l≠none):=by
 have C:=ctSt_spec hct
 generalize hg0:ct.g0 x=g0 at*
 generalize hg1:ct.g1 x=g1 at*
 have hinj:diffF (mfl m g0 (keys g0) (mft m (newLs (keys g0) (keys g1))))=true/\freshLs G m (newLs (keys g0) (keys g1))=true/\aliasOk G m g0 g1=true:=by
  unfold callSt at hst
  rw[hg0,hg1]at hst
  split at hst
  ·rename_i h1 h2 h3 h4
   exact⟨h1,h2,h4⟩
  ·cases hst
 obtain⟨hinj,hfresh,halias⟩:=hinj
 have C0:=C.d0;have C1:=C.d1;have Cl:=C.live;have Cm:=C.mutok;have Cc:=C.chg;have Cs:=C.scp0;have Ca:=C.args;have Cs1:=C.scp1;have Cr:=C.res
 rw[hg0]at C0 Cl Cm Cc Cs Ca Cs1 Cr
 rw[hg1]at C1 Cm Cc Cs1 Cr
 have hheap:=hok.heap
 rw[hg0]at hheap
 -- all labels of the contract
 have mem0:∀ {y:Nat},hget g0 y≠none->y∈keys g0++newLs (keys g0) (keys g1):=fun h=>List.mem_append.2 (.inl (hget_some_mem h))
 have memA:∀ {y:Nat},hget (appH g1 g0) y≠none->y∈keys g0++newLs (keys g0) (keys g1):=by
  intro y h
  have h1:=hget_some_mem h
  rw[appH_eq,keys_eq,List.map_append,<- keys_eq,<- keys_eq,List.mem_append]at h1
  by_cases hy:y∈keys g0
  ·exact List.mem_append.2 (.inl hy)
  ·exact List.mem_append.2 (.inr ((newLs_mem _ _).2 ⟨h1.resolve_right hy,hy⟩))
 have minj0:∀ {y z:Nat},y∈keys g0->z∈keys g0->m y=m z->mflag g0 y=true->y=z:=by
  intro y z hy hz e hf
  rcases(diffF_mfl hinj hy).1 z hz e with h|⟨h,_⟩
  ·exact h
  ·rw[h]at hf;cases hf
 have minj:∀ {y z:Nat},y∈newLs (keys g0) (keys g1)->z∈keys g0++newLs (keys g0) (keys g1)->m y=m z->y=z:=by
  intro y z hy hz e
  rcases List.mem_append.1 hz with h|h
  ·have:=((diffF_mfl hinj h).2 true (mft_mem.2 ⟨y,hy,by rw[e]⟩)).1
   cases this
  ·exact diffF_mft (diffF_tail hinj) hy h e
 -- the callee's places
 let ρc:Env:=⟨fun l=>match hget g0 l with|some _=>ρ (m l)|none=>none,ρ.z⟩
 have ρc_of:∀ {y:Nat},hget g0 y≠none->ρc y=ρ (m y):=by
  intro y hy
  show(match hget g0 y with|some _=>ρ (m y)|none=>none)=_
  cases h:hget g0 y with
  |none=>exact absurd h hy
  |some _=>rfl
 have use:∀ {l:Nat} {b:Blk},hget g0 l=some b->BlkOk ρc w l b/\(∀ pl,ρ (m l)=some pl->∃ b',G (m l)=some b'/\(b.real->b'.real)/\(b.mut=true->b'.mut=true)):=by
  intro l b hb
  have hm:=hget_mem hb
  exact EntB_use H (EntH_mem hheap (renH_mem hm)) (Cl _ _ hm) (ρc_of (by rw[hb];simp)) rfl (fun y hy=>ρc_of (Cs _ _ hm y hy))
 have hzc:ZLe (ρ.ren m) ρc:=fun _ _ h=>h
 have Hc:HSat ρc (hget g0) w:=by
  refine⟨fun l b hb=>(use hb).1,?_,fun l b hb y hy=>Cs _ _ (hget_mem hb) y hy,?_,H.zok,?_⟩
  ·intro l1 l2 b1 b2 p1 p2 hn h1 h2 hm hv e1 e2
   have n1:hget g0 l1≠none:=by rw[h1];simp
   have n2:hget g0 l2≠none:=by rw[h2];simp
   rw[ρc_of n1]at e1
   rw[ρc_of n2]at e2
   obtain⟨c1,g1',_,k1⟩:=(use h1).2 p1 e1
   obtain⟨c2,g2',v2,_⟩:=(use h2).2 p2 e2
   exact H.inj (m l1) (m l2) c1 c2 p1 p2 (fun e=>hn (minj0 (hget_some_mem n1) (hget_some_mem n2) e (by rw[mflag_of h1];exact hm))) g1' g2' (k1 hm) (v2 hv) e1 e2
  ·intro l hl
   show(match hget g0 l with|some _=>ρ (m l)|none=>none)=none
   rw[hl]
  ·intro l b p hb hm hp
   have n1:hget g0 l≠none:=by rw[hb];simp
   rw[ρc_of n1]at hp
   obtain⟨c1,g1',_,k1⟩:=(use hb).2 p hp
   exact H.zap (m l) c1 p g1' (k1 hm) hp
 have hargs':DenL ρc (ct.args x) vals:=by
  have:=EntL.den H.tight _ _ _ hok.args hargs
  rw[DenL_ren]at this
  exact DenL.congr hzc _ _ (fun y hy=>(ρc_of (Ca y hy)).symm) this
 refine⟨ρc,hargs',Hc,rfl,rfl,?_⟩
 rintro w' v ρ' ⟨H',K',M',hkeep⟩ hv
 rw[hg0,hg1]at H' M'
 rw[hg0]at K' hkeep
 -- the caller's places
 let ρn:Env:=⟨fun l'=>match inv m (newLs (keys g0) (keys g1)) l' with|some l=>ρ' l|none=>ρ l',ρ'.z⟩
 have hzn:ZLe ρ' (ρn.ren m):=fun _ _ h=>h
 have ρn_old:∀ {l':Nat},G l'≠none->ρn l'=ρ l':=by
  intro l' hl'
  show(match inv m _ l' with|some l=>ρ' l|none=>ρ l')=_
  cases h:inv m (newLs (keys g0) (keys g1)) l' with
  |none=>rfl
  |some l=>
   obtain⟨h1,h2⟩:=inv_some h
   exact absurd (h2▸freshLs_spec hfresh l h1) hl'
 have ρn_of:∀ {y:Nat},y∈keys g0++newLs (keys g0) (keys g1)->ρn (m y)=ρ' y:=by
  intro y hy
  show(match inv m _ (m y)with|some l=>ρ' l|none=>ρ (m y))=_
  cases h:inv m (newLs (keys g0) (keys g1)) (m y)with
  |some l=>
   obtain⟨h1,h2⟩:=inv_some h
   rw[minj h1 hy h2]
  |none=>
   rcases List.mem_append.1 hy with h1|h1
   ·have hn:=hget_not_none h1
    rw[hkeep y hn,ρc_of hn]
   ·exact absurd rfl (inv_none h y h1)
 have hwr:∀ {l':Nat},upds G (appH (renH m g1) (absL G m g0)) l'=match hget (renH m g1) l' with|some b=>some b|none=>match hget (absL G m g0) l' with|some b=>some b|none=>G l':=by
  intro l'
  rw[appH_eq,upds_eq,hget_append,upds_eq]
  cases hget (renH m g1) l' <;>rfl
 -- a label of the caller's: out of g1, out of the nil slices, or as it was
 have kinds:∀ {l':Nat} {b':Blk},upds G (appH (renH m g1) (absL G m g0)) l'=some b'->
   (∃ l b,hget g1 l=some b/\m l=l'/\b'=b.ren m)∨
   (∃ l b,hget g0 l=some b/\m l=l'/\b'=b.ren m/\G l'=none/\l∉keys g1)∨
   (G l'=some b'/\∀ l∈keys g1,m l≠l'):=by
  intro l' b' h
  rw[hwr]at h
  cases h1:hget (renH m g1) l' with
  |some c=>
   rw[h1]at h;cases h
   have hm:=hget_mem h1
   have:∀ {g:List (Nat × Blk)},(l',b')∈renH m g->∃ l b,(l,b)∈g/\m l=l'/\b'=b.ren m:=by
    intro g
    induction g with
    |nil=>intro h;cases h
    |cons z r ih=>
     obtain⟨k,u⟩:=z
     intro h
     rcases List.mem_cons.1 h with h|h
     ·cases h;exact⟨k,u,by simp,rfl,rfl⟩
     ·obtain⟨l,b,q1,q2⟩:=ih h;exact⟨l,b,List.mem_cons_of_mem _ q1,q2⟩
   obtain⟨l,b,q1,q2,q3⟩:=this hm
   exact .inl ⟨l,b,hget_of_mem C1 q1,q2,q3⟩
  |none=>
   have hno:∀ l∈keys g1,m l≠l':=by
    intro l hl e
    rw[hget_none_iff,keys_renH,mapN_eq]at h1
    exact h1 (List.mem_map.2 ⟨l,hl,e⟩)
   rw[h1]at h
   simp only at h
   cases h2:hget (absL G m g0) l' with
   |some c=>
    rw[h2]at h;cases h
    obtain⟨l,b,q1,q2,q3,q4⟩:=absL_spec (hget_mem h2)
    exact .inr (.inl ⟨l,b,hget_of_mem C0 q1,q2,q3,q4,fun hl=>hno l hl q2⟩)
   |none=>rw[h2]at h;exact .inr (.inr ⟨h,hno⟩)
 have defined:∀ {y:Nat},y∈keys g0++newLs (keys g0) (keys g1)->upds G (appH (renH m g1) (absL G m g0)) (m y)≠none:=by
  intro y hy
  rw[hwr]
  cases h1:hget (renH m g1) (m y)with
  |some c=>simp
  |none=>
   rcases List.mem_append.1 hy with h2|h2
   ·have hn:=hget_not_none h2
    cases hb:hget g0 y with
    |none=>exact absurd hb hn
    |some b=>
     cases hG:G (m y)with
     |some c=>cases hget (absL G m g0) (m y) <;>simp
     |none=>
      have:=absL_has (hget_mem hb) hG
      cases h3:hget (absL G m g0) (m y)with
      |some c=>simp
      |none=>
       rw[hget_none_iff,keys_eq]at h3
       exact absurd (List.mem_map.2 ⟨_,this,rfl⟩) h3
   ·rw[hget_none_iff,keys_renH,mapN_eq]at h1
    exact absurd (List.mem_map.2 ⟨y,((newLs_mem _ _).1 h2).1,rfl⟩) h1
 have defined':∀ {l':Nat},G l'≠none->upds G (appH (renH m g1) (absL G m g0)) l'≠none:=by
  intro l' h
  rw[hwr]
  cases hget (renH m g1) l' with
  |some c=>simp
  |none=>cases hget (absL G m g0) l' with
   |some c=>simp
   |none=>exact h
 have get1:∀ {l:Nat} {b:Blk},hget g1 l=some b->hget (appH g1 g0) l=some b:=by
  intro l b h
  rw[appH_eq,hget_append,upds_eq,h]
 have mem1:∀ {l:Nat} {b:Blk},hget g1 l=some b->l∈keys g0++newLs (keys g0) (keys g1):=fun h=>memA (by rw[get1 h];simp)
 -- an untouched label's place against one of the contract's
 have notCE:∀ {l':Nat} {b':Blk} {p1:Place},G l'=some b'->(∀ l∈keys g1,m l≠l')->b'.real->ρ l'=some p1->¬ CE ρc g0 p1.b:=by
  intro l' b' p1 hG hno hv' e1
  rintro⟨l3,b3,p3,h3,hm3,e3,e4⟩
  have hn3:hget g0 l3≠none:=by rw[h3];simp
  rw[ρc_of hn3]at e3
  obtain⟨c,hc,hcl,hcm⟩:=(use h3).2 p3 e3
  have hne:m l3≠l':=hno l3 (Cm _ _ (hget_mem h3) hm3)
  exact H.inj (m l3) l' c b' p3 p1 hne hc hG (hcm hm3) hv' e3 e1 e4
 have notZ:∀ {l':Nat} {b':Blk} {p1:Place},G l'=some b'->(∀ l∈keys g1,m l≠l')->b'.mut=true->ρ l'=some p1->ρ'.z p1.b=none:=by
  intro l' b' p1 hG hno hv' e1
  cases hz:ρ'.z p1.b with
  |none=>rfl
  |some o=>
   exfalso
   rcases M'.zi p1.b (by rw[hz];simp)with h|h|h
   ·exact h (H.zap l' b' p1 hG hv' e1)
   ·exact notCE hG hno (Blk.real_of_mut hv') e1 h
   ·have:=(H.blk _ _ hG).lt (Blk.real_of_mut hv') e1
    omega
 have far:∀ {l' l:Nat} {b' b:Blk} {p1 p2:Place},G l'=some b'->(∀ l∈keys g1,m l≠l')->hget g1 l=some b->b'.real->b.real->(b'.mut=true∨b.mut=true)->
   ρ l'=some p1->ρ' l=some p2->p1.b≠p2.b:=by
  intro l' l b' b p1 p2 hG hno hb hv' hvb hmm e1 e2
  have hlt:=(H.blk _ _ hG).lt hv' e1
  cases h0:hget g0 l with
  |some b0=>
   have hmut:=Cc l b (hget_mem hb) b0 h0
   have hn0:hget g0 l≠none:=by rw[h0];simp
   rw[hkeep l hn0,ρc_of hn0]at e2
   obtain⟨c,hc,hcl,hcm⟩:=(use h0).2 p2 e2
   have hne:m l≠l':=hno l (hget_some_mem (by rw[hb];simp))
   exact(H.inj (m l) l' c b' p2 p1 hne hc hG (hcm hmut) hv' e2 e1).symm
  |none=>
   intro e
   cases hbm:b.mut with
   |true=>
    rcases M'.m l b p2 (get1 hb) hbm e2 with h|h
    ·exact notCE hG hno hv' e1 (e▸h)
    ·rw[e]at hlt;omega
   |false=>
    have hm':b'.mut=true:=hmm.resolve_right (by rw[hbm];simp)
    rcases M'.a l b p2 (get1 hb) hvb e2 with(⟨l3,b3,p3,h3,hr3,e3,e4⟩|h)|h
    ·have hn3:hget g0 l3≠none:=by rw[h3];simp
     have e3':=e3
     rw[ρc_of hn3]at e3
     obtain⟨c,hc,hcl,hcm⟩:=(use h3).2 p3 e3
     cases hm3:b3.mut with
     |true=>exact notCE hG hno hv' e1 ⟨l3,b3,p3,h3,hm3,e3',e4.trans e.symm⟩
     |false=>
      have key:m l3=l'->False:=by
       intro el
       cases hnb:newBor (keys g0) g1 with
       |true=>
        have hla:lentOk G m g0=true:=by
         unfold aliasOk at halias
         rw[hnb]at halias
         exact halias
        have:=lentOk_spec hla l3 b3 (hget_mem h3) hm3 b' (el▸hG)
        rw[hm']at this
        cases this
       |false=>
        have hz:ρ'.z p2.b≠none:=by
         rcases newBor_spec hnb l b (hget_mem hb) (fun hl=>hget_not_none hl h0) (Blk.live_of_real hvb)with q|⟨ks,n,f,rfl⟩|⟨cs,rfl⟩
         ·rw[hbm]at q;cases q
         ·rcases H'.blk l _ (get1 hb)with⟨q1,q2⟩|⟨pl,q1,q2,_⟩|⟨pl,arr,T,fz,q1,q2,q3,q4,_⟩
          ·rw[q1]at e2;cases e2
          ·rcases hvb with hv|hv
           ·cases hv
           ·exact absurd q2 hv
          ·rw[q1]at e2;cases e2
           rw[q4 rfl];simp
         ·obtain⟨pl,arr,T,fz,q1,q2,q3,q4,_⟩:=H'.blk l _ (get1 hb)
          rw[q1]at e2;cases e2
          rw[q4 rfl];simp
        exact hz (e▸notZ hG hno hm' e1)
      exact H.inj l' (m l3) b' c p1 p3 (fun q=>key q.symm) hG hc hm' (hcl hr3) e1 e3 (e.trans e4.symm)
    ·exact h (e▸H.zap l' b' p1 hG hm' e1)
    ·rw[e]at hlt;omega
 have ceE:∀ {k:Nat},CE ρc g0 k->E k∨w0.heap.size<=k:=by
  rintro k ⟨l3,b3,p3,h3,hm3,e3,e4⟩
  have hn3:hget g0 l3≠none:=by rw[h3];simp
  rw[ρc_of hn3]at e3
  obtain⟨c,hc,hcl,hcm⟩:=(use h3).2 p3 e3
  rw[<- e4]
  exact M.m (m l3) c p3 hc (hcm hm3) e3
 refine⟨ρn,rfl,?_,⟨?_,?_,?_,?_,H'.zok,?_⟩,?_,⟨?_,?_,?_,?_,M.za⟩,fun l hl=>ρn_old hl,M'.zx,?_⟩
 ·rw[Den_ren]
  exact Den.congr hzn _ _ (fun y hy=>(ρn_of (memA (Cr y hy))).symm) hv
 ·
  intro l' b' h
  rcases kinds h with⟨l,b,hb,rfl,rfl⟩|⟨l,b,hb,rfl,rfl,hG,hl1⟩|⟨hG,hno⟩
  ·have hB:=H'.blk l b (get1 hb)
   have hy:∀ y∈b.labs,ρn (m y)=ρ' y:=fun y hy=>ρn_of (memA (Cs1 l b (hget_mem hb) y hy))
   have hl:=ρn_of (mem1 hb)
   cases b with
   |dead=>trivial
   |one mb cs=>
    obtain⟨pl,arr,T,fz,e1,e2,e3,e3',e4,e5⟩:=hB
    refine⟨pl,arr,T,fz,hl.trans e1,e2,e3,e3',by rw[renL_length];exact e4,?_⟩
    rw[renL_length,DenL_ren]
    exact DenL.congr hzn _ _ (fun y hy'=>(hy y (by simpa[Blk.labs]using hy')).symm) e5
   |rows mb ks n f=>
    rcases hB with⟨e1,e2⟩|⟨pl,e1,e2⟩|⟨pl,arr,T,fz,e1,e2⟩
    ·exact .inl ⟨hl.trans e1,e2⟩
    ·exact .inr (.inl ⟨pl,hl.trans e1,e2⟩)
    ·exact .inr (.inr ⟨pl,arr,T,fz,hl.trans e1,e2⟩)
   |map mb kk ks ag keys f=>
    obtain⟨pl,es,clk,e1,e2⟩:=hB
    exact⟨pl,es,clk,hl.trans e1,e2⟩
  ·have hn:hget g0 l≠none:=by rw[hb];simp
   have hEB:=EntH_mem hheap (renH_mem (m:=m) (hget_mem hb))
   cases b with
   |dead=>trivial
   |one mb cs=>simp only[Blk.ren,EntB,hG]at hEB
   |rows mb ks n f=>
    simp only[Blk.ren,EntB,hG]at hEB
    refine .inl ⟨?_,hEB⟩
    rw[ρn_of (mem0 hn),hkeep l hn,ρc_of hn]
    exact H.tight _ hG
   |map mb kk ks ag keys f=>simp only[Blk.ren,EntB,hG]at hEB
  ·by_cases hv':b'.real
   ·refine(H.blk l' b' hG).mono (ρn_old (by rw[hG];simp)) (fun y hy=>ρn_old (H.scp _ _ hG y hy)) M'.zx fun pl hpl=>?_
    exact K'.block pl.b ((H.blk _ _ hG).lt hv' hpl) (notCE hG hno hv' hpl)
   ·exact(H.blk l' b' hG).unreal hv' (ρn_old (by rw[hG];simp))
 ·
  intro l1 l2 b1 b2 p1 p2 hn h1 h2 hm hv2 e1 e2
  rcases kinds h1 with⟨x1,c1,hc1,rfl,rfl⟩|⟨x1,c1,hc1,rfl,rfl,hG1,hk1⟩|⟨hG1,hno1⟩
  ·rw[ρn_of (mem1 hc1)]at e1
   rw[Blk.mut_ren]at hm
   rcases kinds h2 with⟨x2,c2,hc2,rfl,rfl⟩|⟨x2,c2,hc2,rfl,rfl,hG2,hk2⟩|⟨hG2,hno2⟩
   ·rw[ρn_of (mem1 hc2)]at e2
    rw[Blk.real_ren]at hv2
    exact H'.inj x1 x2 c1 c2 p1 p2 (fun e=>hn (by rw[e])) (get1 hc1) (get1 hc2) hm hv2 e1 e2
   ·have hn2:hget g0 x2≠none:=by rw[hc2];simp
    rw[ρn_of (mem0 hn2),hkeep x2 hn2,ρc_of hn2,H.tight _ hG2]at e2
    cases e2
   ·rw[ρn_old (by rw[hG2];simp)]at e2
    exact(far hG2 hno2 hc1 hv2 (Blk.real_of_mut hm) (.inr hm) e2 e1).symm
  ·have hn1:hget g0 x1≠none:=by rw[hc1];simp
   rw[ρn_of (mem0 hn1),hkeep x1 hn1,ρc_of hn1,H.tight _ hG1]at e1
   cases e1
  ·rw[ρn_old (by rw[hG1];simp)]at e1
   rcases kinds h2 with⟨x2,c2,hc2,rfl,rfl⟩|⟨x2,c2,hc2,rfl,rfl,hG2,hk2⟩|⟨hG2,hno2⟩
   ·rw[ρn_of (mem1 hc2)]at e2
    rw[Blk.real_ren]at hv2
    exact far hG1 hno1 hc2 (Blk.real_of_mut hm) hv2 (.inl hm) e1 e2
   ·have hn2:hget g0 x2≠none:=by rw[hc2];simp
    rw[ρn_of (mem0 hn2),hkeep x2 hn2,ρc_of hn2,H.tight _ hG2]at e2
    cases e2
   ·rw[ρn_old (by rw[hG2];simp)]at e2
    exact H.inj l1 l2 b1 b2 p1 p2 hn hG1 hG2 hm hv2 e1 e2
 ·
  intro l' b' h y hy
  rcases kinds h with⟨l,b,hb,rfl,rfl⟩|⟨l,b,hb,rfl,rfl,hG,hl1⟩|⟨hG,hno⟩
  ·rw[Blk.labs_ren]at hy
   obtain⟨z,hz,rfl⟩:=List.mem_map.1 hy
   exact defined (memA (Cs1 l b (hget_mem hb) z hz))
  ·rw[Blk.labs_ren]at hy
   obtain⟨z,hz,rfl⟩:=List.mem_map.1 hy
   exact defined (mem0 (Cs l b (hget_mem hb) z hz))
  ·exact defined' (H.scp _ _ hG y hy)
 ·
  intro l' hl'
  have hG:G l'=none:=by
   cases h:G l' with
   |none=>rfl
   |some b=>exact absurd hl' (defined' (by rw[h];simp))
  show(match inv m _ l' with|some l=>ρ' l|none=>ρ l')=none
  cases h:inv m (newLs (keys g0) (keys g1)) l' with
  |none=>exact H.tight _ hG
  |some l=>
   obtain⟨h1,h2⟩:=inv_some h
   exact absurd hl' (h2▸defined (List.mem_append.2 (.inr h1)))
 ·
  intro l' b' p h hm hp
  rcases kinds h with⟨l,b,hb,rfl,rfl⟩|⟨l,b,hb,rfl,rfl,hG,hl1⟩|⟨hG,hno⟩
  ·rw[ρn_of (mem1 hb)]at hp
   rw[Blk.mut_ren]at hm
   exact H'.zap l b p (get1 hb) hm hp
  ·have hn:hget g0 l≠none:=by rw[hb];simp
   rw[ρn_of (mem0 hn),hkeep l hn,ρc_of hn,H.tight _ hG]at hp
   cases hp
  ·rw[ρn_old (by rw[hG];simp)]at hp
   exact notZ hG hno hm hp
 ·
  refine⟨K'.os.trans K.os,K'.tape.trans K.tape,K'.output.trans K.output,Nat.le_trans K.size K'.size,fun k hk hE=>?_⟩
  rw[K'.block k (Nat.lt_of_lt_of_le hk K.size) ?_]
  ·exact K.block k hk hE
  ·intro h
   rcases ceE h with h|h
   ·exact hE h
   ·omega
 ·
  intro l' b' pl h hm hpl
  rcases kinds h with⟨l,b,hb,rfl,rfl⟩|⟨l,b,hb,rfl,rfl,hG,hl1⟩|⟨hG,hno⟩
  ·rw[ρn_of (mem1 hb)]at hpl
   rw[Blk.mut_ren]at hm
   rcases M'.m l b pl (get1 hb) hm hpl with h|h
   ·exact ceE h
   ·right;have:=K.size;omega
  ·have hn:hget g0 l≠none:=by rw[hb];simp
   rw[ρn_of (mem0 hn),hkeep l hn,ρc_of hn,H.tight _ hG]at hpl
   cases hpl
  ·rw[ρn_old (by rw[hG];simp)]at hpl
   exact M.m l' b' pl hG hm hpl
 ·
  intro l' b' pl h hr hpl
  rcases kinds h with⟨l,b,hb,rfl,rfl⟩|⟨l,b,hb,rfl,rfl,hG,hl1⟩|⟨hG,hno⟩
  ·rw[ρn_of (mem1 hb)]at hpl
   rw[Blk.real_ren]at hr
   rcases M'.a l b pl (get1 hb) hr hpl with(⟨l3,b3,p3,h3,hr3,e3,e4⟩|h)|h
   ·have hn3:hget g0 l3≠none:=by rw[h3];simp
    rw[ρc_of hn3]at e3
    obtain⟨c,hc,hcl,hcm⟩:=(use h3).2 p3 e3
    rw[<- e4]
    exact M.a (m l3) c p3 hc (hcl hr3) e3
   ·rcases M.zi pl.b h with h|h|h
    ·exact .inl (M.za _ (.inl h))
    ·exact .inl (M.za _ (.inr h))
    ·exact .inr h
   ·right;have:=K.size;omega
  ·have hn:hget g0 l≠none:=by rw[hb];simp
   rw[ρn_of (mem0 hn),hkeep l hn,ρc_of hn,H.tight _ hG]at hpl
   cases hpl
  ·rw[ρn_old (by rw[hG];simp)]at hpl
   exact M.a l' b' pl hG hr hpl
 ·exact fun b o h=>M'.zx b o (M.zx b o h)
 ·intro b h
  rcases M'.zi b h with h|h|h
  ·exact M.zi b h
  ·exact .inr (ceE h)
  ·have:=K.size
   exact .inr (.inr (by omega))
 ·intro l hl
  rw[labs_ren]at hl
  obtain⟨z,hz,rfl⟩:=List.mem_map.1 hl
  exact defined (memA (Cr z hz))
theorem call_sound [Glob] (hg:Glob.ok ρi) (H:HSat ρ G w) (K:Keep E w0 w) (M:MutIn E A ρi w0.heap.size ρ G) {f:Nat} {ct:CT} (good:Good P f ct) {args:List SV} {vals:List Value} (hargs:DenL ρ args vals)
  {x:ct.X} {m:Nat->Nat} (hst:callSt ct G x m=true) (hok:CallOk ct args G x m):
  Calls P f vals.toArray w fun e w'=>∃ v ρ',e= .returned v/\Den ρ' (ren m (ct.res x)) v/\HSat ρ' (upds G (appH (renH m (ct.g1 x)) (absL G m (ct.g0 x)))) w'/\Keep E w0 w'/\
   MutIn E A ρi w0.heap.size ρ' (upds G (appH (renH m (ct.g1 x)) (absL G m (ct.g0 x))))/\(∀ l,G l≠none->ρ' l=ρ l)/\ZLe ρ ρ'/\
   (∀ l∈(ren m (ct.res x)).labs,upds G (appH (renH m (ct.g1 x)) (absL G m (ct.g0 x))) l≠none):=by
 obtain⟨hct,hcall⟩:=good x hok.pre
 obtain⟨ρc,h1,h2,hzc,_,h3⟩:=call_gen H K M hargs hct hst hok
 refine(hcall ρc w vals (Glob.mono (fun b o h=>by rw[hzc];exact M.zx b o h) hg) h1 h2).mono ?_
 rintro e w' ⟨v,ρ',rfl,hv,H',K',M',hkeep⟩
 obtain⟨ρn,_,k⟩:=h3 w' v ρ' ⟨H',K',M',hkeep⟩ hv
 exact⟨v,ρn,rfl,k⟩
end
end Go.Sym
namespace Go.Sym
set_option linter.unusedVariables false
set_option linter.unusedSimpArgs false
inductive Ev (c:Cfg):Oper->Fr->Hp->SV->List (Nat × Blk)->FP->Prop where
 |pick {dst ty pos af gd x a b F G} (t:Bool) (h:oa F x= .b t∨oa F x= .bt t):
  Ev c ⟨dst,.pick x a b,ty,pos,af,gd⟩ F G (if t then oa F a else oa F b) [] ⟨[],[]⟩
 |call {dst ty pos af gd f args tys F G g caps all} (ct:CT) (x:ct.X) (m:Nat->Nat) (d:Nat) (h1:(oa F f= .fn g caps/\all=args.toList.map (oa F)++caps)∨(oa F f= .bm g caps/\all=caps++args.toList.map (oa F))) (h2:CMem c g ct) (h3:dst=some d)
  (h4:callSt ct G x m=true) (h5:CallOk ct all G x m):
  Ev c ⟨dst,.call ⟨.value f,args,tys⟩,ty,pos,af,gd⟩ F G (ren m (ct.res x)) (appH (renH m (ct.g1 x)) (absL G m (ct.g0 x)))
   ⟨mapN m (apL (keys (ct.g0 x)) (keys (ct.g1 x))),keys (appH (renH m (ct.g1 x)) (absL G m (ct.g0 x)))⟩
 |plain {o F G} (r:Res) (h1:evZ c.T c.wraps F G o=some r) (h2:r.Pre):Ev c o F G r.v r.wr ⟨r.rd,keys r.wr⟩
def KnOk (kn:List (Nat × Bool)) (F:Fr):Prop:=∀ s v,kfind kn s=some v->∀ t,F s= .b t->t=v
theorem callK_ev {c:Cfg} {F:Fr} {G:Hp} {dst:Option Nat} {ty:TypeId} {pos:String} {af:Array Edge} {gd:Option (Nat × Bool)} {f:Operand} {args:Array Operand} {tys:Array TypeId} {g:Nat} {caps all:List SV}
  {k:SV->List (Nat × Blk)->FP->Prop} (hf:(oa F f= .fn g caps/\all=args.toList.map (oa F)++caps)∨(oa F f= .bm g caps/\all=caps++args.toList.map (oa F))) (h:callK c g all dst G k):
  ∃ v wr fp,Ev c ⟨dst,.call ⟨.value f,args,tys⟩,ty,pos,af,gd⟩ F G v wr fp/\k v wr fp:=by
 unfold callK at h
 split at h
 ·rename_i con d hct
  rw[fL_eq]at h
  have key:∀(con':Con),(∀ ct,con'.Has ct->con.Has ct)->callC all d G k con'->∃ v wr fp,Ev c ⟨some d,.call ⟨.value f,args,tys⟩,ty,pos,af,gd⟩ F G v wr fp/\k v wr fp:=by
   intro con'
   induction con' with
   |one ct=>
    intro hsub h
    obtain⟨x,h⟩:=h
    unfold callX at h
    split at h
    ·rename_i hst
     obtain⟨h1,h2,h3,h4⟩:=h
     exact⟨_,_,_,.call ct x (mget (mcall d ct _ G x)) d hf ⟨con,hct,hsub ct rfl⟩ rfl hst ⟨h1,h2,h3⟩,h4⟩
    ·exact h.elim
   |two sel a b iha ihb=>
    intro hsub h
    cases hs:sel all G with
    |true=>exact iha (fun ct hc=>hsub ct (.inl hc)) (by simp only[callC,hs]at h;exact h)
    |false=>exact ihb (fun ct hc=>hsub ct (.inr hc)) (by simp only[callC,hs]at h;exact h)
  exact key con (fun _ h=>h) h
 ·exact h.elim
 ·exact h.elim
theorem plain_ev {c:Cfg} {o:Oper} {F:Fr} {G:Hp} {k:SV->List (Nat × Blk)->FP->Prop}
  (h:match evZ c.T c.wraps F G o with|none=>Stuck 6 (dN o.dst)|some r=>match r.pre with|none=>k r.v r.wr ⟨r.rd,keys r.wr⟩|some p=>ob (dN o.dst) p/\k r.v r.wr ⟨r.rd,keys r.wr⟩):
  ∃ v wr fp,Ev c o F G v wr fp/\k v wr fp:=by
 split at h
 ·exact h.elim
 ·rename_i r hr
  split at h
  ·rename_i hp
   exact⟨_,_,_,.plain r hr (by simp[Res.Pre,hp]),h⟩
  ·rename_i p hp
   exact⟨_,_,_,.plain r hr (by simp[Res.Pre,hp];exact h.1),h.2⟩
theorem stepK_ev {c:Cfg} {o:Oper} {kn:List (Nat × Bool)} {F:Fr} {G:Hp} {k:SV->List (Nat × Blk)->FP->Prop} (hk:KnOk kn F) (h:stepK c o kn F G k):
  ∃ v wr fp,Ev c o F G v wr fp/\k v wr fp:=by
 obtain⟨dst,op,ty,pos,af,gd⟩:=o
 unfold stepK at h
 cases op <;>simp only[]at h <;>try exact plain_ev h
 case pick x a b=>
  split at h
  ·rename_i hx
   exact⟨_,_,_,.pick true (.inr hx),by simpa using h⟩
  ·rename_i hx
   exact⟨_,_,_,.pick false (.inr hx),by simpa using h⟩
  ·rename_i v hx
   split at h
   ·rename_i hkn
    have:v=true:=by
     cases x <;>simp only[kfindO]at hkn <;>try cases hkn
     exact hk _ _ hkn v hx
    subst this
    exact⟨_,_,_,.pick true (.inl hx),by simpa using h⟩
   ·rename_i hkn
    have:v=false:=by
     cases x <;>simp only[kfindO]at hkn <;>try cases hkn
     exact hk _ _ hkn v hx
    subst this
    exact⟨_,_,_,.pick false (.inl hx),by simpa using h⟩
   ·cases v with
    |true=>exact⟨_,_,_,.pick true (.inl hx),by simpa using h.1 rfl⟩
    |false=>exact⟨_,_,_,.pick false (.inl hx),by simpa using h.2 rfl⟩
  ·exact h.elim
 case call cl=>
  obtain⟨callee,args,tys⟩:=cl
  cases callee <;>simp only[]at h <;>try exact plain_ev h
  split at h
  ·rename_i g caps hf
   exact callK_ev (.inl ⟨hf,rfl⟩) h
  ·rename_i g caps hf
   exact callK_ev (.inr ⟨hf,rfl⟩) h
  ·exact h.elim
inductive Ev1 (c:Cfg) (all:List Oper):Oper->Fr->Hp->SV->List (Nat × Blk)->FP->Prop where
 |go {o F G v wr fp} (h:o.guard=none) (e:Ev c o F G v wr fp):Ev1 c all o F G v wr fp
 |yes {o F G v wr fp} (j:Nat) (want:Bool) (s:Nat) (h:o.guard=some (j,want)) (hs:slotOf all j=some s) (ht:F s= .b want∨F s= .bt want) (e:Ev c o F G v wr fp):Ev1 c all o F G v wr fp
 |no {o F G} (j:Nat) (want:Bool) (s:Nat) (h:o.guard=some (j,want)) (hs:slotOf all j=some s) (ht:F s= .b (!want)∨F s= .bt (!want)∨F s= .tup []):Ev1 c all o F G (.tup []) [] ⟨[],[]⟩
inductive Chain (c:Cfg) (all:List Oper):List (Oper × FP)->Fr->Hp->Fr->Hp->Prop where
 |nil {F G}:Chain c all [] F G F G
 |cons {o fp l F G F' G'} (v:SV) (wr:List (Nat × Blk)) (e:Ev1 c all o F G v wr fp) (t:Chain c all l (updO F o.dst v) (upds G wr) F' G'):Chain c all ((o,fp)::l) F G F' G'
theorem fget_consO (d:Option Nat) (v:SV) (fr:List (Nat × SV)):fget (consO d v fr)=updO (fget fr) d v:=by
 cases d with
 |none=>rfl
 |some d=>exact fget_cons d v fr
theorem kdrop_find {d:Option Nat} {kn:List (Nat × Bool)} {s:Nat} {v:Bool} (h:kfind (kdrop d kn) s=some v):(∀ d',d=some d'->d'≠s)/\kfind kn s=some v:=by
 induction kn with
 |nil=>simp[kdrop,kfind]at h
 |cons x r ih=>
  obtain⟨k,b⟩:=x
  unfold kdrop at h
  cases d with
  |none=>exact⟨fun _ e=>(by cases e),h⟩
  |some d=>
   simp only at h
   cases hkd:Nat.beq k d with
   |true=>
    rw[hkd]at h
    obtain⟨h1,h2⟩:=ih h
    refine⟨h1,?_⟩
    have hk:=Nat.eq_of_beq_eq_true hkd
    have hne:k≠s:=hk▸h1 d rfl
    unfold kfind
    rw[beq_ne hne]
    exact h2
   |false=>
    rw[hkd]at h
    simp only at h
    unfold kfind at h ⊢
    cases hks:Nat.beq k s with
    |true=>
     rw[hks]at h
     refine⟨fun d' e=>?_,h⟩
     cases e
     rw[<- Nat.eq_of_beq_eq_true hks]
     intro e2
     rw[e2]at hkd
     simp at hkd
    |false=>
     rw[hks]at h
     exact ih h
theorem KnOk.next {kn:List (Nat × Bool)} {F:Fr} (h:KnOk kn F) (d:Option Nat) (v:SV):KnOk (kdrop d kn) (updO F d v):=by
 intro s b hs t ht
 obtain⟨h1,h2⟩:=kdrop_find hs
 refine h s b h2 t ?_
 cases d with
 |none=>exact ht
 |some d=>
  have hne:=h1 d rfl
  have ht':(match Nat.beq d s with|true=>v|false=>F s)= .b t:=ht
  rw[beq_ne hne]at ht'
  exact ht'
theorem KnOk.cons {kn:List (Nat × Bool)} {F:Fr} (h:KnOk kn F) {s:Nat} {v t:Bool} (hs:F s= .b t) (ht:t=v):KnOk ((s,v)::kn) F:=by
 intro s' v' h' t' ht'
 unfold kfind at h'
 cases hb:Nat.beq s s' with
 |true=>
  rw[hb]at h'
  cases h'
  rw[<- Nat.eq_of_beq_eq_true hb,hs]at ht'
  cases ht'
  exact ht
 |false=>
  rw[hb]at h'
  exact h s' v' h' t' ht'
theorem pickN_spec {n:Nat}:∀ {cs:List Nat} {c:Nat},pickN n cs=some c->c=n
 | [],c,h=>by cases h
 |x::r,c,h=>by
  unfold pickN at h
  split at h
  ·rename_i hb;cases h;exact(Nat.eq_of_beq_eq_true hb).symm
  ·exact pickN_spec h
theorem fN_spec {cs:List Nat}:∀ {l:List Nat} {k:List Nat->Prop},fN cs l k->k l
 | [],k,h=>h
 |n::r,k,h=>by
  unfold fN at h
  split at h
  ·rename_i c hc
   have:=fN_spec h
   rw[pickN_spec hc]at this
   exact this
  ·exact h.elim
theorem fFP_spec {cs:List Nat} {fp:FP} {k:FP->Prop} (h:fFP cs fp k):k fp:=by
 unfold fFP at h
 exact fN_spec (fN_spec h)
theorem goOn_ev {c:Cfg} {o:Oper} {kn:List (Nat × Bool)} {fr:List (Nat × SV)} {hp:List (Nat × Blk)} {k:FP->List (Nat × SV)->List (Nat × Blk)->Prop} (hk:KnOk kn (fget fr)) (h:goOn c o kn fr hp k):
  ∃ v wr fp,Ev c o (fget fr) (hget hp) v wr fp/\k fp (consO o.dst v fr) (wr++hp):=by
 unfold goOn at h
 obtain⟨v,wr,fp,he,h⟩:=stepK_ev hk h
 rw[fV_eq,fH_eq]at h
 replace h:=fFP_spec h
 refine⟨v,wr,fp,he,?_⟩
 cases hd:o.dst <;>rw[hd]at h <;>exact h
theorem runOps_chain {c:Cfg} {all:List Oper} {dr:Bool}:∀(l:List Oper) (lg:List FP) (kn:List (Nat × Bool)) (fr:List (Nat × SV)) (hp:List (Nat × Blk)) {K:List (Nat × SV)->List (Nat × Blk)->Prop},
  KnOk kn (fget fr)->runOps c all dr l lg kn fr hp K->
  ∃(fps:List FP) (fr':List (Nat × SV)) (hp':List (Nat × Blk)),fps.length=l.length/\Chain c all (l.zip fps) (fget fr) (hget hp) (fget fr') (hget hp')/\K fr' hp'/\
   (dr=true->indep all (lg.reverse++fps)=true)
 | [],lg,kn,fr,hp,K,hk,h=>by
  unfold runOps at h
  cases dr with
  |false=>exact⟨[],fr,hp,rfl,.nil,h,by simp⟩
  |true=>
   dsimp only at h
   split at h
   ·rename_i hi
    exact⟨[],fr,hp,rfl,.nil,h,fun _=>by simpa using hi⟩
   ·exact h.elim
 |o::os,lg,kn,fr,hp,K,hk,h=>by
  have go:∀(kn':List (Nat × Bool)),KnOk kn' (fget fr)->(∀ {v wr fp},Ev c o (fget fr) (hget hp) v wr fp->Ev1 c all o (fget fr) (hget hp) v wr fp)->
    (goOn c o kn' fr hp fun fp fr hp=>match(generalizing:=false) dr with
     |true=>runOps c all dr os (fp::lg) (kdrop o.dst kn') fr hp K
     |false=>runOps c all dr os [] (kdrop o.dst kn') fr hp K)->
    ∃(fps:List FP) (fr':List (Nat × SV)) (hp':List (Nat × Blk)),fps.length=(o::os).length/\Chain c all ((o::os).zip fps) (fget fr) (hget hp) (fget fr') (hget hp')/\K fr' hp'/\
     (dr=true->indep all (lg.reverse++fps)=true):=by
   intro kn' hk' hev hg
   obtain⟨v,wr,fp,he,h1⟩:=goOn_ev hk' hg
   have hk2:KnOk (kdrop o.dst kn') (fget (consO o.dst v fr)):=by rw[fget_consO];exact hk'.next o.dst v
   cases hdr:dr with
   |true=>
    subst hdr
    obtain⟨fps,fr',hp',g1,g2,g3,g4⟩:=runOps_chain os (fp::lg) _ _ _ hk2 h1
    refine⟨fp::fps,fr',hp',by simp[g1],?_,g3,fun _=>by simpa using g4 rfl⟩
    rw[List.zip_cons_cons]
    rw[fget_consO,hget_append]at g2
    exact .cons v wr (hev he) g2
   |false=>
    subst hdr
    obtain⟨fps,fr',hp',g1,g2,g3,g4⟩:=runOps_chain os [] _ _ _ hk2 h1
    refine⟨fp::fps,fr',hp',by simp[g1],?_,g3,fun e=>by cases e⟩
    rw[List.zip_cons_cons]
    rw[fget_consO,hget_append]at g2
    exact .cons v wr (hev he) g2
  have skip:∀(kn':List (Nat × Bool)),KnOk kn' (fget fr)->Ev1 c all o (fget fr) (hget hp) (.tup []) [] ⟨[],[]⟩->
    (match(generalizing:=false) dr with
     |true=>runOps c all dr os (⟨[],[]⟩::lg) (kdrop o.dst kn') (consO o.dst (.tup []) fr) hp K
     |false=>runOps c all dr os [] (kdrop o.dst kn') (consO o.dst (.tup []) fr) hp K)->
    ∃(fps:List FP) (fr':List (Nat × SV)) (hp':List (Nat × Blk)),fps.length=(o::os).length/\Chain c all ((o::os).zip fps) (fget fr) (hget hp) (fget fr') (hget hp')/\K fr' hp'/\
     (dr=true->indep all (lg.reverse++fps)=true):=by
   intro kn' hk' he h1
   have hk2:KnOk (kdrop o.dst kn') (fget (consO o.dst (.tup []) fr)):=by rw[fget_consO];exact hk'.next o.dst (.tup [])
   cases hdr:dr with
   |true=>
    subst hdr
    obtain⟨fps,fr',hp',g1,g2,g3,g4⟩:=runOps_chain os (⟨[],[]⟩::lg) _ _ _ hk2 h1
    refine⟨⟨[],[]⟩::fps,fr',hp',by simp[g1],?_,g3,fun _=>by simpa using g4 rfl⟩
    rw[List.zip_cons_cons]
    rw[fget_consO]at g2
    exact .cons (.tup []) [] he g2
   |false=>
    subst hdr
    obtain⟨fps,fr',hp',g1,g2,g3,g4⟩:=runOps_chain os [] _ _ _ hk2 h1
    refine⟨⟨[],[]⟩::fps,fr',hp',by simp[g1],?_,g3,fun e=>by cases e⟩
    rw[List.zip_cons_cons]
    rw[fget_consO]at g2
    exact .cons (.tup []) [] he g2
  unfold runOps at h
  split at h
  ·exact h.elim
  ·rename_i hdo
   refine go kn hk (fun he=>?_) h
   unfold doIt at hdo
   split at hdo
   ·rename_i hg;exact .go hg he
   ·rename_i j want hg
    split at hdo
    ·cases hdo
    ·rename_i s hs
     split at hdo
     ·rename_i v hv
      cases v <;>cases want <;>simp only[]at hdo <;>first|exact .yes j _ s hg hs (.inr hv) he|cases hdo
     ·rename_i v hv
      split at hdo <;>try(cases hdo;done)
      ·rename_i hkn
       rw[hk _ _ hkn v hv]at hv
       exact .yes j _ s hg hs (.inl hv) he
      ·rename_i hkn
       rw[hk _ _ hkn v hv]at hv
       exact .yes j _ s hg hs (.inl hv) he
     ·split at hdo <;>cases hdo
     ·cases hdo
  ·rename_i hdo
   refine skip kn hk ?_ h
   unfold doIt at hdo
   split at hdo
   ·cases hdo
   ·rename_i j want hg
    split at hdo
    ·cases hdo
    ·rename_i s hs
     split at hdo
     ·rename_i v hv
      cases v <;>cases want <;>simp only[]at hdo <;>first|exact .no j _ s hg hs (.inr (.inl hv))|cases hdo
     ·rename_i v hv
      split at hdo <;>try(cases hdo;done)
      ·rename_i hkn
       rw[hk _ _ hkn v hv]at hv
       exact .no j _ s hg hs (.inl hv)
      ·rename_i hkn
       rw[hk _ _ hkn v hv]at hv
       exact .no j _ s hg hs (.inl hv)
     ·rename_i cs hv
      split at hdo
      ·exact .no j _ s hg hs (.inr (.inr hv))
      ·cases hdo
     ·cases hdo
  ·rename_i s v want hdo
   have hd:∃ j,o.guard=some (j,want)/\slotOf all j=some s/\fget fr s= .b v:=by
    unfold doIt at hdo
    split at hdo
    ·cases hdo
    ·rename_i j want' hg
     split at hdo
     ·cases hdo
     ·rename_i s' hs
      split at hdo
      ·rename_i v' hv
       cases v' <;>cases want' <;>simp only[]at hdo <;>cases hdo
      ·rename_i v' hv
       split at hdo <;>cases hdo
       ·exact⟨j,hg,hs,hv⟩
       ·exact⟨j,hg,hs,hv⟩
      ·split at hdo <;>cases hdo
      ·cases hdo
   obtain⟨j,hg,hs,hv⟩:=hd
   by_cases hvw:v=want
   ·exact go _ (hk.cons hv hvw) (fun he=>.yes j want s hg hs (.inl (hvw▸hv)) he) (h.1 hvw)
   ·have hvw':v= !want:=by cases v <;>cases want <;>simp_all
    exact skip _ (hk.cons hv hvw') (.no j want s hg hs (.inl (hvw'▸hv))) (h.2 hvw')
end Go.Sym
namespace Go.Sym
set_option linter.unusedVariables false
set_option linter.unusedSimpArgs false
def FnOk (P:Program) (g:Nat):Prop:=∃ fn,P.funcs[g]? =some fn/\(fn.name== "runtime.NumGoroutine")=false/\fn.body.isNone=false
def ConOk [Glob] (P:Program) (c:Cfg):Prop:=∀ g ct,CMem c g ct->Good P g ct/\FnOk P g
section
variable {ρi:Env} {P:Program} {E A:Nat->Prop} {w0:World} {ρ:Env} {F:Fr} {G:Hp} {a:Act} {w:World} {c:Cfg} {all:List Oper} {Q:Exit->Act->World->Prop} {K:Act->World->Prop} {r:Option Nat}
theorem upd_labs {G:Hp} {wr:List (Nat × Blk)} {l:Nat} (h:G l≠none):upds G wr l≠none:=by
 rw[upds_eq]
 cases hget wr l with
 |some b=>simp
 |none=>exact h
theorem St.next (S:St ρi E A w0 ρ F G a w) {dst:Option Nat} {v:SV} {wr:List (Nat × Blk)} {u:Value} {w':World} {ρ':Env} (hd:∀ d,dst=some d->d<a.tmps.size) (hv:Den ρ' v u)
  (h1:HSat ρ' (upds G wr) w') (h2:Keep E w0 w') (h3:MutIn E A ρi w0.heap.size ρ' (upds G wr)) (h4:∀ l,G l≠none->ρ' l=ρ l) (h4z:ZLe ρ ρ') (h5:∀ l∈v.labs,upds G wr l≠none) (h6:∀ l,100000<=l->G l=none->upds G wr l=none):
  St ρi E A w0 ρ' (updO F dst v) (upds G wr) (a.put dst u) w':=by
 have hold:∀ t,Den ρ' (F t) (a.tmps.getD t undef):=fun t=>Den.congr h4z _ _ (fun l hl=>(h4 l (S.scp t l hl)).symm) (S.fr t)
 refine⟨h1,fun t=>?_,fun t l hl=>?_,h2,h3,fun l hl hn=>?_⟩
 ·cases dst with
  |none=>exact hold t
  |some d=>
   have hd:=hd d rfl
   show Den ρ' (match Nat.beq d t with|true=>v|false=>F t) ((a.tmps.setIfInBounds d u).getD t undef)
   cases hb:Nat.beq d t with
   |true=>
    have:=Nat.eq_of_beq_eq_true hb
    subst this
    simpa[hd]using hv
   |false=>
    have hne:d≠t:=fun e=>by subst e;simp at hb
    have:(a.tmps.setIfInBounds d u).getD t undef=a.tmps.getD t undef:=by
     simp[Array.getD_eq_getD_getElem?,Array.getElem?_setIfInBounds,hne]
    rw[this]
    exact hold t
 ·cases dst with
  |none=>exact upd_labs (S.scp t l hl)
  |some d=>
   have hl':l∈(match Nat.beq d t with|true=>v|false=>F t).labs:=hl
   cases hb:Nat.beq d t with
   |true=>rw[hb]at hl';exact h5 l hl'
   |false=>rw[hb]at hl';exact upd_labs (S.scp t l hl')
 ·have hG:G l≠none:=fun h=>hn (h6 l hl h)
  rw[h4 l hG]
  exact S.stab l hl hG
def wideR (r:Option Nat):Fence:={ Fence.wide with round:=r }
theorem callsIn_wideR {r:Option Nat} {n:Nat} {f:FuncId} {args:Array Value} {w:World} {R:Ending->World->Prop} (h:Calls P f args w R):CallsIn (wideR r) n P f args w R:=(callsIn_wide (n:=n)).2 h
theorem calls_of_wideR {n:Nat} {f:FuncId} {args:Array Value} {w:World} {R:Ending->World->Prop} (h:CallsIn (wideR none) n P f args w R):Calls P f args w R:=(callsIn_wide (n:=n)).1 h
theorem semAt_eq {r:Option Nat} {ev:Operand->Value} {o:Oper} (h:∀ c,o.op≠ .defer c):o.semAt r ev=execOp ev o:=by
 unfold Oper.semAt
 split
 ·rename_i c hc;exact absurd hc (h c)
 ·rfl
theorem put_size (a:Act) (d:Option Nat) (v:Value):(a.put d v).tmps.size=a.tmps.size:=by
 cases d <;>simp[Act.put]
theorem Left.wp {o:Oper} {v:SV} {wr:List (Nat × Blk)} (S:St ρi E A w0 ρ F G a w) (hd:∀ d,o.dst=some d->d<a.tmps.size) (L:Left P ρi E A w0 ρ G a w o v wr) (h6:∀ l,100000<=l->G l=none->upds G wr l=none)
  (hnd:∀ c,o.op≠ .defer c) (hK:∀ u w' ρ',ZLe ρ ρ'->St ρi E A w0 ρ' (updO F o.dst v) (upds G wr) (a.put o.dst u) w'->K (a.put o.dst u) w'):o.wpIn (wideR r) 0 P a w K Q:=by
 obtain⟨nx,w',ρ',hr,hnx,h1,h2,h3,h4,h4z,h5⟩:=L
 unfold Oper.wpIn
 refine⟨fun _ _=>trivial,?_⟩
 rw[semAt_eq hnd,hr]
 rcases hnx with⟨u,rfl,hu⟩|⟨rfl,rfl⟩
 ·exact hK u w' ρ' h4z (S.next hd hu h1 h2 h3 h4 h4z h5 h6)
 ·exact hK undef w' ρ' h4z (S.next hd (by simp[Den]) h1 h2 h3 h4 h4z h5 h6)
def NewOk (G:Hp) (d:Option Nat) (wr:List (Nat × Blk)):Prop:=∀ l,100000<=l->G l=none->upds G wr l≠none->d=some l
theorem NewOk.nil {d:Option Nat}:NewOk G d []:=fun _ _ h h'=>absurd h h'
theorem NewOk.old {d:Option Nat} {wr:List (Nat × Blk)} (h:∀ l∈keys wr,G l≠none):NewOk G d wr:=by
 intro l _ hl hn
 rw[upds_eq]at hn
 cases h1:hget wr l with
 |none=>rw[h1]at hn;exact absurd hl hn
 |some b=>exact absurd hl (h l (hget_some_mem (by rw[h1];simp)))
theorem NewOk.small {d:Option Nat} {wr:List (Nat × Blk)} (h:newOk G wr=true):NewOk G d wr:=by
 intro l hs hl hn
 rw[upds_eq]at hn
 cases h1:hget wr l with
 |none=>rw[h1]at hn;exact absurd hl hn
 |some b=>
  have:=(newOk_spec h l (by rw[keysB_eq];exact hget_some_mem (by rw[h1];simp))).2
  omega
theorem newAt_new {d:Option Nat} {b:Blk} {v:Nat->SV} {rd:List Nat} {pre:Option Prop} {r:Res} (h:newAt G d b v rd pre=some r):NewOk G d r.wr:=by
 obtain⟨d',rfl,hd,rfl⟩:=newAt_spec h
 intro l _ hl hn
 by_cases e:d'=l
 ·rw[e]
 ·simp only[upds_one_other _ _ e]at hn
  exact absurd hl hn
theorem old1_new {d:Option Nat} {l':Nat} {b:Blk} (h:G l'≠none):NewOk G d [(l',b)]:=NewOk.old (by simpa[keys]using h)
theorem evRow_new {d:Option Nat} {ti:TI} {ks:List Kd} {g:Nat->D} {c:Nat} {rd:List Nat} {pre:Option Prop} {r:Res} (h:evRow G d ti ks g c rd pre=some r):NewOk G d r.wr:=by
 unfold evRow at h
 split at h
 ·split at h
  ·rename_i h1 h2 h3
   cases h
   exact .small h2
  ·cases h
 ·cases h
theorem evLoad_new {T:List (Nat × TI)} {d:Option Nat} {ti:TI} {x:SV} {r:Res} (h:evLoad T G d ti x=some r):NewOk G d r.wr:=by
 unfold evLoad at h
 split at h
 ·split at h
  ·split at h <;>cases h;exact .nil
  ·split at h
   ·exact evRow_new h
   ·split at h
    ·split at h
     ·split at h <;>cases h;exact .nil
     ·cases h
    ·cases h
  ·cases h
 ·cases h
theorem evStore_new {T:List (Nat × TI)} {d:Option Nat} {ti:TI} {x v:SV} {r:Res} (h:evStore T G ti x v=some r):NewOk G d r.wr:=by
 unfold evStore at h
 split at h
 ·split at h
  ·rename_i hG
   split at h
   ·split at h <;>cases h;exact old1_new (by rw[hG];simp)
   ·cases h
  ·rename_i hG
   split at h
   ·split at h
    ·split at h <;>cases h;exact old1_new (by rw[hG];simp)
    ·cases h
   ·split at h
    ·split at h
     ·split at h <;>cases h;exact old1_new (by rw[hG];simp)
     ·cases h
    ·cases h
  ·cases h
 ·cases h
theorem arith_wr {wr:Bool} {k:IntKind} {n:Int}:(arith wr k n).wr=[]:=by unfold arith;split <;>rfl
theorem binI_wr {wr:Bool} {op:BinOp} {k:IntKind} {a b:Int} {r:Res} (h:binI wr op k a b=some r):r.wr=[]:=by
 unfold binI at h
 split at h <;>first
  |(cases h;done)
  |(cases h;exact arith_wr)
  |(cases h;rfl)
  |(split at h <;>cases h <;>rfl)
theorem shiftI_wr {op:BinOp} {k:IntKind} {a b:Int} {r:Res} (h:shiftI op k a b=some r):r.wr=[]:=by
 unfold shiftI at h
 split at h <;>first|(cases h;done)|(cases h;rfl)
theorem binS_wr {op:BinOp} {a b:ByteArray} {r:Res} (h:binS op a b=some r):r.wr=[]:=by
 unfold binS at h
 split at h <;>first|(cases h;done)|(cases h;rfl)
theorem eqArrV_wr {T:List (Nat × TI)} {op:BinOp} {m e:Nat} {xs ys:List SV} {r:Res} (h:eqArrV T op m e xs ys=some r):r.wr=[]:=by
 unfold eqArrV at h
 split at h
 ·split at h
  ·split at h <;>cases h <;>rfl
  ·cases h
 ·cases h
theorem evBin_wr {T:List (Nat × TI)} {wr:Bool} {op:BinOp} {t:Nat} {x y:SV} {r:Res} (h:evBin T wr op t x y=some r):r.wr=[]:=by
 unfold evBin at h
 split at h
 ·split at h
  ·split at h
   ·rename_i h1;cases h;exact binI_wr h1
   ·exact shiftI_wr h
  ·exact shiftI_wr h
 ·split at h
  ·exact binS_wr h
  ·cases h
 all_goals try(
  split at h
  ·split at h <;>cases h <;>rfl
  ·cases h)
 all_goals try(
  split at h
  ·split at h
   ·split at h <;>cases h <;>rfl
   ·cases h
  ·cases h)
 all_goals try(
  split at h
  ·split at h
   ·split at h
    ·split at h <;>cases h <;>rfl
    ·cases h
   ·cases h
  ·cases h)
 all_goals try(
  split at h
  ·split at h
   ·split at h <;>cases h <;>rfl
   ·cases h
  ·exact eqArrV_wr h
  ·cases h)
 all_goals try(
  split at h
  ·exact eqArrV_wr h
  ·cases h)
 all_goals cases h
theorem evBuiltin_new {T:List (Nat × TI)} {d:Option Nat} {b:Builtin} {tys:List Nat} {args:List SV} {r:Res} (h:evBuiltin T G d b tys args=some r):NewOk G d r.wr:=by
 unfold evBuiltin at h
 split at h
 ·split at h <;>first|(cases h;done)|(cases h;exact .nil)|(split at h <;>cases h;exact .nil)
 ·split at h <;>cases h;exact .nil
 ·split at h <;>cases h;exact .nil
 ·split at h
  ·split at h
   ·split at h
    ·split at h
     ·cases h
     ·split at h
      ·exact newAt_new h
      ·split at h
       ·rename_i hGl
        split at h
        ·cases h
         intro l hs hl hn
         rw[upds_two]at hn
         refine Classical.byContradiction fun hne=>?_
         rw[upds_one_other _ _ (fun e=>hne (by rw[e]))]at hn
         rw[upds_eq]at hn
         unfold hget at hn
         split at hn
         ·rename_i hb
          split at hb
          ·rename_i hk
           rw[Nat.eq_of_beq_eq_true hk,hl]at hGl
           cases hGl
          ·cases hb
         ·exact hn hl
        ·cases h
       ·cases h
      ·cases h
    ·cases h
   ·cases h
  ·cases h
 ·split at h
  ·rename_i hGl
   split at h
   ·cases h
    intro l hs hl hn
    rw[upds_eq]at hn
    unfold hget at hn
    split at hn
    ·rename_i hb
     split at hb
     ·rename_i hk
      rw[Nat.eq_of_beq_eq_true hk,hl]at hGl
      cases hGl
     ·cases hb
    ·exact absurd hl hn
   ·cases h
  ·cases h
 ·cases h
theorem one_new {d:Option Nat} {l:Nat} {b b':Blk} (hGl:G l=some b):NewOk G d [(l,b')]:=by
 intro x hs hl hn
 rw[upds_eq]at hn
 unfold hget at hn
 split at hn
 ·rename_i hb
  split at hb
  ·rename_i hk
   rw[Nat.eq_of_beq_eq_true hk,hl]at hGl
   cases hGl
  ·cases hb
 ·exact absurd hl hn
theorem evB2_new {T:List (Nat × TI)} {d:Option Nat} {b:Builtin} {tys:List Nat} {args:List SV} {r:Res} (h:evB2 T G d b tys args=some r):NewOk G d r.wr:=by
 unfold evB2 at h
 split at h
 ·split at h <;>cases h;exact .nil
 ·split at h
  ·split at h
   ·split at h
    ·rename_i hGl
     split at h <;>cases h
     exact one_new hGl
    ·cases h
   ·cases h
  ·cases h
 ·split at h
  ·split at h
   ·split at h
    ·rename_i hGl
     split at h <;>cases h
     exact one_new hGl
    ·cases h
   ·cases h
  ·cases h
 ·split at h
  ·split at h
   ·split at h
    ·exact newAt_new h
    ·cases h
   ·cases h
  ·cases h
 ·cases h
 ·cases h
theorem ev_new {T:List (Nat × TI)} {wraps:List Nat} {o:Oper} {r:Res} (h:ev T wraps F G o=some r):NewOk G o.dst r.wr:=by
 have triv:r.wr=[]->NewOk G o.dst r.wr:=fun e=>by rw[e];exact .nil
 obtain⟨dst,op,ty,pos,af,gd⟩:=o
 unfold ev at h
 cases op <;>simp only[]at h <;>try cases h
 case alloc t=>
  split at h
  ·split at h
   ·split at h
    ·split at h
     ·exact newAt_new h
     ·cases h
    ·cases h
   ·exact newAt_new h
  ·cases h
 case box t x=>
  split at h
  ·split at h
   ·exact newAt_new h
   ·cases h
  ·split at h
   ·exact newAt_new h
   ·cases h
 case buildSlice t n ps=>
  split at h
  ·split at h
   ·split at h
    ·split at h
     ·split at h
      ·exact newAt_new h
      ·cases h
     ·cases h
    ·cases h
   ·cases h
  ·cases h
 case makeSlice t x y=>
  split at h
  ·split at h
   ·split at h
    ·exact newAt_new h
    ·cases h
   ·cases h
  ·cases h
 case store t x v=>
  split at h
  ·exact evStore_new h
  ·cases h
 case load t x=>
  split at h
  ·exact evLoad_new h
  ·cases h
 case binOp op t x y u=>exact triv (evBin_wr h)
 case unOp op t x=>
  refine triv ?_
  split at h <;>cases h <;>first|rfl|exact arith_wr
 case convert s t x=>
  refine triv ?_
  split at h
  ·cases h
   exact arith_wr
  ·cases h
 case call cl=>
  obtain⟨callee,args,tys⟩:=cl
  cases callee <;>simp only[]at h <;>try cases h
  split at h
  ·rename_i r' h1
   cases h
   exact evBuiltin_new h1
  ·exact evB2_new h
 case makeFunc fn first captured=>
  refine triv ?_
  cases fn <;>simp only[]at h <;>first|(cases h;rfl)|(repeat' (first|(cases h;rfl)|(cases h;done)|split at h))
 case makeMap t n=>
  split at h
  ·split at h
   ·split at h
    ·exact newAt_new h
    ·cases h
   ·cases h
  ·cases h
 case index t x i=>
  split at h
  ·cases h;exact .nil
  ·split at h
   ·split at h
    ·exact evRow_new h
    ·cases h
   ·cases h
  ·cases h
 case lookup t x i cm=>
  split at h
  ·split at h
   ·rename_i d he
    split at h
    ·split at h
     ·rename_i h1 h2 h3
      have:=evRow_new h3
      split at h <;>cases h <;>exact this
     ·cases h
    ·cases h
   ·cases h
  ·cases h
 case mapUpdate t x i v=>
  split at h
  ·split at h
   ·rename_i hG
    split at h <;>cases h
    exact old1_new (by rw[hG];simp)
   ·cases h
  ·cases h
 all_goals (
  refine triv ?_
  first
   |rfl
   |(repeat' (first|(cases h;rfl)|(cases h;done)|split at h)))
theorem fzW_get {ls:List Nat} {l:Nat} {b:Blk} (h:hget (fzW G ls) l=some b):∃ ks n f,b= .rows .fz ks n f/\G l=some (.rows .own ks n f):=by
 induction ls with
 |nil=>cases h
 |cons x r ih=>
  unfold fzW at h
  split at h
  ·rename_i ks n f hG
   unfold hget at h
   split at h
   ·rename_i hk
    cases h
    rw[<- Nat.eq_of_beq_eq_true hk]
    exact⟨ks,n,f,rfl,hG⟩
   ·exact ih h
  ·exact ih h
theorem fzW_keys {ls:List Nat} {l:Nat} (h:l∈keys (fzW G ls)):G l≠none:=by
 have:=hget_not_none h
 cases hb:hget (fzW G ls) l with
 |none=>exact absurd hb this
 |some b=>obtain⟨ks,n,f,_,e⟩:=fzW_get hb;rw[e];simp
theorem upds_app (wr hp:List (Nat × Blk)):upds G (wr++hp)=upds (upds G hp) wr:=by
 funext l
 rw[upds_eq,hget_append,upds_eq,upds_eq,upds_eq]
 cases hget wr l <;>rfl
theorem frozenL (H:HSat ρ G w) (M:MutIn E A ρi w0.heap.size ρ G):∀ ls:List Nat,
  ∃ ρ',HSat ρ' (upds G (fzW G ls)) w/\MutIn E A ρi w0.heap.size ρ' (upds G (fzW G ls))/\(∀ x,ρ' x=ρ x)/\ZLe ρ ρ'
 | []=>⟨ρ,H,M,fun _=>rfl,ZLe.refl _⟩
 |l::ls=>by
  obtain⟨ρ1,h1,h2,h3,h4⟩:=frozenL H M ls
  unfold fzW
  split
  ·rename_i ks n f hG
   have e:upds G ((l,.rows .fz ks n f)::fzW G ls)=upds (upds G (fzW G ls)) [(l,.rows .fz ks n f)]:=upds_app [(l,.rows .fz ks n f)] _
   rw[e]
   cases hb:hget (fzW G ls) l with
   |none=>
    have:upds G (fzW G ls) l=some (.rows .own ks n f):=by rw[upds_eq,hb];exact hG
    obtain⟨ρ2,g1,g2,g3,g4⟩:=frozen h1 h2 this
    exact⟨ρ2,g1,g2,fun x=>(g3 x).trans (h3 x),h4.trans g4⟩
   |some b=>
    obtain⟨ks',n',f',rfl,hG'⟩:=fzW_get hb
    rw[hG]at hG'
    cases hG'
    have:upds (upds G (fzW G ls)) [(l,.rows .fz ks n f)]=upds G (fzW G ls):=by
     funext y
     by_cases e:l=y
     ·subst e;rw[upds_one_same,upds_eq,hb]
     ·rw[upds_one_other _ _ e]
    rw[this]
    exact⟨ρ1,h1,h2,h3,h4⟩
  ·exact⟨ρ1,h1,h2,h3,h4⟩
theorem St.froze (S:St ρi E A w0 ρ F G a w) (ls:List Nat):∃ ρ',St ρi E A w0 ρ' F (upds G (fzW G ls)) a w/\(∀ x,ρ' x=ρ x)/\ZLe ρ ρ':=by
 obtain⟨ρ1,h1,h2,h3,h4⟩:=frozenL S.heap S.mutin ls
 refine⟨ρ1,⟨h1,fun t=>Den.congr h4 _ _ (fun l _=>(h3 l).symm) (S.fr t),fun t l hl=>upd_labs (S.scp t l hl),S.keep,h2,fun l hl hn=>?_⟩,h3,h4⟩
 rw[h3]
 refine S.stab l hl fun hG=>hn ?_
 rw[upds_eq]
 cases hb:hget (fzW G ls) l with
 |none=>exact hG
 |some b=>exact absurd hG (fzW_keys (hget_some_mem (by rw[hb];simp)))
theorem evZ0_sound {T:List (Nat × TI)} (hT:TOk P T) (S:St ρi E A w0 ρ F G a w) {wraps:List Nat} {o:Oper} {r:Res} (hr:evZ0 T wraps F G o=some r) (hp:r.Pre):
  Left P ρi E A w0 ρ G a w o r.v r.wr:=by
 unfold evZ0 at hr
 split at hr
 ·exact ev_sound hT S hr hp
 ·rename_i l ls hfz
  obtain⟨ρ1,S1,h3,h4⟩:=S.froze (l::ls)
  unfold evW at hr
  split at hr
  ·rename_i r' hr'
   cases hr
   obtain⟨nx,w',ρ',k1,k2,k3,k4,k5,k6,k7,k8⟩:=ev_sound hT S1 hr' hp
   have e:upds G (appH r'.wr (fzW G (l::ls)))=upds (upds G (fzW G (l::ls))) r'.wr:=by rw[appH_eq];exact upds_app _ _
   refine⟨nx,w',ρ',k1,k2,?_,k4,?_,fun l hl=>(k6 l (upd_labs hl)).trans (h3 l),h4.trans k7,?_⟩
   ·show HSat ρ' (upds G (appH _ _)) w'
    rw[e];exact k3
   ·show MutIn E A ρi w0.heap.size ρ' (upds G (appH _ _))
    rw[e];exact k5
   ·show ∀ l∈r'.v.labs,upds G (appH _ _) l≠none
    rw[e];exact k8
  ·cases hr
theorem evZ0_new {T:List (Nat × TI)} {wraps:List Nat} {o:Oper} {r:Res} (h:evZ0 T wraps F G o=some r):NewOk G o.dst r.wr:=by
 unfold evZ0 at h
 split at h
 ·exact ev_new h
 ·rename_i l ls hfz
  unfold evW at h
  split at h
  ·rename_i r' hr'
   cases h
   intro y hs hy hn
   have e:upds G (appH r'.wr (fzW G (l::ls)))=upds (upds G (fzW G (l::ls))) r'.wr:=by rw[appH_eq];exact upds_app _ _
   rw[show upds G (appH r'.wr (fzW G (l::ls)))=_ from e]at hn
   refine ev_new hr' y hs ?_ hn
   rw[upds_eq]
   cases hb:hget (fzW G (l::ls)) y with
   |none=>exact hy
   |some b=>exact absurd hy (fzW_keys (hget_some_mem (by rw[hb];simp)))
  ·cases h
/-! ### slices that are lent in a slice -/
theorem lend_fill (hF:FSat ρ F a.tmps):∀(ps:List (Nat × Operand)) (k:Nat) (vs:List SV) (arr:Array Value),lendVs F ps k=some vs->k+vs.length<=arr.size->
  ∃ arr',Instr.fill (fun i=>some (i*1,1)) arr (ps.map fun p=>(p.1,a.eval p.2))=some arr'/\arr'.size=arr.size/\(∀ j,j<k->arr'[j]? =arr[j]?)/\DenL ρ vs ((arr'.toList.drop k).take vs.length)
 | [],k,vs,arr,h,_=>by
  simp only[lendVs,Option.some.injEq]at h
  subst h
  exact⟨arr,rfl,rfl,fun _ _=>rfl,by simp[DenL]⟩
 |(i,x)::ps,k,vs,arr,h,hsz=>by
  unfold lendVs at h
  split at h
  ·rename_i l lo n vs' h1 h2 h3
   cases h
   have hi:=Nat.eq_of_beq_eq_true h1
   subst hi
   have hx:=oa_den hF x
   rw[h2]at hx
   have hcell:(a.eval x).cells= #[a.eval x]:=by
    simp only[Den]at hx
    rcases hx with⟨_,hv,_⟩|⟨_,_,_,hv,_⟩ <;>rw[hv] <;>rfl
   simp only[List.length_cons]at hsz
   obtain⟨arr',g1,g2,g3,g4⟩:=lend_fill hF ps (i+1) vs' (arr.setIfInBounds i (a.eval x)) h3 (by simp;omega)
   refine⟨arr',?_,by rw[g2];simp,fun j hj=>?_,?_⟩
   ·simp only[List.map_cons,Instr.fill,hcell]
    rw[if_neg (by simp;omega)]
    simpa using g1
   ·rw[g3 j (by omega),Array.getElem?_setIfInBounds,if_neg (by omega)]
   ·have hs:i<arr'.toList.length:=by rw[Array.length_toList,g2];simp;omega
    rw[List.drop_eq_getElem_cons hs,List.length_cons,List.take_succ_cons]
    refine DenL_cons.2 ⟨?_,g4⟩
    have e:arr'[i]? =some (a.eval x):=by
     rw[g3 i (by omega),Array.getElem?_setIfInBounds,if_pos rfl,if_pos (by omega)]
    have e2:arr'.toList[i]=a.eval x:=by
     rw[Array.getElem_toList]
     rw[Array.getElem?_eq_getElem (by rw[Array.length_toList]at hs;exact hs)]at e
     exact Option.some.inj e
    rw[e2]
    exact hx
  ·cases h
theorem lend_labs (S:Scp G F):∀(ps:List (Nat × Operand)) (k:Nat) (vs:List SV),lendVs F ps k=some vs->∀ l∈labsL vs,G l≠none
 | [],k,vs,h=>by
  simp only[lendVs,Option.some.injEq]at h
  subst h
  intro l hl
  simp[labsL]at hl
 |(i,x)::ps,k,vs,h=>by
  unfold lendVs at h
  split at h
  ·rename_i l lo n vs' h1 h2 h3
   cases h
   intro y hy
   simp only[labsL,List.mem_append]at hy
   rcases hy with hy|hy
   ·have:=oa_scp S x
    rw[h2]at this
    exact this y hy
   ·exact lend_labs S ps (k+1) vs' h3 y hy
  ·cases h
theorem Left.boxSl {o:Oper} (S:St ρi E A w0 ρ F G a w) {d:Nat} (hd:G d=none) {cs:List SV} {vs:Array Value} {T:TypeId} {n:Nat} (hcs:DenL ρ cs (vs.toList.take cs.length)) (hn:cs.length=n) (hsz:cs.length<=vs.size) (hl:∀ l∈labsL cs,G l≠none)
  (hr:(execOp a.eval o).run P w= .ok (.value (.slice (some ⟨w.heap.size,0,none⟩) n n)) { w with heap:=w.heap.push (.cells vs T)}):
  Left P ρi E A w0 ρ G a w o (.sl d 0 n) [(d,.one .own cs)]:=by
 obtain⟨h1,h2,h3,h4⟩:=pushed (w':={ w with heap:=w.heap.push (.cells vs T)}) (pl:=⟨w.heap.size,0,1,n⟩) (b:=.one .own cs) S.heap S.keep S.mutin hd (by simpa[Blk.labs]using hl) rfl rfl rfl rfl rfl (by
  refine⟨⟨w.heap.size,0,1,n⟩,vs,T,(0,0),updE_same _ _ _,by simp,fun _=>rfl,fun h=>(by cases h),(by show 0+max cs.length n<=vs.size;omega),?_⟩
  rw[List.drop_zero]
  exact DenL_all hcs (updE_z _ _ _) fun l hh=>updE_keep hd l (hl l hh))
 refine⟨_,_,_,hr,.inl ⟨_,rfl,?_⟩,h1,h2,h3,h4,updE_z _ _ _,?_⟩
 ·simp only[Den]
  exact .inr ⟨_,⟨w.heap.size,0,none⟩,updE_same _ _ _,by simp,by simp,fun _=>by simp[ptr]⟩
 ·intro l hh
  simp[SV.labs]at hh
  subst hh
  simp[upds_one_same]
theorem evL_sound {T:List (Nat × TI)} (hT:TOk P T) (S:St ρi E A w0 ρ F G a w) {o:Oper} {r:Res} (hr:evL T F G o=some r):
  Left P ρi E A w0 ρ G a w o r.v r.wr:=by
 obtain⟨dst,op,ty,pos,af,gd⟩:=o
 cases op <;>simp only[evL,reduceCtorEq]at hr
 case buildSlice t n ps=>
  split at hr
  ·rename_i e s1 s2 s3 hti
   split at hr
   ·rename_i ti htie
    split at hr
    ·rename_i vs h1 h2 h3
     split at hr
     ·rename_i h4 h5
      obtain⟨d,hd,hGd,rfl⟩:=newAt_spec hr
      have he:=hT _ _ htie
      have hu:=slice_shape hT hti
      have h1:=Nat.eq_of_beq_eq_true h1
      have h2:=Nat.le_of_ble_eq_true h2
      have h4:=Nat.eq_of_beq_eq_true h4
      have h5:=Nat.le_of_ble_eq_true h5
      rw[lenL_eq]at h4
      obtain⟨z,z1,z2,z3⟩:=run_zeroValue (w:=w) he
      obtain⟨arr',g1,g2,g3,g4⟩:=lend_fill S.fr ps.toList 0 vs ((Array.range (n*1)).map (z.cells[· %z.cells.size]!)) h3 (by simp[h4])
      have hsz:arr'.size=n:=by rw[g2];simp
      rw[List.drop_zero]at g4
      refine Left.boxSl S hGd (vs:=arr') (T:=e) (n:=n) g4 h4 (by rw[h4,hsz];exact Nat.le_refl _) (lend_labs S.scp _ _ _ h3) ?_
      simp only[execOp]
      refine run_v ?_
      have hn:¬ (n*1>2 ^ 24):=by omega
      have h0:¬ n*1=0:=by omega
      simp only[Instr.buildSlice,Sem.run_bind,run_underlying hu,Result.andThen_ok,run_sizeOf he,h1,if_neg hn,if_neg h0,z1,Sem.run_pure,Array.toList_map,g1,newRow,run_newObj]
     ·cases hr
    ·cases hr
   ·cases hr
  ·cases hr
theorem evL_new {T:List (Nat × TI)} {o:Oper} {r:Res} (h:evL T F G o=some r):NewOk G o.dst r.wr:=by
 unfold evL at h
 split at h
 ·split at h
  ·split at h
   ·split at h
    ·split at h
     ·exact newAt_new h
     ·cases h
    ·cases h
   ·cases h
  ·cases h
 ·cases h
theorem evZ_sound {T:List (Nat × TI)} (hT:TOk P T) (S:St ρi E A w0 ρ F G a w) {wraps:List Nat} {o:Oper} {r:Res} (hr:evZ T wraps F G o=some r) (hp:r.Pre):
  Left P ρi E A w0 ρ G a w o r.v r.wr:=by
 unfold evZ at hr
 split at hr
 ·exact evL_sound hT S hr
 ·exact evZ0_sound hT S hr hp
theorem evZ_new {T:List (Nat × TI)} {wraps:List Nat} {o:Oper} {r:Res} (h:evZ T wraps F G o=some r):NewOk G o.dst r.wr:=by
 unfold evZ at h
 split at h
 ·exact evL_new h
 ·exact evZ0_new h
theorem call_newC {ct:CT} {x:ct.X} (C:CtSt ct x) {m:Nat->Nat} (h4:callSt ct G x m=true):
  ∀ l,100000<=l->G l=none->upds G (appH (renH m (ct.g1 x)) (absL G m (ct.g0 x))) l=none:=by
 intro l hl hG
 have hsm:smallLs G m (keys (ct.g0 x)++newLs (keys (ct.g0 x)) (keys (ct.g1 x)))=true:=by
  unfold callSt at h4
  split at h4
  ·rename_i h1 h2 h3 h4
   rw[apL_eq]at h3
   exact h3
  ·cases h4
 have hno:∀ y∈keys (ct.g0 x)++newLs (keys (ct.g0 x)) (keys (ct.g1 x)),m y≠l:=by
  intro y hy e
  have:=smallLs_spec hsm y hy (by rw[e];exact hG)
  omega
 rw[appH_eq,upds_eq,hget_append,upds_eq]
 have h1:hget (renH m (ct.g1 x)) l=none:=by
  rw[hget_none_iff,keys_renH,mapN_eq]
  intro h
  obtain⟨y,hy,e⟩:=List.mem_map.1 h
  refine hno y ?_ e
  by_cases h0:y∈keys (ct.g0 x)
  ·exact List.mem_append.2 (.inl h0)
  ·exact List.mem_append.2 (.inr ((newLs_mem _ _).2 ⟨hy,h0⟩))
 have h2:hget (absL G m (ct.g0 x)) l=none:=by
  cases hq:hget (absL G m (ct.g0 x)) l with
  |none=>rfl
  |some b=>
   obtain⟨y,b',q1,q2,_⟩:=absL_spec (hget_mem hq)
   exact absurd q2 (hno y (List.mem_append.2 (.inl (by rw[keys_eq];exact List.mem_map.2 ⟨_,q1,rfl⟩))))
 rw[h1,h2]
 exact hG
theorem call_new [Glob] {g:Nat} {ct:CT} (good:Good P g ct) {args:List SV} {x:ct.X} {m:Nat->Nat} (h4:callSt ct G x m=true) (h5:CallOk ct args G x m):
  ∀ l,100000<=l->G l=none->upds G (appH (renH m (ct.g1 x)) (absL G m (ct.g0 x))) l=none:=call_newC (ctSt_spec (good x h5.pre).1) h4
theorem evZ_noDefer {T:List (Nat × TI)} {wraps:List Nat} {o:Oper} {r:Res} (h:evZ T wraps F G o=some r):∀ c,o.op≠ .defer c:=by
 intro cc hc
 obtain⟨dst,op,ty,pos,af,gd⟩:=o
 simp only at hc
 subst hc
 unfold evZ at h
 split at h
 ·simp[evL]at h
 ·simp[evZ0,frzO,ev]at h
theorem Ev.wp [Glob] (hg:Glob.ok ρi) (hT:TOk P c.T) (hC:ConOk P c) {o:Oper} {v:SV} {wr:List (Nat × Blk)} {fp:FP} (e:Ev c o F G v wr fp) (S:St ρi E A w0 ρ F G a w) (hd:∀ d,o.dst=some d->d<a.tmps.size) (hN:a.tmps.size<=100000)
  (hK:∀ u w' ρ',ZLe ρ ρ'->St ρi E A w0 ρ' (updO F o.dst v) (upds G wr) (a.put o.dst u) w'->K (a.put o.dst u) w'):o.wpIn (wideR r) 0 P a w K Q:=by
 cases e with
 |plain r h1 h2=>
  refine Left.wp S hd (evZ_sound hT S h1 h2) (fun l hl hG=>?_) (evZ_noDefer h1) hK
  cases hu:upds G r.wr l with
  |none=>rfl
  |some b=>
   have h9:l<a.tmps.size:=hd l (evZ_new h1 l hl hG (by rw[hu];simp))
   exact absurd (Nat.lt_of_lt_of_le h9 hN) (by omega)
 |pick t h=>
  rename_i dst ty pos af gd x y z
  refine Left.wp (wr:=[]) S hd ?_ (fun l _ h=>h) (fun _ h=>by cases h) hK
  have hx:=oa_den S.fr x
  have hx':a.eval x= .bool t:=by
   rcases h with h|h <;>(rw[h]at hx;simpa[Den]using hx)
  refine Left.pure S (u:=if t then a.eval y else a.eval z) ?_ ?_ ?_
  ·simp only[execOp,hx',asBool,Sem.run_bind,Sem.run_pure,Result.andThen_ok]
  ·cases t
   ·exact oa_den S.fr z
   ·exact oa_den S.fr y
  ·cases t
   ·exact oa_scp S.scp z
   ·exact oa_scp S.scp y
 |call ct x m d h1 h2 h3 h4 h5=>
  rename_i dst ty pos af gd f args tys g caps all
  obtain⟨good,fn,hf1,hf2,hf3⟩:=hC g ct h2
  have hf2':¬ fn.name= "runtime.NumGoroutine" :=by simpa using hf2
  have hf3':¬ fn.body=none:=by intro h;rw[h]at hf3;cases hf3
  have hfv:=oa_den S.fr f
  obtain⟨vals,hargs,hrun⟩:∃ vals:List Value,DenL ρ all vals/\(execOp a.eval ⟨dst,.call ⟨.value f,args,tys⟩,ty,pos,af,gd⟩).run P w= .ok (.enter g vals.toArray) w:=by
   rcases h1 with⟨h1,rfl⟩|⟨h1,rfl⟩
   ·rw[h1]at hfv
    simp only[Den]at hfv
    obtain⟨vs,hv,hvs⟩:=hfv
    refine⟨_,DenL_append (map_den S.fr args.toList) hvs,?_⟩
    have:(args.toList.map a.eval++vs.toList).toArray=args.map a.eval++vs:=by
     apply Array.ext';simp
    rw[this]
    simp[execOp,resolve,Deferred.ofValue,hv,invoke,callFunc,program,Sem.run,hf1,hf2',hf3']
   ·rw[h1]at hfv
    simp only[Den]at hfv
    obtain⟨vs,hv,hvs⟩:=hfv
    refine⟨_,DenL_append hvs (map_den S.fr args.toList),?_⟩
    have:(vs.toList++args.toList.map a.eval).toArray=vs++args.map a.eval:=by
     apply Array.ext';simp
    rw[this]
    simp[execOp,resolve,Deferred.ofValue,hv,invoke,callFunc,program,Sem.run,hf1,hf2',hf3']
  have hcall:=call_sound (P:=P) hg S.heap S.keep S.mutin good hargs h4 h5
  unfold Oper.wpIn
  refine⟨fun _ _=>trivial,?_⟩
  rw[semAt_eq (fun _ h=>by cases h),hrun]
  show((wideR r).depth.isSome=true->1<=0)/\CallsIn (wideR r) (0-1) P g _ w _
  refine⟨fun h=>(by simp[wideR,Fence.wide]at h),callsIn_wideR (hcall.mono ?_)⟩
  rintro e w' ⟨u,ρ',rfl,g1,g2,g3,g4,g5,g5z,g6⟩
  exact hK u w' ρ' g5z (S.next hd g1 g2 g3 g4 g5 g5z g6 (call_new good h4 h5))
theorem wanted_of (S:St ρi E A w0 ρ F G a w) {ops:Array Oper} (hall:all=ops.toList) {o:Oper} {j s:Nat} {want t:Bool} (hg:o.guard=some (j,want)) (hs:slotOf all j=some s) (ht:F s= .b t∨F s= .bt t):
  Region.wanted o (yielded ops a.tmps)=(t==want):=by
 have hF:=S.fr s
 have hb:a.tmps.getD s undef= .bool t:=by
  rcases ht with ht|ht <;>(rw[ht]at hF;simpa[Den]using hF)
 have hb':a.tmps[s]? =some (.bool t):=by
  rw[Array.getD_eq_getD_getElem?]at hb
  cases h:a.tmps[s]? with
  |none=>rw[h]at hb;simp[undef]at hb
  |some v=>rw[h]at hb;simpa using hb
 have hd:(ops[j]?).bind (·.dst)=some s:=by
  unfold slotOf at hs
  rw[nthO_eq,hall]at hs
  cases h:ops.toList[j]? with
  |none=>rw[h]at hs;cases hs
  |some q=>
   rw[h]at hs
   have:ops[j]? =some q:=by simpa using h
   rw[this];exact hs
 unfold Region.wanted
 rw[hg]
 simp only[yielded,hd,Option.bind_some,hb']
 cases t <;>cases want <;>rfl
theorem wanted_undef (S:St ρi E A w0 ρ F G a w) {ops:Array Oper} (hall:all=ops.toList) {o:Oper} {j s:Nat} {want:Bool} (hg:o.guard=some (j,want)) (hs:slotOf all j=some s) (ht:F s= .tup []):
  Region.wanted o (yielded ops a.tmps)=false:=by
 have hF:=S.fr s
 rw[ht]at hF
 simp only[Den,DenL]at hF
 obtain⟨vs,hb,hv⟩:=hF
 have hd:(ops[j]?).bind (·.dst)=some s:=by
  unfold slotOf at hs
  rw[nthO_eq,hall]at hs
  cases h:ops.toList[j]? with
  |none=>rw[h]at hs;cases hs
  |some q=>
   rw[h]at hs
   have:ops[j]? =some q:=by simpa using h
   rw[this];exact hs
 unfold Region.wanted
 rw[hg]
 simp only[yielded,hd,Option.bind_some]
 rw[Array.getD_eq_getD_getElem?]at hb
 cases h:a.tmps[s]? with
 |none=>rfl
 |some v=>
  rw[h]at hb
  simp only[Option.getD_some]at hb
  subst hb
  rfl
theorem Ev1.wp [Glob] (hg:Glob.ok ρi) (hT:TOk P c.T) (hC:ConOk P c) {ops:Array Oper} (hall:all=ops.toList) {o:Oper} {v:SV} {wr:List (Nat × Blk)} {fp:FP} (e:Ev1 c all o F G v wr fp) (S:St ρi E A w0 ρ F G a w)
  (hd:∀ d,o.dst=some d->d<a.tmps.size) (hN:a.tmps.size<=100000) (hK:∀ u w' ρ',ZLe ρ ρ'->St ρi E A w0 ρ' (updO F o.dst v) (upds G wr) (a.put o.dst u) w'->K (a.put o.dst u) w'):
  if Region.wanted o (yielded ops a.tmps)then o.wpIn (wideR r) 0 P a w K Q else(∀ f,o.about P w a.eval=some f->(wideR r).fn f)/\K (a.put o.dst undef) w:=by
 cases e with
 |go h e=>
  rw[if_pos (by simp[Region.wanted,h])]
  exact e.wp hg hT hC S hd hN hK
 |yes j want s h hs ht e=>
  rw[wanted_of S hall h hs ht,if_pos (by simp)]
  exact e.wp hg hT hC S hd hN hK
 |no j want s h hs ht=>
  have fin:St ρi E A w0 ρ (updO F o.dst (.tup [])) (upds G []) (a.put o.dst undef) w:=S.next hd (by simp only[Den];exact⟨#[],rfl,by simp[DenL]⟩) S.heap S.keep S.mutin (fun _ _=>rfl) (ZLe.refl _) (by simp[SV.labs,labsL]) (fun _ _ h=>h)
  rcases ht with ht|ht|ht
  ·rw[wanted_of S hall h hs (.inl ht),if_neg (by cases want <;>simp)]
   exact⟨fun _ _=>trivial,hK undef w ρ (ZLe.refl _) fin⟩
  ·rw[wanted_of S hall h hs (.inr ht),if_neg (by cases want <;>simp)]
   exact⟨fun _ _=>trivial,hK undef w ρ (ZLe.refl _) fin⟩
  ·rw[wanted_undef S hall h hs ht,if_neg (by simp)]
   exact⟨fun _ _=>trivial,hK undef w ρ (ZLe.refl _) fin⟩
theorem chain_wp [Glob] (hg:Glob.ok ρi) (hT:TOk P c.T) (hC:ConOk P c) {ops:Array Oper} (hall:all=ops.toList) {rest:List Oper}:∀ {l:List (Oper × FP)} {F:Fr} {G:Hp} {F':Fr} {G':Hp} {ρ:Env} {a:Act} {w:World},Chain c all l F G F' G'->
  (∀ o∈l,∀ d,o.1.dst=some d->d<a.tmps.size)->a.tmps.size<=100000->St ρi E A w0 ρ F G a w->
  (∀ a' w' ρ',a'.tmps.size=a.tmps.size->a'.defers=a.defers->ZLe ρ ρ'->St ρi E A w0 ρ' F' G' a' w'->wpListIn (wideR r) 0 P ops Q rest a' w')->wpListIn (wideR r) 0 P ops Q (l.map (·.1)++rest) a w
 | [],F,G,F',G',ρ,a,w,ch,_,_,S,hQ=>by
  cases ch
  exact hQ a w ρ rfl rfl (ZLe.refl _) S
 |(o,fp)::l,F,G,F',G',ρ,a,w,ch,hd,hN,S,hQ=>by
  cases ch with
  |cons v wr e t=>
   rw[List.map_cons,List.cons_append]
   refine wpListIn_step fun K hK=>?_
   refine e.wp hg hT hC hall S (hd (o,fp) (by simp)) hN fun u w' ρ' hz S'=>hK _ _ ?_
   have hsz:=put_size a o.dst u
   refine chain_wp hg hT hC hall t (fun q hq d hqd=>by rw[hsz];exact hd q (by simp[hq]) d hqd) (by rw[hsz];exact hN) S' fun a' w'' ρ'' h1 h2 hz2 h3=>hQ a' w'' ρ'' (h1.trans hsz) (h2.trans ?_) (hz.trans hz2) h3
   cases o.dst <;>rfl
end
end Go.Sym
namespace Go.Sym
set_option linter.unusedVariables false
set_option linter.unusedSimpArgs false
section
variable {P:Program} {c:Cfg} {F F':Fr} {G G':Hp}
theorem opdSlots_mem {l:List Operand} {t:Nat}:t∈opdSlots l↔Operand.tmp t∈l:=by
 induction l with
 |nil=>simp[opdSlots]
 |cons x r ih=>cases x <;>simp[opdSlots,ih]
theorem oa_local (x:Operand) (h:∀ t,x= .tmp t->F t=F' t):oa F x=oa F' x:=by
 cases x with
 |tmp t=>exact h t rfl
 |_=>rfl
theorem oas_local {l:List Operand} (h:∀ t∈opdSlots l,F t=F' t):∀ x∈l,oa F x=oa F' x:=
 fun x hx=>oa_local x fun t e=>h t (opdSlots_mem.2 (e▸hx))
theorem fillL_local {T:List (Nat × TI)} {place:Nat->Option (Nat × Nat)}:∀(ps:List (Nat × Operand)) (cs:List SV),(∀ p∈ps,oa F p.2=oa F' p.2)->fillL T place F cs ps=fillL T place F' cs ps
 | [],cs,_=>rfl
 |(i,x)::ps,cs,h=>by
  have hx:=h (i,x) (by simp)
  simp only at hx
  unfold fillL
  rw[hx]
  cases place i with
  |none=>rfl
  |some p=>cases(oa F' x).cells with
   |none=>rfl
   |some vs=>
    simp only
    split
    ·exact fillL_local ps _ (fun p hp=>h p (by simp[hp]))
    ·rfl
theorem rowsOf_local {ks:List Kd}:∀(ps:List (Nat × Operand)) (k:Nat),(∀ p∈ps,oa F p.2=oa F' p.2)->rowsOf G ks F ps k=rowsOf G ks F' ps k
 | [],k,_=>rfl
 |(i,x)::ps,k,h=>by
  have hx:=h (i,x) (by simp)
  simp only at hx
  unfold rowsOf
  rw[hx,rowsOf_local ps (k+1) (fun p hp=>h p (by simp[hp]))]
theorem labsO_local:∀(ps:List (Nat × Operand)),(∀ p∈ps,oa F p.2=oa F' p.2)->labsO F ps=labsO F' ps
 | [],_=>rfl
 |(i,x)::ps,h=>by
  have hx:=h (i,x) (by simp)
  simp only at hx
  unfold labsO
  rw[hx,labsO_local ps (fun p hp=>h p (by simp[hp]))]
theorem frzP_local {ks:List Kd}:∀(ps:List (Nat × Operand)),(∀ p∈ps,oa F p.2=oa F' p.2)->frzP G ks F ps=frzP G ks F' ps
 | [],_=>rfl
 |(i,x)::ps,h=>by
  have hx:=h (i,x) (by simp)
  simp only at hx
  unfold frzP
  rw[hx,frzP_local ps (fun p hp=>h p (by simp[hp]))]
theorem ev_frame {T:List (Nat × TI)} {wraps:List Nat} {o:Oper} (h:∀ x∈o.op.operands.toList,oa F x=oa F' x):ev T wraps F G o=ev T wraps F' G o:=by
 obtain⟨dst,op,ty,pos,af,gd⟩:=o
 cases op <;>simp only[ev] <;>simp only[Op.operands,Call.operands]at h
 case build t ps=>
  have:∀ p∈ps.toList,oa F p.2=oa F' p.2:=fun p hp=>h p.2 (by simp;exact⟨p.1,by simpa using hp⟩)
  split
  ·rw[fillL_local _ _ this]
  ·split
   ·split
    ·split
     ·rfl
     ·rw[rowsOf_local _ _ this,labsO_local _ this]
    ·rfl
   ·rfl
  ·rfl
 case buildSlice t n ps=>
  have:∀ p∈ps.toList,oa F p.2=oa F' p.2:=fun p hp=>h p.2 (by simp;exact⟨p.1,by simpa using hp⟩)
  split
  ·split
   ·split
    ·rw[rowsOf_local _ _ this,labsO_local _ this]
    ·rfl
   ·rfl
  ·rfl
 case slice t x lo hi mx=>
  have hx:=h x (by simp)
  have ho:∀(d:Int) (y:Option Operand),(∀ z,y=some z->oa F z=oa F' z)->optI F d y=optI F' d y:=by
   intro d y hy
   cases y with
   |none=>rfl
   |some z=>simp only[optI];rw[hy z rfl]
  rw[hx]
  have e1:=fun d=>ho d lo (fun z hz=>h z (by subst hz;simp))
  have e2:=fun d=>ho d hi (fun z hz=>h z (by subst hz;simp))
  simp only[e1,e2]
 case makeFunc fn first caps=>
  have:caps.toList.map (oa F)=caps.toList.map (oa F'):=List.map_congr_left fun x hx=>h x (by simp;exact .inr (by simpa using hx))
  have this2:first.toList.map (oa F)=first.toList.map (oa F'):=List.map_congr_left fun x hx=>h x (by simp;exact .inl (by simpa using hx))
  cases fn <;>simp only[this,this2]
 case call cl=>
  obtain⟨callee,args,tys⟩:=cl
  have:args.toList.map (oa F)=args.toList.map (oa F'):=List.map_congr_left fun x hx=>h x (by simp;exact .inr (by simpa using hx))
  cases callee <;>simp only[this]
 all_goals (first|rfl|(simp only[h _ (List.mem_singleton.2 rfl)];done)|skip)
 all_goals (simp at h)
 all_goals (first|rw[h]|rw[h.1,h.2]|(rw[h.1];rw[h.2])|(obtain⟨h1,h2⟩:=h;simp only[h1,h2]))
theorem frzO_frame {T:List (Nat × TI)} {o:Oper} (h:∀ x∈o.op.operands.toList,oa F x=oa F' x):frzO T F G o=frzO T F' G o:=by
 obtain⟨dst,op,ty,pos,af,gd⟩:=o
 cases op <;>simp only[frzO] <;>simp only[Op.operands,Call.operands]at h
 case build t ps=>
  have:∀ p∈ps.toList,oa F p.2=oa F' p.2:=fun p hp=>h p.2 (by simp;exact⟨p.1,by simpa using hp⟩)
  split
  ·split
   ·rw[frzP_local _ this]
   ·rfl
  ·rfl
 case buildSlice t n ps=>
  have:∀ p∈ps.toList,oa F p.2=oa F' p.2:=fun p hp=>h p.2 (by simp;exact⟨p.1,by simpa using hp⟩)
  split
  ·split
   ·rw[frzP_local _ this]
   ·rfl
  ·rfl
 case store t x v=>
  simp at h
  rw[h.1,h.2]
 case mapUpdate t x i v=>
  simp at h
  rw[h.1,h.2.2]
theorem frzR_frame {o:Oper} (h:∀ x∈o.op.operands.toList,oa F x=oa F' x):frzR F o=frzR F' o:=by
 obtain⟨dst,op,ty,pos,af,gd⟩:=o
 cases op <;>simp only[frzR] <;>simp only[Op.operands,Call.operands]at h
 case build t ps=>exact labsO_local _ fun p hp=>h p.2 (by simp;exact⟨p.1,by simpa using hp⟩)
 case buildSlice t n ps=>exact labsO_local _ fun p hp=>h p.2 (by simp;exact⟨p.1,by simpa using hp⟩)
 case store t x v=>
  simp at h
  rw[h.1,h.2]
 case mapUpdate t x i v=>
  simp at h
  rw[h.1,h.2.2]
theorem lendVs_frame:∀(ps:List (Nat × Operand)) (k:Nat),(∀ p∈ps,oa F p.2=oa F' p.2)->lendVs F ps k=lendVs F' ps k
 | [],_,_=>rfl
 |(i,x)::ps,k,h=>by
  have hx:oa F x=oa F' x:=h (i,x) (by simp)
  unfold lendVs
  rw[hx,lendVs_frame ps (k+1) (fun p hp=>h p (by simp[hp]))]
theorem evL_frame {T:List (Nat × TI)} {o:Oper} (h:∀ x∈o.op.operands.toList,oa F x=oa F' x):evL T F G o=evL T F' G o:=by
 obtain⟨dst,op,ty,pos,af,gd⟩:=o
 cases op <;>simp only[evL] <;>simp only[Op.operands,Call.operands]at h
 case buildSlice t n ps=>
  have:∀ p∈ps.toList,oa F p.2=oa F' p.2:=fun p hp=>h p.2 (by simp;exact⟨p.1,by simpa using hp⟩)
  rw[lendVs_frame _ _ this,labsO_local _ this]
theorem evZ0_frame {T:List (Nat × TI)} {wraps:List Nat} {o:Oper} (h:∀ x∈o.op.operands.toList,oa F x=oa F' x):evZ0 T wraps F G o=evZ0 T wraps F' G o:=by
 unfold evZ0
 rw[frzO_frame h,ev_frame h]
 split
 ·rfl
 ·unfold evW
  rw[ev_frame h,frzR_frame h]
theorem evZ_frame {T:List (Nat × TI)} {wraps:List Nat} {o:Oper} (h:∀ x∈o.op.operands.toList,oa F x=oa F' x):evZ T wraps F G o=evZ T wraps F' G o:=by
 unfold evZ
 rw[evL_frame h,evZ0_frame h]
end
end Go.Sym
