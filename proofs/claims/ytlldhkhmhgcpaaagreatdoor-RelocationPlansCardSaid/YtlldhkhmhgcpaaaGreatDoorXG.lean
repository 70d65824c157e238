/- The engine of the proof: a symbolic walk over the model's code, and that it is sound; no statement of any program stands here. -/
import Derived.Test.YtlldhkhmhgcpaaaGreatDoorXF
namespace Go.Sym
set_option linter.unusedVariables false
set_option linter.unusedSimpArgs false
/-! ### Forcing is the identity -/
theorem fNat_eq (n:Nat) (k:Nat->Prop):fNat n k=k n:=by cases n <;>rfl
mutual
theorem fK1_eq:∀(c:Kd) (k:Kd->Prop),fK1 c k=k c
 | .int a,k=>by simp only[fK1]
 | .bool,k=>by simp only[fK1]
 | .str,k=>by simp only[fK1]
 | .sl ks,k=>by simp only[fK1];exact fK_eq ks _
 | .pt n ks,k=>by simp only[fK1,fNat_eq];exact fK_eq ks _
theorem fK_eq:∀(ks:List Kd) (k:List Kd->Prop),fK ks k=k ks
 | [],k=>by simp only[fK]
 |c::cs,k=>by simp only[fK];rw[fK1_eq c,fK_eq cs]
end
mutual
theorem fV_eq:∀(v:SV) (k:SV->Prop),fV v k=k v
 | .u,k=>by simp only[fV]
 | .i _ _,k=>by simp only[fV]
 | .b _,k=>by simp only[fV]
 | .bt true,k=>by simp only[fV]
 | .bt false,k=>by simp only[fV]
 | .s _,k=>by simp only[fV]
 | .p _ _ _,k=>by simp only[fV,fNat_eq]
 | .q _ _,k=>by simp only[fV,fNat_eq]
 | .np,k=>by simp only[fV]
 | .sl _ _ _,k=>by simp only[fV,fNat_eq]
 | .ns,k=>by simp only[fV]
 | .mp _,k=>by simp only[fV,fNat_eq]
 | .nm,k=>by simp only[fV]
 | .nf,k=>by simp only[fV]
 | .fn f cs,k=>by simp only[fV];exact fL_eq cs _
 | .bm f cs,k=>by simp only[fV];exact fL_eq cs _
 | .agg cs,k=>by simp only[fV];exact fL_eq cs _
 | .tup cs,k=>by simp only[fV];exact fL_eq cs _
 | .arr _ _ _,k=>by simp only[fV,fK_eq]
theorem fL_eq:∀(cs:List SV) (k:List SV->Prop),fL cs k=k cs
 | [],k=>by simp only[fL]
 |c::cs,k=>by simp only[fL];rw[fV_eq c,fL_eq cs]
end
theorem fM_eq (m:Md) (k:Md->Prop):fM m k=k m:=by cases m <;>rfl
theorem fB_eq (b:Blk) (k:Blk->Prop):fB b k=k b:=by
 cases b with
 |dead=>rfl
 |one m cs=>simp only[fB,fM_eq,fL_eq]
 |rows m ks n f=>simp only[fB,fM_eq,fK_eq]
 |map m kk ks a keys f=>cases a <;>simp only[fB,fM_eq,fK_eq]
theorem fH_eq:∀(wr hp:List (Nat × Blk)) (k:List (Nat × Blk)->Prop),fH wr hp k=k (wr++hp)
 | [],hp,k=>rfl
 |(l,b)::r,hp,k=>by simp only[fH,fNat_eq,fB_eq];rw[fH_eq r hp];rfl
theorem fF_eq:∀(fr:List (Nat × SV)) (k:List (Nat × SV)->Prop),fF fr k=k fr
 | [],k=>rfl
 |(t,v)::r,k=>by simp only[fF,fNat_eq,fV_eq];rw[fF_eq r]
/-! ### The hand-made functions on lists -/
theorem lenL_eq (l:List SV):lenL l=l.length:=by induction l with|nil=>rfl|cons x r ih=>simp[lenL,ih]
theorem lenK_eq (l:List Kd):lenK l=l.length:=by induction l with|nil=>rfl|cons x r ih=>simp[lenK,ih]
theorem takeL_eq (n:Nat) (l:List SV):takeL n l=l.take n:=by
 induction n generalizing l with
 |zero=>simp[takeL]
 |succ n ih=>cases l <;>simp[takeL,ih]
theorem dropL_eq (n:Nat) (l:List SV):dropL n l=l.drop n:=by
 induction n generalizing l with
 |zero=>simp[dropL]
 |succ n ih=>cases l <;>simp[dropL,ih]
theorem takeK_eq (n:Nat) (l:List Kd):takeK n l=l.take n:=by
 induction n generalizing l with
 |zero=>simp[takeK]
 |succ n ih=>cases l <;>simp[takeK,ih]
theorem dropK_eq (n:Nat) (l:List Kd):dropK n l=l.drop n:=by
 induction n generalizing l with
 |zero=>simp[dropK]
 |succ n ih=>cases l <;>simp[dropK,ih]
theorem nthL_eq (l:List SV) (n:Nat):nthL l n=l[n]? :=by
 induction l generalizing n with
 |nil=>cases n <;>rfl
 |cons x r ih=>cases n <;>simp[nthL,ih]
theorem nthF_eq (l:List (Nat × Nat)) (n:Nat):nthF l n=l[n]? :=by
 induction l generalizing n with
 |nil=>cases n <;>rfl
 |cons x r ih=>cases n <;>simp[nthF,ih]
theorem nthO_eq (l:List Oper) (n:Nat):nthO l n=l[n]? :=by
 induction l generalizing n with
 |nil=>cases n <;>rfl
 |cons x r ih=>cases n <;>simp[nthO,ih]
theorem apL_eq (a b:List Nat):apL a b=a++b:=by induction a with|nil=>rfl|cons x r ih=>simp[apL,ih]
theorem mapN_eq (m:Nat->Nat) (l:List Nat):mapN m l=l.map m:=by induction l with|nil=>rfl|cons x r ih=>simp[mapN,ih]
theorem keys_eq (l:List (Nat × Blk)):keys l=l.map (·.1):=by induction l with|nil=>rfl|cons x r ih=>simp[keys,ih]
theorem memN_iff (l:List Nat) (x:Nat):memN l x=true↔x∈l:=by
 induction l with
 |nil=>simp[memN]
 |cons y r ih=>
  unfold memN
  cases h:Nat.beq y x with
  |true=>have:=Nat.eq_of_beq_eq_true h;simp[this]
  |false=>
   have:y≠x:=fun e=>by subst e;simp at h
   simp[ih,Ne.symm this]
theorem memN_false (l:List Nat) (x:Nat):memN l x=false↔x∉l:=by
 rw[<- memN_iff];cases memN l x <;>simp
theorem diff_iff (l:List Nat):diff l=true↔l.Nodup:=by
 induction l with
 |nil=>simp[diff]
 |cons x r ih=>
  unfold diff
  cases h:memN r x with
  |true=>have:=(memN_iff r x).1 h;simp[this]
  |false=>have:=(memN_false r x).1 h;simp[ih,this]
theorem IntKind.same_iff {a b:IntKind}:IntKind.same a b=true↔a=b:=by cases a <;>cases b <;>simp[IntKind.same]
mutual
theorem Kd.same_iff:∀ {a b:Kd},Kd.same a b=true↔a=b
 | .int k,b=>by cases b <;>simp[Kd.same,IntKind.same_iff]
 | .bool,b=>by cases b <;>simp[Kd.same]
 | .str,b=>by cases b <;>simp[Kd.same]
 | .sl ks,b=>by cases b <;>simp[Kd.same,kdsSame_iff (a:=ks)]
 | .pt n ks,b=>by
  cases b <;>simp[Kd.same]
  rename_i n' ks'
  cases h:Nat.beq n n' with
  |true=>have:=Nat.eq_of_beq_eq_true h;simp[this,kdsSame_iff (a:=ks)]
  |false=>
   have:n≠n':=fun e=>by subst e;simp at h
   simp[this]
theorem kdsSame_iff:∀ {a b:List Kd},kdsSame a b=true↔a=b
 | [],b=>by cases b <;>simp[kdsSame]
 |x::r,b=>by
  cases b with
  |nil=>simp[kdsSame]
  |cons y s=>
   simp only[kdsSame]
   cases h:Kd.same x y with
   |true=>have:=(Kd.same_iff (a:=x)).1 h;simp[kdsSame_iff (a:=r),this]
   |false=>
    have:x≠y:=fun e=>by rw[(Kd.same_iff (a:=x)).2 e]at h;cases h
    simp[this]
end
theorem hget_none_iff (hp:List (Nat × Blk)) (l:Nat):hget hp l=none↔l∉keys hp:=by
 induction hp with
 |nil=>simp[hget,keys]
 |cons x r ih=>
  obtain⟨k,v⟩:=x
  unfold hget keys
  cases h:Nat.beq k l with
  |true=>have:=Nat.eq_of_beq_eq_true h;simp[this]
  |false=>
   have:k≠l:=fun e=>by subst e;simp at h
   simp[ih,Ne.symm this]
theorem upds_eq (G:Hp) (wr:List (Nat × Blk)) (l:Nat):upds G wr l=match hget wr l with|some b=>some b|none=>G l:=by
 induction wr with
 |nil=>rfl
 |cons x r ih=>
  obtain⟨k,v⟩:=x
  unfold upds hget
  cases h:Nat.beq k l with
  |true=>rfl
  |false=>exact ih
/-! ### Data -/
def ZC (z z':Nat->Option Obj):Prop:=∀ b arr T fz,z b=some (.cells arr T fz)->z' b=some (.cells arr T fz)
theorem ZC.of {z z':Nat->Option Obj} (hz:∀ b o,z b=some o->z' b=some o):ZC z z':=fun _ _ _ _ h=>hz _ _ h
mutual
theorem DenD.monoC {z z':Nat->Option Obj} (hz:ZC z z'):∀ {k:Kd} {d:D} {v:Value},DenD z k d v->DenD z' k d v
 | .int k,d,v,h=>by simpa only[DenD]using h
 | .bool,d,v,h=>by simpa only[DenD]using h
 | .str,d,v,h=>by simpa only[DenD]using h
 | .sl ks,d,v,h=>by
  simp only[DenD]at h ⊢
  rcases h with h|⟨b,off,cap,arr,T,fz,h1,h2,h3,h4,h5⟩
  ·exact .inl h
  ·exact .inr ⟨b,off,cap,arr,T,fz,h1,h2,hz _ _ _ _ h3,h4,fun r hr=>DenR.monoC hz (h5 r hr)⟩
 | .pt n ks,d,v,h=>by
  simp only[DenD]at h ⊢
  rcases h with h|⟨b,off,arr,T,fz,h1,h2,h3,h4,h5,h6⟩
  ·exact .inl h
  ·exact .inr ⟨b,off,arr,T,fz,h1,h2,h3,hz _ _ _ _ h4,h5,fun r hr=>DenR.monoC hz (h6 r hr)⟩
theorem DenR.monoC {z z':Nat->Option Obj} (hz:ZC z z'):∀ {ks:List Kd} {g:Nat->D} {c:Nat} {arr:Array Value} {o:Nat},DenR z ks g c arr o->DenR z' ks g c arr o
 | [],_,_,_,_,_=>by simp only[DenR]
 |k::ks,g,c,arr,o,h=>by
  simp only[DenR]at h ⊢
  obtain⟨⟨u,h1,h2⟩,h3⟩:=h
  exact⟨⟨u,h1,DenD.monoC hz h2⟩,DenR.monoC hz h3⟩
end
theorem DenD.mono {z z':Nat->Option Obj} (hz:∀ b o,z b=some o->z' b=some o) {k:Kd} {d:D} {v:Value} (h:DenD z k d v):DenD z' k d v:=DenD.monoC (.of hz) h
theorem DenR.mono {z z':Nat->Option Obj} (hz:∀ b o,z b=some o->z' b=some o) {ks:List Kd} {g:Nat->D} {c:Nat} {arr:Array Value} {o:Nat} (h:DenR z ks g c arr o):DenR z' ks g c arr o:=DenR.monoC (.of hz) h
mutual
theorem DenD.eqv {z:Nat->Option Obj}:∀ {k:Kd} {a b:D} {v:Value},k.eqv a b->DenD z k a v->DenD z k b v
 | .int k,a,b,v,e,h=>by simp only[Kd.eqv]at e;simpa only[DenD,e]using h
 | .bool,a,b,v,e,h=>by simp only[Kd.eqv]at e;simpa only[DenD,e]using h
 | .str,a,b,v,e,h=>by simp only[Kd.eqv]at e;simpa only[DenD,e]using h
 | .sl ks,a,b,v,e,h=>by
  simp only[Kd.eqv]at e
  simp only[DenD]at h ⊢
  obtain⟨e1,e2⟩:=e
  rw[<- e1]
  rcases h with h|⟨b,off,cap,arr,T,fz,h1,h2,h3,h4,h5⟩
  ·exact .inl h
  ·exact .inr ⟨b,off,cap,arr,T,fz,h1,h2,h3,h4,fun r hr=>DenR.eqv (e2 r hr) (h5 r hr)⟩
 | .pt n ks,a,b,v,e,h=>by
  simp only[Kd.eqv]at e
  simp only[DenD]at h ⊢
  obtain⟨e1,e2⟩:=e
  rw[<- e1]
  rcases h with h|⟨b,off,arr,T,fz,h1,h2,h3,h4,h5,h6⟩
  ·exact .inl h
  ·exact .inr ⟨b,off,arr,T,fz,h1,h2,h3,h4,h5,fun r hr=>DenR.eqv (e2 r (by omega)) (h6 r hr)⟩
theorem DenR.eqv {z:Nat->Option Obj}:∀ {ks:List Kd} {g g':Nat->D} {c:Nat} {arr:Array Value} {o:Nat},rowEq ks g g' c->DenR z ks g c arr o->DenR z ks g' c arr o
 | [],_,_,_,_,_,_,_=>by simp only[DenR]
 |k::ks,g,g',c,arr,o,e,h=>by
  simp only[rowEq]at e
  simp only[DenR]at h ⊢
  obtain⟨⟨u,h1,h2⟩,h3⟩:=h
  exact⟨⟨u,h1,DenD.eqv e.1 h2⟩,DenR.eqv e.2 h3⟩
end
theorem DenR_iff {z:Nat->Option Obj}:∀ {ks:List Kd} {g:Nat->D} {c:Nat} {arr:Array Value} {o:Nat},
  DenR z ks g c arr o↔∀ j (h:j<ks.length),∃ u,arr[o+j]? =some u/\DenD z (ks[j]'h) (g (c+j)) u
 | [],g,c,arr,o=>by simp only[DenR,true_iff];intro j h;simp at h
 |k::ks,g,c,arr,o=>by
  simp only[DenR,DenR_iff (ks:=ks)]
  constructor
  ·rintro⟨h1,h2⟩ j hj
   cases j with
   |zero=>exact h1
   |succ j=>
    have:=h2 j (by simpa using hj)
    simpa[Nat.add_assoc,Nat.add_comm 1 j]using this
  ·intro h
   refine⟨h 0 (by simp),fun j hj=>?_⟩
   have:=h (j+1) (by simpa using hj)
   simpa[Nat.add_assoc,Nat.add_comm 1 j]using this
theorem DenR_congr {z:Nat->Option Obj} {ks:List Kd} {g:Nat->D} {c:Nat} {arr arr':Array Value} {o o':Nat} (h:DenR z ks g c arr o) (e:∀ j,j<ks.length->arr'[o'+j]? =arr[o+j]?):DenR z ks g c arr' o':=by
 rw[DenR_iff]at h ⊢
 intro j hj
 rw[e j hj]
 exact h j hj
/-! ### Reading hangs on the labels that are named, and on no others -/
def ZLe (ρ ρ':Env):Prop:=∀ b o,ρ.z b=some o->ρ'.z b=some o
theorem ZLe.refl (ρ:Env):ZLe ρ ρ:=fun _ _ h=>h
theorem ZLe.trans {a b c:Env} (h1:ZLe a b) (h2:ZLe b c):ZLe a c:=fun x o h=>h2 x o (h1 x o h)
mutual
theorem Den.congrC {ρ ρ':Env} (hz:ZC ρ.z ρ'.z):∀(x:SV) (v:Value),(∀ l∈x.labs,ρ l=ρ' l)->Den ρ x v->Den ρ' x v
 | .u,v,_,_=>by simp only[Den]
 | .i k n,v,_,h=>by simpa only[Den]using h
 | .b _,v,_,h=>by simpa only[Den]using h
 | .bt _,v,_,h=>by simpa only[Den]using h
 | .s _,v,_,h=>by simpa only[Den]using h
 | .p l r c,v,hl,h=>by
  have e:=hl l (by simp[SV.labs])
  simp only[Den]at h ⊢
  rwa [<- e]
 | .q l n,v,hl,h=>by
  have e:=hl l (by simp[SV.labs])
  simp only[Den]at h ⊢
  rwa [<- e]
 | .np,v,_,h=>by simpa only[Den]using h
 | .sl l a b,v,hl,h=>by
  have e:=hl l (by simp[SV.labs])
  simp only[Den]at h ⊢
  rwa [<- e]
 | .ns,v,_,h=>by simpa only[Den]using h
 | .mp l,v,hl,h=>by
  have e:=hl l (by simp[SV.labs])
  simp only[Den]at h ⊢
  rwa [<- e]
 | .nm,v,_,h=>by simpa only[Den]using h
 | .nf,v,_,h=>by simpa only[Den]using h
 | .fn f cs,v,hl,h=>by
  simp only[Den]at h ⊢
  obtain⟨vs,e,h⟩:=h
  exact⟨vs,e,DenL.congrC hz cs _ (by simpa[SV.labs]using hl) h⟩
 | .bm f cs,v,hl,h=>by
  simp only[Den]at h ⊢
  obtain⟨vs,e,h⟩:=h
  exact⟨vs,e,DenL.congrC hz cs _ (by simpa[SV.labs]using hl) h⟩
 | .agg cs,v,hl,h=>by
  simp only[Den]at h ⊢
  obtain⟨vs,e,h⟩:=h
  exact⟨vs,e,DenL.congrC hz cs _ (by simpa[SV.labs]using hl) h⟩
 | .tup cs,v,hl,h=>by
  simp only[Den]at h ⊢
  obtain⟨vs,e,h⟩:=h
  exact⟨vs,e,DenL.congrC hz cs _ (by simpa[SV.labs]using hl) h⟩
 | .arr ks n f,v,_,h=>by
  simp only[Den]at h ⊢
  obtain⟨vs,e,h1,h2⟩:=h
  exact⟨vs,e,h1,fun r hr=>DenR.monoC hz (h2 r hr)⟩
theorem DenL.congrC {ρ ρ':Env} (hz:ZC ρ.z ρ'.z):∀(cs:List SV) (vs:List Value),(∀ l∈labsL cs,ρ l=ρ' l)->DenL ρ cs vs->DenL ρ' cs vs
 | [],vs,_,h=>by simpa only[DenL]using h
 |c::cs,vs,hl,h=>by
  simp only[DenL]at h ⊢
  obtain⟨v,r,e,h1,h2⟩:=h
  exact⟨v,r,e,Den.congrC hz c v (fun l hh=>hl l (by simp[labsL,hh])) h1,DenL.congrC hz cs r (fun l hh=>hl l (by simp[labsL,hh])) h2⟩
end
theorem Den.congr {ρ ρ':Env} (hz:ZLe ρ ρ') (x:SV) (v:Value) (h:∀ l∈x.labs,ρ l=ρ' l) (k:Den ρ x v):Den ρ' x v:=Den.congrC (.of hz) x v h k
theorem DenL.congr {ρ ρ':Env} (hz:ZLe ρ ρ') (cs:List SV) (vs:List Value) (h:∀ l∈labsL cs,ρ l=ρ' l) (k:DenL ρ cs vs):DenL ρ' cs vs:=DenL.congrC (.of hz) cs vs h k
theorem DenL.length {ρ:Env}:∀ {cs:List SV} {vs:List Value},DenL ρ cs vs->vs.length=cs.length
 | [],vs,h=>by simp only[DenL]at h;simp[h]
 |c::cs,vs,h=>by
  simp only[DenL]at h
  obtain⟨v,r,rfl,_,h2⟩:=h
  simp[DenL.length h2]
theorem DenL_cons {ρ:Env} {c:SV} {cs:List SV} {v:Value} {vs:List Value}:DenL ρ (c::cs) (v::vs)↔Den ρ c v/\DenL ρ cs vs:=by
 simp only[DenL]
 constructor
 ·rintro⟨v',r,e,h1,h2⟩;cases e;exact⟨h1,h2⟩
 ·rintro⟨h1,h2⟩;exact⟨_,_,rfl,h1,h2⟩
theorem DenL_nil {ρ:Env} {vs:List Value}:DenL ρ [] vs↔vs=[]:=by simp only[DenL]
theorem DenL_append {ρ:Env}:∀ {as bs:List SV} {vs ws:List Value},DenL ρ as vs->DenL ρ bs ws->DenL ρ (as++bs) (vs++ws)
 | [],bs,vs,ws,h,k=>by rw[DenL_nil]at h;subst h;exact k
 |a::as,bs,vs,ws,h,k=>by
  cases vs with
  |nil=>simp[DenL]at h
  |cons v vs=>rw[DenL_cons]at h;exact DenL_cons.2 ⟨h.1,DenL_append h.2 k⟩
theorem DenL_take {ρ:Env} (n:Nat):∀ {cs:List SV} {vs:List Value},DenL ρ cs vs->DenL ρ (cs.take n) (vs.take n):=by
 induction n with
 |zero=>intro cs vs _;simp[DenL]
 |succ n ih=>
  intro cs vs h
  cases cs with
  |nil=>rw[DenL_nil]at h;subst h;simp[DenL]
  |cons c cs=>cases vs with
   |nil=>simp[DenL]at h
   |cons v vs=>rw[DenL_cons]at h;exact DenL_cons.2 ⟨h.1,ih h.2⟩
theorem DenL_drop {ρ:Env} (n:Nat):∀ {cs:List SV} {vs:List Value},DenL ρ cs vs->DenL ρ (cs.drop n) (vs.drop n):=by
 induction n with
 |zero=>intro cs vs h;simpa using h
 |succ n ih=>
  intro cs vs h
  cases cs with
  |nil=>rw[DenL_nil]at h;subst h;simp[DenL]
  |cons c cs=>cases vs with
   |nil=>simp[DenL]at h
   |cons v vs=>rw[DenL_cons]at h;exact ih h.2
theorem DenL_get {ρ:Env}:∀ {cs:List SV} {vs:List Value} {i:Nat} {c:SV},DenL ρ cs vs->cs[i]? =some c->∃ v,vs[i]? =some v/\Den ρ c v
 | [],vs,i,c,h,e=>by simp at e
 |c'::cs,[],i,c,h,e=>by simp[DenL]at h
 |c'::cs,v::vs,0,c,h,e=>by
  rw[DenL_cons]at h
  simp at e;subst e
  exact⟨v,rfl,h.1⟩
 |c'::cs,v::vs,i+1,c,h,e=>by
  rw[DenL_cons]at h
  simpa using DenL_get (i:=i) h.2 (by simpa using e)
theorem splice_length:∀(xs:List SV) (n:Nat) (ys:List SV),n+ys.length<=xs.length->(splice xs n ys).length=xs.length
 |xs,n,[],_=>by cases xs <;>simp[splice]
 | [],n,y::ys,h=>by simp at h
 |x::xs,0,y::ys,h=>by simp[splice,splice_length xs 0 ys (by simp at h ⊢;omega)]
 |x::xs,n+1,y::ys,h=>by simp[splice,splice_length xs n (y::ys) (by simp at h ⊢;omega)]
def spliceV (xs:List Value) (n:Nat) (ys:List Value):List Value:=xs.take n++ys++xs.drop (n+ys.length)
theorem splice_eq:∀(xs:List SV) (n:Nat) (ys:List SV),n+ys.length<=xs.length->splice xs n ys=xs.take n++ys++xs.drop (n+ys.length)
 |xs,n,[],_=>by cases xs <;>simp[splice]
 | [],n,y::ys,h=>by simp at h
 |x::xs,0,y::ys,h=>by
  rw[splice,splice_eq xs 0 ys (by simp at h ⊢;omega)]
  simp
 |x::xs,n+1,y::ys,h=>by
  rw[splice,splice_eq xs n (y::ys) (by simp at h ⊢;omega)]
  have:n+1+(y::ys).length=(n+(y::ys).length)+1:=by omega
  rw[this];simp
theorem DenL_splice {ρ:Env} {xs ys:List SV} {vs ws:List Value} {n:Nat} (h:DenL ρ xs vs) (k:DenL ρ ys ws) (hn:n+ys.length<=xs.length):
  DenL ρ (splice xs n ys) (spliceV vs n ws):=by
 rw[splice_eq xs n ys hn]
 unfold spliceV
 rw[k.length]
 exact DenL_append (DenL_append (DenL_take n h) k) (DenL_drop _ h)
theorem labsL_append (a b:List SV):labsL (a++b)=labsL a++labsL b:=by
 induction a with
 |nil=>simp[labsL]
 |cons x r ih=>simp[labsL,ih]
theorem labsL_mem {cs:List SV} {l:Nat}:l∈labsL cs↔∃ c∈cs,l∈c.labs:=by
 induction cs with
 |nil=>simp[labsL]
 |cons x r ih=>simp[labsL,ih]
theorem labsL_take (n:Nat) {cs:List SV} {l:Nat} (h:l∈labsL (cs.take n)):l∈labsL cs:=by
 rw[labsL_mem]at h ⊢
 obtain⟨c,hc,hl⟩:=h
 exact⟨c,List.mem_of_mem_take hc,hl⟩
theorem labsL_drop (n:Nat) {cs:List SV} {l:Nat} (h:l∈labsL (cs.drop n)):l∈labsL cs:=by
 rw[labsL_mem]at h ⊢
 obtain⟨c,hc,hl⟩:=h
 exact⟨c,List.mem_of_mem_drop hc,hl⟩
theorem labsL_splice {xs ys:List SV} {n l:Nat} (hn:n+ys.length<=xs.length) (h:l∈labsL (splice xs n ys)):l∈labsL xs∨l∈labsL ys:=by
 rw[splice_eq xs n ys hn,labsL_append,labsL_append]at h
 simp only[List.mem_append]at h
 rcases h with(h|h)|h
 ·exact .inl (labsL_take _ h)
 ·exact .inr h
 ·exact .inl (labsL_drop _ h)
/-! ### Renaming -/
def Env.ren (ρ:Env) (m:Nat->Nat):Env:=⟨fun l=>ρ (m l),ρ.z⟩
mutual
theorem Den_ren {ρ:Env} {m:Nat->Nat}:∀(x:SV) (v:Value),Den ρ (ren m x) v↔Den (ρ.ren m) x v
 | .u,v=>by simp only[ren,Den]
 | .i k n,v=>by simp only[ren,Den]
 | .b _,v=>by simp only[ren,Den]
 | .bt _,v=>by simp only[ren,Den]
 | .s _,v=>by simp only[ren,Den]
 | .p l r c,v=>by simp only[ren,Den,Env.ren]
 | .q l n,v=>by simp only[ren,Den,Env.ren]
 | .np,v=>by simp only[ren,Den]
 | .sl l a b,v=>by simp only[ren,Den,Env.ren]
 | .ns,v=>by simp only[ren,Den]
 | .mp l,v=>by simp only[ren,Den,Env.ren]
 | .nm,v=>by simp only[ren,Den]
 | .nf,v=>by simp only[ren,Den]
 | .fn f cs,v=>by simp only[ren,Den,DenL_ren cs]
 | .bm f cs,v=>by simp only[ren,Den,DenL_ren cs]
 | .agg cs,v=>by simp only[ren,Den,DenL_ren cs]
 | .tup cs,v=>by simp only[ren,Den,DenL_ren cs]
 | .arr k n f,v=>by simp only[ren,Den,Env.ren]
theorem DenL_ren {ρ:Env} {m:Nat->Nat}:∀(cs:List SV) (vs:List Value),DenL ρ (renL m cs) vs↔DenL (ρ.ren m) cs vs
 | [],vs=>by simp only[renL,DenL]
 |c::cs,vs=>by simp only[renL,DenL,Den_ren c,DenL_ren cs]
end
mutual
theorem labs_ren {m:Nat->Nat}:∀(x:SV),(ren m x).labs=x.labs.map m
 | .u| .i _ _| .b _| .bt _| .s _| .np| .ns| .nm| .nf| .arr _ _ _=>by simp only[ren,SV.labs,List.map_nil]
 | .p _ _ _| .q _ _| .sl _ _ _| .mp _=>by simp only[ren,SV.labs,List.map_cons,List.map_nil]
 | .fn f cs=>by simp only[ren,SV.labs,labsL_ren cs]
 | .bm f cs=>by simp only[ren,SV.labs,labsL_ren cs]
 | .agg cs=>by simp only[ren,SV.labs,labsL_ren cs]
 | .tup cs=>by simp only[ren,SV.labs,labsL_ren cs]
theorem labsL_ren {m:Nat->Nat}:∀(cs:List SV),labsL (renL m cs)=(labsL cs).map m
 | []=>by simp only[renL,labsL,List.map_nil]
 |c::cs=>by simp only[renL,labsL,labs_ren c,labsL_ren cs,List.map_append]
end
theorem renL_length (m:Nat->Nat) (cs:List SV):(renL m cs).length=cs.length:=by
 induction cs with
 |nil=>rfl
 |cons c cs ih=>simp[renL,ih]
theorem Blk.labs_ren (m:Nat->Nat) (b:Blk):(b.ren m).labs=b.labs.map m:=by
 cases b <;>simp[Blk.ren,Blk.labs,labsL_ren]
theorem Blk.mut_ren (m:Nat->Nat) (b:Blk):(b.ren m).mut=b.mut:=by cases b <;>rfl
theorem keys_renH (m:Nat->Nat) (g:List (Nat × Blk)):keys (renH m g)=mapN m (keys g):=by
 induction g with
 |nil=>rfl
 |cons x r ih=>obtain⟨l,b⟩:=x;simp[renH,keys,mapN,ih]
/-! ### Entailment -/
mutual
theorem Ent.den {ρ:Env} {G:Hp} (tight:∀ l,G l=none->ρ l=none):∀(y x:SV) (v:Value),Ent G x y->Den ρ x v->Den ρ y v
 | .u,x,v,_,_=>by simp only[Den]
 | .i k' n',x,v,h,hd=>by
  cases x <;>simp only[Ent]at h <;>try exact h.elim
  rename_i k n
  split at h
  ·rename_i hk
   rw[IntKind.same_iff.1 hk,h]at hd;exact hd
  ·exact h.elim
 | .b y,x,v,h,hd=>by
  cases x <;>simp only[Ent]at h <;>try exact h.elim
  ·subst h;exact hd
  ·subst h;simpa only[Den]using hd
 | .bt y,x,v,h,hd=>by
  cases x <;>simp only[Ent]at h <;>try exact h.elim
  subst h;exact hd
 | .s y,x,v,h,hd=>by
  cases x <;>simp only[Ent]at h <;>try exact h.elim
  subst h;exact hd
 | .p l' r' c',x,v,h,hd=>by
  cases x <;>simp only[Ent]at h <;>try exact h.elim
  split at h
  ·rename_i hl
   obtain⟨rfl,rfl⟩:=h
   rw[<- Nat.eq_of_beq_eq_true hl];exact hd
  ·exact h.elim
 | .q l' n',x,v,h,hd=>by
  cases x <;>simp only[Ent]at h <;>try exact h.elim
  ·split at h
   ·rename_i hl
    obtain⟨rfl,rfl,hn⟩:=h
    rw[<- Nat.eq_of_beq_eq_true hl]
    simp only[Den]at hd ⊢
    obtain⟨pl,e1,e2⟩:=hd
    exact .inr ⟨pl,hn,e1,e2⟩
   ·exact h.elim
  ·split at h
   ·rename_i hl
    subst h
    rw[<- Nat.eq_of_beq_eq_true hl];exact hd
   ·exact h.elim
  ·subst h
   simp only[Den]at hd ⊢
   exact .inl ⟨trivial,hd⟩
 | .np,x,v,h,hd=>by
  cases x <;>simp only[Ent]at h <;>try exact h.elim
  exact hd
 | .sl l' a' b',x,v,h,hd=>by
  cases x <;>simp only[Ent]at h <;>try exact h.elim
  ·split at h
   ·rename_i hl
    obtain⟨rfl,rfl⟩:=h
    rw[<- Nat.eq_of_beq_eq_true hl];exact hd
   ·exact h.elim
  ·obtain⟨h1,rfl,rfl⟩:=h
   simp only[Den]at hd ⊢
   refine .inl ⟨tight l' ?_,hd,by simp⟩
   unfold none? at h1
   split at h1
   ·assumption
   ·exact h1.elim
 | .ns,x,v,h,hd=>by
  cases x <;>simp only[Ent]at h <;>try exact h.elim
  exact hd
 | .mp l',x,v,h,hd=>by
  cases x <;>simp only[Ent]at h <;>try exact h.elim
  split at h
  ·rename_i hl
   rw[<- Nat.eq_of_beq_eq_true hl];exact hd
  ·exact h.elim
 | .nm,x,v,h,hd=>by
  cases x <;>simp only[Ent]at h <;>try exact h.elim
  exact hd
 | .nf,x,v,h,hd=>by
  cases x <;>simp only[Ent]at h <;>try exact h.elim
  exact hd
 | .fn f cs,x,v,h,hd=>by
  cases x <;>simp only[Ent]at h <;>try exact h.elim
  split at h
  ·rename_i hf
   simp only[Den]at hd ⊢
   obtain⟨vs,e,hd⟩:=hd
   rw[Nat.eq_of_beq_eq_true hf]at e
   exact⟨vs,e,EntL.den tight cs _ _ h hd⟩
  ·exact h.elim
 | .bm f cs,x,v,h,hd=>by
  cases x <;>simp only[Ent]at h <;>try exact h.elim
  split at h
  ·rename_i hf
   simp only[Den]at hd ⊢
   obtain⟨vs,e,hd⟩:=hd
   rw[Nat.eq_of_beq_eq_true hf]at e
   exact⟨vs,e,EntL.den tight cs _ _ h hd⟩
  ·exact h.elim
 | .agg cs,x,v,h,hd=>by
  cases x <;>simp only[Ent]at h <;>try exact h.elim
  simp only[Den]at hd ⊢
  obtain⟨vs,e,hd⟩:=hd
  exact⟨vs,e,EntL.den tight cs _ _ h hd⟩
 | .tup cs,x,v,h,hd=>by
  cases x <;>simp only[Ent]at h <;>try exact h.elim
  simp only[Den]at hd ⊢
  obtain⟨vs,e,hd⟩:=hd
  exact⟨vs,e,EntL.den tight cs _ _ h hd⟩
 | .arr k n f,x,v,h,hd=>by
  cases x <;>simp only[Ent]at h <;>try exact h.elim
  split at h
  ·rename_i hk
   obtain⟨rfl,hj⟩:=h
   have:=kdsSame_iff.1 hk
   subst this
   simp only[Den]at hd ⊢
   obtain⟨vs,e,hs,hc⟩:=hd
   exact⟨vs,e,hs,fun r hr=>DenR.eqv (hj.h r hr) (hc r hr)⟩
  ·exact h.elim
theorem EntL.den {ρ:Env} {G:Hp} (tight:∀ l,G l=none->ρ l=none):∀(ys xs:List SV) (vs:List Value),EntL G xs ys->DenL ρ xs vs->DenL ρ ys vs
 | [],xs,vs,h,hd=>by
  cases xs with
  |nil=>exact hd
  |cons=>simp only[EntL]at h
 |y::ys,xs,vs,h,hd=>by
  cases xs with
  |nil=>simp only[EntL]at h
  |cons x xs=>
   simp only[EntL]at h
   cases vs with
   |nil=>simp[DenL]at hd
   |cons v vs=>
    rw[DenL_cons]at hd ⊢
    exact⟨Ent.den tight y x v h.1 hd.1,EntL.den tight ys xs vs h.2 hd.2⟩
end
theorem EntL.length {G:Hp}:∀ {xs ys:List SV},EntL G xs ys->xs.length=ys.length
 | [],[],_=>rfl
 | [],_::_,h=>by simp only[EntL]at h
 |_::_,[],h=>by simp only[EntL]at h
 |x::xs,y::ys,h=>by simp only[EntL]at h;simp[EntL.length h.2]
mutual
theorem Kd.eqv_rfl:∀(k:Kd) (a:D),k.eqv a a
 | .int _,a=>by simp only[Kd.eqv]
 | .bool,a=>by simp only[Kd.eqv]
 | .str,a=>by simp only[Kd.eqv]
 | .sl ks,a=>by simp only[Kd.eqv];exact⟨trivial,fun r _=>rowEq_rfl ks _ 0⟩
 | .pt _ ks,a=>by simp only[Kd.eqv];exact⟨trivial,fun r _=>rowEq_rfl ks _ 0⟩
theorem rowEq_rfl:∀(ks:List Kd) (g:Nat->D) (c:Nat),rowEq ks g g c
 | [],_,_=>by simp only[rowEq]
 |k::ks,g,c=>by simp only[rowEq];exact⟨Kd.eqv_rfl k _,rowEq_rfl ks g (c+1)⟩
end
theorem RowsEq.rfl' {ks:List Kd} {n:Nat} {f:Nat->Nat->D}:RowsEq ks n f f:=⟨fun r _=>rowEq_rfl ks _ 0⟩
theorem MapEq.rfl' {ks:List Kd} {keys:List Int} {f:Int->Nat->D}:MapEq ks keys keys f f:=⟨List.Perm.refl _,fun k _=>rowEq_rfl ks _ 0⟩
end Go.Sym
namespace Go.Sym
set_option linter.unusedVariables false
set_option linter.unusedSimpArgs false
def tdOk:TD->TypeDesc->Bool
 | .int k,.int k'=>IntKind.same k k'
 | .bool,.bool=>true
 | .str,.string=>true
 | .ptr e,.pointer e'=>Nat.beq e e'
 | .slice e,.slice e'=>Nat.beq e e'
 | .struct fs,.struct gs=>decide (gs.toList.map (fun f=>(f.offset,f.type))=fs)
 | .arr n e,.array n' e'=>Nat.beq n n'&&Nat.beq e e'
 | .map k v,.map k' v'=>Nat.beq k k'&&Nat.beq v v'
 | .func,.func _ _ _=>true
 | .other,.struct _=>false
 | .other,.array _ _=>false
 | .other,_=>true
 |_,_=>false
def zOk:SV->Value->Bool
 | .i k n,.int k' n'=>IntKind.same k k'&&decide (n=n')
 | .bt b,.bool b'=>b==b'
 | .s x,.string y=>decide (x=y)
 | .np,.pointer none=>true
 | .ns,.slice none 0 0=>true
 | .nm,.map none=>true
 | .nf,.nilFunc=>true
 | .u,_=>true
 |_,_=>false
def zsOk:List SV->List Value->Bool
 | [],[]=>true
 |x::xs,y::ys=>zOk x y&&zsOk xs ys
 |_,_=>false
def structOk (P:Program) (t:Nat):Bool:=
 match P.underlying t with
 |some (.struct gs)=>gs.toList.all (fun f=>(P.info? f.type).isSome)&&(gs.toList.any (fun f=>match P.underlying f.type with|some (.int _)=>false|_=>true)||
   (gs.toList.all (fun f=>f.name != "_")&& !P.eqGuardType P.depth t&& !P.stoodInHeld t))
 |some (.array _ e)=>(match P.underlying e with|some (.int _)=> !P.eqGuardType P.depth t|_=>true)
 |_=>true
def tiOk (P:Program) (t:Nat) (ti:TI):Bool:=
 structOk P t&&match P.underlying t,P.info? t with
 |some d,some i=>match i.zero with
  |some z=>tdOk ti.d d&&Nat.beq i.size ti.size&&Nat.beq i.bytes ti.bytes&&zsOk ti.zero z.cells.toList&&Nat.beq z.cells.size ti.size&&
    (match z with| .agg _=>ti.isAgg|_=> !ti.isAgg)
  |none=>false
 |_,_=>false
def tokB (P:Program):List (Nat × TI)->Bool
 | []=>true
 |(t,ti)::r=>tiOk P t ti&&tokB P r
structure TiOk (P:Program) (t:Nat) (ti:TI):Prop where
 d:∃ d,P.underlying t=some d/\tdOk ti.d d=true
 i:∃ i z,P.info? t=some i/\i.zero=some z/\i.size=ti.size/\i.bytes=ti.bytes/\zsOk ti.zero z.cells.toList=true/\z.cells.size=ti.size/\
  (ti.isAgg=true->z= .agg z.cells)/\(ti.isAgg=false->z.cells= #[z])
 s:structOk P t=true
def TOk (P:Program) (T:List (Nat × TI)):Prop:=∀ t ti,tget T t=some ti->TiOk P t ti
theorem tiOk_spec {P:Program} {t:Nat} {ti:TI} (h:tiOk P t ti=true):TiOk P t ti:=by
 unfold tiOk at h
 rw[Bool.and_eq_true]at h
 obtain⟨hs,h⟩:=h
 split at h
 ·rename_i d i hd hi
  split at h
  ·rename_i z hz
   simp only[Bool.and_eq_true]at h
   obtain⟨⟨⟨⟨⟨h1,h2⟩,h3⟩,h4⟩,h5⟩,h6⟩:=h
   refine⟨⟨d,hd,h1⟩,⟨i,z,hi,hz,Nat.eq_of_beq_eq_true h2,Nat.eq_of_beq_eq_true h3,h4,Nat.eq_of_beq_eq_true h5,?_,?_⟩,hs⟩
   ·intro ha
    cases z <;>first|rfl|(rw[ha]at h6;simp at h6)
   ·intro ha
    cases z <;>first|rfl|(rw[ha]at h6;simp at h6)
  ·cases h
 ·cases h
theorem tokB_spec {P:Program}:∀ {T:List (Nat × TI)},tokB P T=true->TOk P T
 | [],_,t,ti,e=>by simp[tget]at e
 |(k,x)::r,h,t,ti,e=>by
  unfold tokB at h
  rw[Bool.and_eq_true]at h
  unfold tget at e
  split at e
  ·rename_i hk
   cases e
   rw[<- Nat.eq_of_beq_eq_true hk]
   exact tiOk_spec h.1
  ·exact tokB_spec h.2 t ti e
section runs
variable {P:Program} {w:World} {t:Nat}
theorem run_underlying {d:TypeDesc} (h:P.underlying t=some d):(underlying t).run P w= .ok d w:=by
 simp[underlying,program,Sem.run,h]
theorem run_typeInfo {i:TypeInfo} (h:P.info? t=some i):(typeInfo t).run P w= .ok i w:=by
 simp[typeInfo,program,Sem.run,h]
theorem run_sizeOf {ti:TI} (h:TiOk P t ti):(sizeOf t).run P w= .ok ti.size w:=by
 obtain⟨i,z,hi,_,hs,_⟩:=h.i
 simp[sizeOf,run_typeInfo hi,hs]
theorem run_zeroValue {ti:TI} (h:TiOk P t ti):∃ z,(zeroValue t).run P w= .ok z w/\zsOk ti.zero z.cells.toList=true/\z.cells.size=ti.size:=by
 obtain⟨i,z,hi,hz,hs,_,h1,h2,_⟩:=h.i
 exact⟨z,by simp[zeroValue,run_typeInfo hi,hz],h1,h2⟩
theorem run_isAgg {ti:TI} (h:TiOk P t ti):(isAgg t).run P w= .ok ti.isAgg w:=by
 obtain⟨d,hd,hk⟩:=h.d
 obtain⟨td,a,b,c⟩:=ti
 simp only[isAgg,Sem.run_bind,run_underlying hd,Result.andThen_ok]
 cases td <;>cases d <;>simp_all[tdOk,TI.isAgg]
theorem zOk_den {ρ:Env} {x:SV} {y:Value} (h:zOk x y=true):Den ρ x y:=by
 unfold zOk at h
 split at h <;>first|(cases h;done)|skip
 all_goals simp only[Den]
 all_goals try trivial
 ·simp only[Bool.and_eq_true,decide_eq_true_eq,IntKind.same_iff]at h
  rw[h.1,h.2]
 ·rw[beq_iff_eq]at h
  rw[h]
 ·rw[decide_eq_true_eq]at h
  rw[h]
theorem zOk_labs {x:SV} {y:Value} (h:zOk x y=true):x.labs=[]:=by
 unfold zOk at h
 split at h <;>first|(cases h;done)|simp[SV.labs]
theorem zsOk_den {ρ:Env}:∀ {xs:List SV} {ys:List Value},zsOk xs ys=true->DenL ρ xs ys
 | [],[],_=>by simp[DenL]
 | [],_::_,h=>by simp[zsOk]at h
 |_::_,[],h=>by simp[zsOk]at h
 |x::xs,y::ys,h=>by
  simp only[zsOk,Bool.and_eq_true]at h
  refine DenL_cons.2 ⟨?_,zsOk_den h.2⟩
  exact zOk_den h.1
theorem zsOk_labs:∀ {xs:List SV} {ys:List Value},zsOk xs ys=true->labsL xs=[]
 | [],[],_=>rfl
 | [],_::_,h=>by simp[zsOk]at h
 |_::_,[],h=>by simp[zsOk]at h
 |x::xs,y::ys,h=>by
  simp only[zsOk,Bool.and_eq_true]at h
  rw[labsL,zsOk_labs h.2,zOk_labs h.1]
  rfl
variable {arr:Array Value} {ty:TypeId} {fz:Nat × Nat} {b:Nat}
theorem cell_of_block (h:w.heap[b]? =some (.cells arr ty fz)) (o:Nat):w.cell? ⟨b,o,none⟩=arr[o]? :=by
 simp[World.cell?,h]
theorem run_load1 (h:w.heap[b]? =some (.cells arr ty fz)) {o:Nat} {v:Value} (hv:arr[o]? =some v):(load ⟨b,o,none⟩).run P w= .ok v w:=by
 simp[run_load,cell_of_block h,hv]
theorem add_none (o n:Nat):Addr.add ⟨b,o,none⟩ n=⟨b,o+n,none⟩:=by
 unfold Addr.add
 split
 ·rename_i h;subst h;rfl
 ·rfl
theorem run_loadCellsFrom (h:w.heap[b]? =some (.cells arr ty fz)) (o:Nat):∀(n i:Nat) (acc:Array Value),o+i+n<=arr.size->
  ∃ vs:Array Value,(loadCellsFrom ⟨b,o,none⟩ i n acc).run P w= .ok vs w/\vs.toList=acc.toList++(arr.toList.drop (o+i)).take n:=by
 intro n
 induction n with
 |zero=>intro i acc _;exact⟨acc,rfl,by simp⟩
 |succ n ih=>
  intro i acc hn
  have hlt:o+i<arr.size:=by omega
  have hv:arr[o+i]? =some arr[o+i]:=Array.getElem?_eq_getElem hlt
  obtain⟨vs,h1,h2⟩:=ih (i+1) (acc.push arr[o+i]) (by omega)
  refine⟨vs,?_,?_⟩
  ·simp only[loadCellsFrom,add_none,Sem.run_bind,run_load1 h hv,Result.andThen_ok]
   exact h1
  ·rw[h2]
   have:arr.toList.drop (o+i)=arr[o+i]::arr.toList.drop (o+(i+1)):=by
    rw[<- Array.getElem_toList hlt,List.drop_eq_getElem_cons (by simpa using hlt)]
    rfl
   rw[this]
   simp
theorem run_loadCells (h:w.heap[b]? =some (.cells arr ty fz)) (o n:Nat) (hn:o+n<=arr.size):
  ∃ vs:Array Value,(loadCells ⟨b,o,none⟩ n).run P w= .ok vs w/\vs.toList=(arr.toList.drop o).take n:=by
 obtain⟨vs,h1,h2⟩:=run_loadCellsFrom (P:=P) h o n 0 #[] (by omega)
 exact⟨vs,h1,by simpa using h2⟩
theorem run_loadVar {ti:TI} (ht:TiOk P t ti) (h:w.heap[b]? =some (.cells arr ty fz)) (o:Nat) (hn:o+ti.size<=arr.size):
  (ti.isAgg=true/\∃ vs:Array Value,(loadVar t ⟨b,o,none⟩).run P w= .ok (.agg vs) w/\vs.toList=(arr.toList.drop o).take ti.size)∨
  (ti.isAgg=false/\∀ v,arr[o]? =some v->(loadVar t ⟨b,o,none⟩).run P w= .ok v w):=by
 cases ha:ti.isAgg with
 |true=>
  obtain⟨vs,h1,h2⟩:=run_loadCells (P:=P) h o ti.size hn
  exact .inl ⟨rfl,vs,by simp[loadVar,run_isAgg ht,ha,run_sizeOf ht,h1],h2⟩
 |false=>exact .inr ⟨rfl,fun v hv=>by
   simp only[loadVar,Sem.run_bind,run_isAgg ht,ha,Result.andThen_ok,Bool.false_eq_true,if_false]
   exact run_load1 h hv⟩
def cellable:Value->Bool
 | .agg _| .tuple _=>false
 |_=>true
theorem setCell_heap (h:w.heap[b]? =some (.cells arr ty fz)) (o:Nat) (v:Value):
  (w.setCell ⟨b,o,none⟩ v)={ w with heap:=w.heap.setIfInBounds b (.cells (arr.setIfInBounds o v) ty fz)}:=by
 have hb:b<w.heap.size:=by
  rcases Nat.lt_or_ge b w.heap.size with h'|h'
  ·exact h'
  ·rw[Array.getElem?_eq_none h']at h;cases h
 simp only[World.setCell]
 congr 1
 apply Array.ext_getElem?
 intro i
 simp only[Array.getElem?_modify,Array.getElem?_setIfInBounds,hb,if_true]
 by_cases hi:b=i
 ·subst hi;simp[h]
 ·simp[hi]
theorem run_store1 (h:w.heap[b]? =some (.cells arr ty (0,0))) {o:Nat} {v:Value} (ho:o<arr.size) (hv:cellable v=true):
  (store ⟨b,o,none⟩ v).run P w= .ok () { w with heap:=w.heap.setIfInBounds b (.cells (arr.setIfInBounds o v) ty (0,0))}:=by
 have hc:w.cell? ⟨b,o,none⟩=some arr[o]:=by rw[cell_of_block h];exact Array.getElem?_eq_getElem ho
 have hf:w.frozen? ⟨b,o,none⟩=false:=by simp[World.frozen?,h]
 rw[<- setCell_heap h]
 cases v <;>first|(simp[cellable]at hv;done)|simp[store,Sem.run,hc,hf]
theorem getElem_set_self (hb:b<w.heap.size) (x:Obj):({ w with heap:=w.heap.setIfInBounds b x }:World).heap[b]? =some x:=by
 simp[hb]
theorem run_storeCells:∀(vs:List Value) (w:World) (arr:Array Value) (o i:Nat),w.heap[b]? =some (.cells arr ty (0,0))->o+i+vs.length<=arr.size->
  (∀ v∈vs,cellable v=true)->
  ∃ arr':Array Value,(storeCells ⟨b,o,none⟩ vs i).run P w= .ok () { w with heap:=w.heap.setIfInBounds b (.cells arr' ty (0,0))}/\
   arr'.toList=spliceV arr.toList (o+i) vs
 | [],w,arr,o,i,h,_,_=>by
  refine⟨arr,?_,by simp[spliceV]⟩
  have:w.heap.setIfInBounds b (.cells arr ty (0,0))=w.heap:=by
   apply Array.ext_getElem?
   intro j
   rw[Array.getElem?_setIfInBounds]
   by_cases hj:b=j
   ·subst hj
    have hb:b<w.heap.size:=by
     rcases Nat.lt_or_ge b w.heap.size with h'|h'
     ·exact h'
     ·rw[Array.getElem?_eq_none h']at h;cases h
    rw[if_pos rfl,if_pos hb,h]
   ·rw[if_neg hj]
  rw[this]
  rfl
 |v::vs,w,arr,o,i,h,hn,hc=>by
  have hb:b<w.heap.size:=by
   rcases Nat.lt_or_ge b w.heap.size with h'|h'
   ·exact h'
   ·rw[Array.getElem?_eq_none h']at h;cases h
  have hlt:o+i<arr.size:=by simp at hn;omega
  obtain⟨arr',h1,h2⟩:=run_storeCells vs { w with heap:=w.heap.setIfInBounds b (.cells (arr.setIfInBounds (o+i) v) ty (0,0))} (arr.setIfInBounds (o+i) v) o (i+1)
   (by simp[hb]) (by simp at hn ⊢;omega) (fun u hu=>hc u (by simp[hu]))
  refine⟨arr',?_,?_⟩
  ·simp only[storeCells,add_none,Sem.run_bind,run_store1 h hlt (hc v (by simp)),Result.andThen_ok,h1]
   simp
  ·rw[h2]
   unfold spliceV
   simp only[Array.toList_setIfInBounds,List.length_cons]
   have e1:(arr.toList.set (o+i) v).take (o+(i+1))=arr.toList.take (o+i)++[v]:=by
    have hl:o+i<arr.toList.length:=by simpa using hlt
    rw[show o+(i+1)=o+i+1 from by omega,List.take_succ_eq_append_getElem (by simpa using hl)]
    rw[List.take_set_of_le (Nat.le_refl _)]
    simp
   have e2:(arr.toList.set (o+i) v).drop (o+(i+1)+vs.length)=arr.toList.drop (o+i+(vs.length+1)):=by
    rw[List.drop_set_of_lt (by omega)]
    congr 1
    omega
   rw[e1,e2]
   simp
theorem run_storeVar {ti:TI} (ht:TiOk P t ti) (h:w.heap[b]? =some (.cells arr ty (0,0))) (o:Nat) (v:Value) (hs:v.cells.size=ti.size)
  (hn:o+ti.size<=arr.size) (hc:∀ x∈v.cells.toList,cellable x=true):
  ∃ arr':Array Value,(storeVar t ⟨b,o,none⟩ v).run P w= .ok () { w with heap:=w.heap.setIfInBounds b (.cells arr' ty (0,0))}/\
   arr'.toList=spliceV arr.toList o v.cells.toList:=by
 obtain⟨arr',h1,h2⟩:=run_storeCells (P:=P) v.cells.toList w arr o 0 h (by simp[hs];omega) hc
 refine⟨arr',?_,by simpa using h2⟩
 simp only[storeVar,Sem.run_bind,run_sizeOf ht,Result.andThen_ok,hs,ne_eq,not_true_eq_false,if_false]
 simpa using h1
end runs
end Go.Sym
namespace Go.Sym
set_option linter.unusedVariables false
set_option linter.unusedSimpArgs false
structure St (ρi:Env) (E A:Nat->Prop) (w0:World) (ρ:Env) (F:Fr) (G:Hp) (a:Act) (w:World):Prop where
 heap:HSat ρ G w
 fr:FSat ρ F a.tmps
 scp:Scp G F
 keep:Keep E w0 w
 mutin:MutIn E A ρi w0.heap.size ρ G
 stab:∀ l,100000<=l->G l≠none->ρ l=ρi l
theorem cvC_den {ρ:Env} (v:Value):Den ρ (cvC v) v:=by
 unfold cvC
 split <;>simp[Den]
theorem cvC_labs (v:Value):(cvC v).labs=[]:=by
 unfold cvC
 split <;>simp[SV.labs]
theorem cv_den {ρ:Env} (v:Value):Den ρ (cv v) v:=by
 unfold cv
 split
 ·rename_i cs
  simp only[Den]
  refine⟨cs,rfl,?_⟩
  generalize cs.toList=l
  induction l with
  |nil=>simp[DenL]
  |cons x r ih=>exact DenL_cons.2 ⟨cvC_den x,ih⟩
 ·exact cvC_den v
theorem cv_labs (v:Value):(cv v).labs=[]:=by
 unfold cv
 split
 ·rename_i cs
  simp only[SV.labs]
  generalize cs.toList=l
  induction l with
  |nil=>simp[labsL]
  |cons x r ih=>simp[labsL,cvC_labs,ih]
 ·exact cvC_labs v
theorem oa_den {ρ:Env} {F:Fr} {a:Act} (h:FSat ρ F a.tmps) (x:Operand):Den ρ (oa F x) (a.eval x):=by
 cases x with
 |tmp t=>exact h t
 |const v=>exact cv_den v
 |global g=>simp only[oa,Den]
 |func f=>
  simp only[oa,Den,Act.eval]
  exact⟨#[],rfl,by simp[DenL]⟩
theorem oa_scp {G:Hp} {F:Fr} (h:Scp G F) (x:Operand):∀ l∈(oa F x).labs,G l≠none:=by
 cases x with
 |tmp t=>exact h t
 |const v=>simp[oa,cv_labs]
 |global g=>simp[oa,SV.labs]
 |func f=>simp[oa,SV.labs,labsL]
theorem apS_eq (a b:List SV):apS a b=a++b:=by induction a with|nil=>rfl|cons x r ih=>simp[apS,ih]
theorem scaSV_den {ρ:Env} {arr:Array Value} {g:Nat->D}:∀ {ks:List Kd} {c o:Nat} {cs:List SV},scaSV ks g c=some cs->DenR ρ.z ks g c arr o->DenL ρ cs ((arr.toList.drop o).take ks.length)/\labsL cs=[]
 | [],c,o,cs,h,_=>by
  simp only[scaSV,Option.some.injEq]at h
  subst h
  simp[DenL,labsL]
 |k::ks,c,o,cs,h,hd=>by
  simp only[DenR]at hd
  obtain⟨⟨u,h1,h2⟩,h3⟩:=hd
  obtain⟨ho,rfl⟩:=Array.getElem?_eq_some_iff.1 h1
  have e:arr.toList.drop o=arr[o]::arr.toList.drop (o+1):=by
   rw[<- Array.getElem_toList ho,List.drop_eq_getElem_cons (by simpa using ho)]
  rw[e]
  simp only[List.length_cons,List.take_succ_cons]
  cases k <;>simp only[scaSV,reduceCtorEq]at h
  all_goals
   split at h
   ·rename_i r hr
    cases h
    obtain⟨g1,g2⟩:=scaSV_den hr h3
    refine⟨DenL_cons.2 ⟨?_,g1⟩,by simp[labsL,SV.labs,g2]⟩
    simpa only[Den,DenD]using h2
   ·cases h
theorem take_add_drop {α:Type} (l:List α) (o a b:Nat):(l.drop o).take (a+b)=(l.drop o).take a++(l.drop (o+a)).take b:=by
 rw[List.take_add,List.drop_drop]
theorem arrCells_den {ρ:Env} {arr:Array Value} {ks:List Kd} {f:Nat->Nat->D}:∀ {n r:Nat} {cs:List SV},arrCells ks f n r=some cs->(∀ q,r<=q->q<r+n->DenR ρ.z ks (f q) 0 arr (q*ks.length))->
  DenL ρ cs ((arr.toList.drop (r*ks.length)).take (n*ks.length))/\labsL cs=[]
 |0,r,cs,h,_=>by
  simp only[arrCells,Option.some.injEq]at h
  subst h
  simp[DenL,labsL]
 |n+1,r,cs,h,hd=>by
  simp only[arrCells]at h
  split at h
  ·rename_i x y h1 h2
   cases h
   obtain⟨a1,a2⟩:=scaSV_den h1 (hd r (Nat.le_refl _) (by omega))
   obtain⟨b1,b2⟩:=arrCells_den h2 (fun q hq hq2=>hd q (by omega) (by omega))
   rw[apS_eq]
   refine⟨?_,by simp[labsL_append,a2,b2]⟩
   rw[show(n+1)*ks.length=ks.length+n*ks.length by rw[Nat.add_mul,Nat.one_mul,Nat.add_comm],take_add_drop]
   rw[show(r+1)*ks.length=r*ks.length+ks.length by rw[Nat.add_mul,Nat.one_mul]]at b1
   exact DenL_append a1 b1
  ·cases h
theorem cells_den {ρ:Env} {x:SV} {cs:List SV} {v:Value} (h:x.cells=some cs) (hd:Den ρ x v):DenL ρ cs v.cells.toList:=by
 cases x <;>simp only[SV.cells,Option.some.injEq,reduceCtorEq]at h
 case agg cs'=>
  subst h
  simp only[Den]at hd
  obtain⟨vs,rfl,hd⟩:=hd
  exact hd
 case arr ks n f=>
  simp only[Den]at hd
  obtain⟨vs,rfl,hs,hc⟩:=hd
  have:=(arrCells_den (ρ:=ρ) h (fun q _ hq=>hc q (by omega))).1
  rw[Nat.zero_mul,List.drop_zero,<- hs,List.take_of_length_le (by simp)]at this
  exact this
 case sl l a b=>
  subst h
  have hd':=hd
  simp only[Den]at hd'
  rcases hd' with⟨_,e,_⟩|⟨_,_,_,e,_⟩ <;>(rw[e]at hd ⊢;exact DenL_cons.2 ⟨hd,by simp[DenL]⟩)
 case q l n=>
  subst h
  have hd':=hd
  simp only[Den]at hd'
  rcases hd' with⟨_,e⟩|⟨_,_,_,e⟩ <;>(rw[e]at hd ⊢;exact DenL_cons.2 ⟨hd,by simp[DenL]⟩)
 all_goals
  subst h
  have hd':=hd
  simp only[Den]at hd'
  first
   |(rw[hd']at hd ⊢;exact DenL_cons.2 ⟨hd,by simp[DenL]⟩)
   |(obtain⟨_,e⟩:=hd';rw[e.2]at hd ⊢;exact DenL_cons.2 ⟨hd,by simp[DenL]⟩)
   |(obtain⟨_,e,_⟩:=hd';rw[e]at hd ⊢;exact DenL_cons.2 ⟨hd,by simp[DenL]⟩)
theorem scaSV_labs {g:Nat->D}:∀ {ks:List Kd} {c:Nat} {cs:List SV},scaSV ks g c=some cs->labsL cs=[]
 | [],c,cs,h=>by simp only[scaSV,Option.some.injEq]at h;subst h;simp[labsL]
 |k::ks,c,cs,h=>by
  cases k <;>simp only[scaSV,reduceCtorEq]at h
  all_goals
   split at h
   ·rename_i r hr
    cases h
    simp[labsL,SV.labs,scaSV_labs hr]
   ·cases h
theorem arrCells_labs {ks:List Kd} {f:Nat->Nat->D}:∀ {n r:Nat} {cs:List SV},arrCells ks f n r=some cs->labsL cs=[]
 |0,r,cs,h=>by simp only[arrCells,Option.some.injEq]at h;subst h;simp[labsL]
 |n+1,r,cs,h=>by
  simp only[arrCells]at h
  split at h
  ·rename_i x y h1 h2
   cases h
   rw[apS_eq,labsL_append,scaSV_labs h1,arrCells_labs h2];rfl
  ·cases h
theorem cells_labs {x:SV} {cs:List SV} (h:x.cells=some cs):labsL cs=x.labs:=by
 cases x <;>simp only[SV.cells,Option.some.injEq,reduceCtorEq]at h
 case arr ks n f=>simp[SV.labs,arrCells_labs h]
 all_goals subst h
 all_goals simp[SV.labs,labsL]
theorem cells_size {ρ:Env} {x:SV} {cs:List SV} {v:Value} (h:x.cells=some cs) (hd:Den ρ x v):v.cells.size=cs.length:=by
 have:=(cells_den h hd).length
 simpa using this
theorem isC_cellable {ρ:Env} {x:SV} {v:Value} (h:x.isC=true) (hd:Den ρ x v):cellable v=true:=by
 cases x <;>simp only[SV.isC,Bool.false_eq_true]at h
 case sl l a b=>
  simp only[Den]at hd
  rcases hd with⟨_,e,_⟩|⟨_,_,_,e,_⟩ <;>(rw[e];rfl)
 case q l n=>
  simp only[Den]at hd
  rcases hd with⟨_,e⟩|⟨_,_,_,e⟩ <;>(rw[e];rfl)
 all_goals
  simp only[Den]at hd
  first
   |(rw[hd];rfl)
   |(obtain⟨_,e⟩:=hd;rw[e.2];rfl)
   |(obtain⟨_,e,_⟩:=hd;rw[e];rfl)
theorem allC_cellable {ρ:Env}:∀ {xs:List SV} {vs:List Value},allC xs=true->DenL ρ xs vs->∀ v∈vs,cellable v=true
 | [],vs,_,hd=>by rw[DenL_nil]at hd;simp[hd]
 |x::xs,[],_,hd=>by simp[DenL]at hd
 |x::xs,v::vs,h,hd=>by
  rw[DenL_cons]at hd
  unfold allC at h
  split at h
  ·rename_i hx
   intro u hu
   rcases List.mem_cons.1 hu with rfl|hu
   ·exact isC_cellable hx hd.1
   ·exact allC_cellable h hd.2 u hu
  ·cases h
theorem DenD_cellable {z:Nat->Option Obj} {k:Kd} {d:D} {v:Value} (h:DenD z k d v):cellable v=true:=by
 cases k <;>simp only[DenD]at h
 ·rw[h];rfl
 ·rw[h];rfl
 ·rw[h];rfl
 ·rcases h with⟨_,e|⟨_,_,e,_⟩⟩|⟨_,_,_,_,_,_,e,_⟩ <;>(rw[e];rfl)
 ·rcases h with⟨_,e⟩|⟨_,_,_,_,_,e,_⟩ <;>(rw[e];rfl)
def Left (P:Program) (ρi:Env) (E A:Nat->Prop) (w0:World) (ρ:Env) (G:Hp) (a:Act) (w:World) (o:Oper) (v:SV) (wr:List (Nat × Blk)):Prop:=
 ∃ nx w' ρ',(execOp a.eval o).run P w= .ok nx w'/\((∃ u,nx= .value u/\Den ρ' v u)∨(nx= .skip/\v= .u))/\HSat ρ' (upds G wr) w'/\Keep E w0 w'/\
  MutIn E A ρi w0.heap.size ρ' (upds G wr)/\(∀ l,G l≠none->ρ' l=ρ l)/\ZLe ρ ρ'/\(∀ l∈v.labs,upds G wr l≠none)
section
variable {ρi:Env} {P:Program} {E A:Nat->Prop} {w0:World} {ρ:Env} {F:Fr} {G:Hp} {a:Act} {w:World} {o:Oper}
theorem Left.pure (S:St ρi E A w0 ρ F G a w) {v:SV} {u:Value} (hr:(execOp a.eval o).run P w= .ok (.value u) w) (hd:Den ρ v u) (hl:∀ l∈v.labs,G l≠none):
  Left P ρi E A w0 ρ G a w o v []:=
 ⟨_,w,ρ,hr,.inl ⟨u,rfl,hd⟩,S.heap,S.keep,S.mutin,fun _ _=>rfl,ZLe.refl ρ,hl⟩
theorem TI.mk'_den {ti:TI} {cs:List SV} {v:SV} (h:ti.mk' cs=some v):(ti.isAgg=true/\v= .agg cs)∨(ti.isAgg=false/\cs=[v]):=by
 unfold TI.mk' at h
 split at h
 ·rename_i ha
  cases h;exact .inl ⟨ha,rfl⟩
 ·rename_i ha
  split at h
  ·cases h;exact .inr ⟨ha,rfl⟩
  ·cases h
end
end Go.Sym
namespace Go.Sym
set_option linter.unusedVariables false
set_option linter.unusedSimpArgs false
theorem BlkOk.monoC {ρ ρ':Env} {w w':World} {l:Nat} {b:Blk} (h:BlkOk ρ w l b) (hl:ρ' l=ρ l) (hlabs:∀ x∈b.labs,ρ' x=ρ x) (hz:ZC ρ.z ρ'.z)
  (hw:∀ pl,ρ l=some pl->w'.heap[pl.b]? =w.heap[pl.b]?):BlkOk ρ' w' l b:=by
 cases b with
 |dead=>trivial
 |one m cs=>
  obtain⟨pl,arr,T,fz,e1,e2,e3,e3',e4,e5⟩:=h
  exact⟨pl,arr,T,fz,hl.trans e1,(hw _ e1).trans e2,e3,fun hm=>hz _ _ _ _ (e3' hm),e4,DenL.congrC hz cs _ (fun x hx=>(hlabs x (by simpa[Blk.labs]using hx)).symm) e5⟩
 |rows m ks n f=>
  rcases h with⟨h1,h2⟩|⟨pl,h1,h2⟩|⟨pl,arr,T,fz,e1,e2,e3,e3',e4,e5,e6,e7⟩
  ·exact .inl ⟨hl.trans h1,h2⟩
  ·exact .inr (.inl ⟨pl,hl.trans h1,h2⟩)
  ·exact .inr (.inr ⟨pl,arr,T,fz,hl.trans e1,(hw _ e1).trans e2,e3,fun hm=>hz _ _ _ _ (e3' hm),e4,e5,e6,fun r hr=>DenR.monoC hz (e7 r hr)⟩)
 |map m kk ks a keys f=>
  obtain⟨pl,es,clk,e1,e2,h1,h2,h3,h4⟩:=h
  exact⟨pl,es,clk,hl.trans e1,(hw _ e1).trans e2,h1,h2,fun e he k hk=>⟨(h3 e he k hk).1,(h3 e he k hk).2.1,DenR.monoC hz (h3 e he k hk).2.2⟩,h4⟩
theorem BlkOk.mono {ρ ρ':Env} {w w':World} {l:Nat} {b:Blk} (h:BlkOk ρ w l b) (hl:ρ' l=ρ l) (hlabs:∀ x∈b.labs,ρ' x=ρ x) (hz:ZLe ρ ρ')
  (hw:∀ pl,ρ l=some pl->w'.heap[pl.b]? =w.heap[pl.b]?):BlkOk ρ' w' l b:=h.monoC hl hlabs (.of hz) hw
theorem heap_lt {w:World} {b:Nat} {x:Obj} (hx:w.heap[b]? =some x):b<w.heap.size:=by
 rcases Nat.lt_or_ge b w.heap.size with h'|h'
 ·exact h'
 ·rw[Array.getElem?_eq_none h']at hx;cases hx
theorem Blk.mut_real {b:Blk} (h:b.mut=true):b.real:=by
 cases b <;>simp only[Blk.mut,Blk.real,Bool.false_eq_true]at h ⊢
 exact .inl h
theorem BlkOk.lt {ρ:Env} {w:World} {l:Nat} {b:Blk} {pl:Place} (h:BlkOk ρ w l b) (hb:b.real) (hp:ρ l=some pl):pl.b<w.heap.size:=by
 cases b with
 |dead=>exact hb.elim
 |one m cs=>
  obtain⟨pl',arr,T,fz,e1,e2,_⟩:=h
  rw[hp]at e1;cases e1
  exact heap_lt e2
 |rows m ks n f=>
  rcases h with⟨h1,h2⟩|⟨pl',h1,h2,h3,_⟩|⟨pl',arr,T,fz,e1,e2,e3⟩
  ·rw[hp]at h1;cases h1
  ·simp only[Blk.real]at hb;rw[h3]at hb;rcases hb with hb|hb
   ·cases hb
   ·exact absurd h2 hb
  ·rw[hp]at e1;cases e1
   exact heap_lt e2
 |map m kk ks a keys f=>
  obtain⟨pl',es,clk,e1,e2,_⟩:=h
  rw[hp]at e1;cases e1
  exact heap_lt e2
theorem BlkOk.unreal {ρ ρ':Env} {w w':World} {l:Nat} {b:Blk} (h:BlkOk ρ w l b) (hb:¬ b.real) (hl:ρ' l=ρ l):BlkOk ρ' w' l b:=by
 cases b with
 |dead=>trivial
 |one m cs=>exact absurd trivial hb
 |rows m ks n f=>
  simp only[Blk.real,not_or]at hb
  have hn:n=0:=Classical.not_not.1 hb.2
  have hm:m.isOwn=false:=by simpa using hb.1
  rcases h with⟨h1,h2⟩|⟨pl,h1,h2⟩|⟨pl,arr,T,fz,e1,e2,e3,e3',e4,e5,e6,e7⟩
  ·exact .inl ⟨hl.trans h1,h2⟩
  ·exact .inr (.inl ⟨pl,hl.trans h1,h2⟩)
  ·exact .inr (.inl ⟨pl,hl.trans e1,hn,hm,e4⟩)
 |map m kk ks a keys f=>exact absurd trivial hb
def updE (ρ:Env) (d:Nat) (p:Option Place):Env:=⟨fun l=>match Nat.beq d l with|true=>p|false=>ρ l,ρ.z⟩
theorem updE_same (ρ:Env) (d:Nat) (p:Option Place):updE ρ d p d=p:=by simp[updE]
theorem updE_other (ρ:Env) {d l:Nat} (p:Option Place) (h:d≠l):updE ρ d p l=ρ l:=by
 simp only[updE]
 cases hb:Nat.beq d l with
 |true=>exact absurd (Nat.eq_of_beq_eq_true hb) h
 |false=>rfl
theorem updE_z (ρ:Env) (d:Nat) (p:Option Place):ZLe ρ (updE ρ d p):=fun _ _ h=>h
theorem upds_one_same (G:Hp) (d:Nat) (b:Blk):upds G [(d,b)] d=some b:=by simp[upds]
theorem upds_one_other (G:Hp) {d l:Nat} (b:Blk) (h:d≠l):upds G [(d,b)] l=G l:=by
 unfold upds
 cases hb:Nat.beq d l with
 |true=>exact absurd (Nat.eq_of_beq_eq_true hb) h
 |false=>rfl
theorem beq_ne {a b:Nat} (h:a≠b):Nat.beq a b=false:=by
 cases hb:Nat.beq a b with
 |true=>exact absurd (Nat.eq_of_beq_eq_true hb) h
 |false=>rfl
theorem upds_two (G:Hp) (d l:Nat) (b c:Blk):upds G [(d,b),(l,c)]=upds (upds G [(l,c)]) [(d,b)]:=by
 funext x
 simp only[upds]
section
variable {ρi:Env} {P:Program} {E A:Nat->Prop} {w0:World} {ρ:Env} {F:Fr} {G:Hp} {a:Act} {w:World} {o:Oper}
theorem HSat.add (H:HSat ρ G w) {d:Nat} (hd:G d=none) {b:Blk} (hb:∀ l∈b.labs,G l≠none) {w':World} {p:Option Place}
  (hsame:∀ l b pl,G l=some b->b.real->ρ l=some pl->w'.heap[pl.b]? =w.heap[pl.b]?)
  (hzs:∀ b o,ρ.z b=some o->w'.heap[b]? =some o)
  (happ:∀ l b' pl q,G l=some b'->b'.real->ρ l=some pl->p=some q->b.mut=true∨(b'.mut=true/\b.real)->pl.b≠q.b)
  (hzap:∀ q,p=some q->b.mut=true->ρ.z q.b=none)
  (hok:BlkOk (updE ρ d p) w' d b):HSat (updE ρ d p) (upds G [(d,b)]) w':=by
 have hne:∀ {l:Nat},G l≠none->d≠l:=fun h e=>h (e▸hd)
 refine⟨fun l c hc=>?_,?_,?_,?_,hzs,?_⟩
 ·by_cases e:d=l
  ·subst e
   rw[upds_one_same]at hc;cases hc
   exact hok
  ·rw[upds_one_other _ _ e]at hc
   have hB:=H.blk l c hc
   by_cases hlive:c.real
   ·exact hB.mono (updE_other _ _ e) (fun x hx=>updE_other _ _ (hne (H.scp l c hc x hx))) (updE_z _ _ _) (fun pl hpl=>hsame l c pl hc hlive hpl)
   ·exact hB.unreal hlive (updE_other _ _ e)
 ·intro l1 l2 b1 b2 p1 p2 hn h1 h2 hm hv e1 e2
  by_cases d1:d=l1
  ·subst d1
   rw[upds_one_other _ _ hn]at h2
   rw[upds_one_same]at h1;cases h1
   rw[updE_same]at e1
   rw[updE_other _ _ hn]at e2
   exact(happ l2 b2 p2 p1 h2 hv e2 e1 (.inl hm)).symm
  ·rw[upds_one_other _ _ d1]at h1
   rw[updE_other _ _ d1]at e1
   by_cases d2:d=l2
   ·subst d2
    rw[updE_same]at e2
    rw[upds_one_same]at h2;cases h2
    exact happ l1 b1 p1 p2 h1 (Blk.mut_real hm) e1 e2 (.inr ⟨hm,hv⟩)
   ·rw[upds_one_other _ _ d2]at h2
    rw[updE_other _ _ d2]at e2
    exact H.inj l1 l2 b1 b2 p1 p2 hn h1 h2 hm hv e1 e2
 ·intro l c hc x hx
  by_cases e:d=x
  ·subst e;rw[upds_one_same];simp
  ·rw[upds_one_other _ _ e]
   by_cases e':d=l
   ·subst e'
    rw[upds_one_same]at hc;cases hc
    exact hb x hx
   ·rw[upds_one_other _ _ e']at hc
    exact H.scp l c hc x hx
 ·intro l hl
  by_cases e:d=l
  ·subst e;rw[upds_one_same]at hl;cases hl
  ·rw[upds_one_other _ _ e]at hl
   rw[updE_other _ _ e]
   exact H.tight l hl
 ·intro l c q hc hm hq
  by_cases e:d=l
  ·subst e
   rw[upds_one_same]at hc;cases hc
   rw[updE_same]at hq
   exact hzap q hq hm
  ·rw[upds_one_other _ _ e]at hc
   rw[updE_other _ _ e]at hq
   exact H.zap l c q hc hm hq
theorem Keep.push (K:Keep E w0 w) {w':World} (obj:Obj) (h:w'.heap=w.heap.push obj) (ho:w'.os=w.os) (ht:w'.tape=w.tape) (hp:w'.output=w.output):Keep E w0 w':=by
 refine⟨ho.trans K.os,ht.trans K.tape,hp.trans K.output,by rw[h];simp;have:=K.size;omega,fun k hk hE=>?_⟩
 rw[h,Array.getElem?_push,if_neg (by have:=K.size;omega)]
 exact K.block k hk hE
theorem Keep.set (K:Keep E w0 w) {b:Nat} (obj:Obj) (hb:E b∨w0.heap.size<=b):Keep E w0 { w with heap:=w.heap.setIfInBounds b obj }:=by
 refine⟨K.os,K.tape,K.output,by simpa using K.size,fun k hk hE=>?_⟩
 have hne:b≠k:=fun e=>by subst e;rcases hb with h|h;exact hE h;omega
 show(w.heap.setIfInBounds b obj)[k]? =_
 rw[Array.getElem?_setIfInBounds,if_neg hne]
 exact K.block k hk hE
theorem MutIn.add {n:Nat} (M:MutIn E A ρi n ρ G) {d:Nat} {b:Blk} {p:Option Place} (hp:∀ q,p=some q->b.mut=true->E q.b∨n<=q.b) (ha:∀ q,p=some q->b.real->A q.b∨n<=q.b):
  MutIn E A ρi n (updE ρ d p) (upds G [(d,b)]):=by
 refine⟨fun l c pl hc hm hpl=>?_,fun l c pl hc hm hpl=>?_,M.zx,M.zi,M.za⟩
 ·by_cases e:d=l
  ·subst e
   rw[upds_one_same]at hc;cases hc
   rw[updE_same]at hpl
   exact hp pl hpl hm
  ·rw[upds_one_other _ _ e]at hc
   rw[updE_other _ _ e]at hpl
   exact M.m l c pl hc hm hpl
 ·by_cases e:d=l
  ·subst e
   rw[upds_one_same]at hc;cases hc
   rw[updE_same]at hpl
   exact ha pl hpl hm
  ·rw[upds_one_other _ _ e]at hc
   rw[updE_other _ _ e]at hpl
   exact M.a l c pl hc hm hpl
theorem updE_keep {d:Nat} {p:Option Place} (hd:G d=none):∀ l,G l≠none->updE ρ d p l=ρ l:=
 fun l hl=>updE_other _ _ (fun e=>hl (e▸hd))
theorem HSat.zlt (H:HSat ρ G w) {b:Nat} {o:Obj} (h:ρ.z b=some o):b<w.heap.size:=heap_lt (H.zok b o h)
theorem pushed (H:HSat ρ G w) (K:Keep E w0 w) (M:MutIn E A ρi w0.heap.size ρ G) {d:Nat} (hd:G d=none) {b:Blk} (hb:∀ l∈b.labs,G l≠none) {w':World} {obj:Obj}
  (hw:w'.heap=w.heap.push obj) (ho:w'.os=w.os) (ht:w'.tape=w.tape) (hp:w'.output=w.output) {pl:Place} (hpl:pl.b=w.heap.size)
  (hok:BlkOk (updE ρ d (some pl)) w' d b):
  HSat (updE ρ d (some pl)) (upds G [(d,b)]) w'/\Keep E w0 w'/\MutIn E A ρi w0.heap.size (updE ρ d (some pl)) (upds G [(d,b)])/\(∀ l,G l≠none->updE ρ d (some pl) l=ρ l):=by
 refine⟨H.add hd hb (fun l c q hc hv hq=>?_) (fun b o hz=>?_) (fun l c q q' hc hv hq e _=>?_) (fun q e _=>?_) hok,K.push obj hw ho ht hp,M.add (fun q e _=>?_) (fun q e _=>?_),updE_keep hd⟩
 ·have:=(H.blk l c hc).lt hv hq
  rw[hw,Array.getElem?_push,if_neg (by omega)]
 ·have:=H.zlt hz
  rw[hw,Array.getElem?_push,if_neg (by omega)]
  exact H.zok b o hz
 ·cases e
  have:=(H.blk l c hc).lt hv hq
  omega
 ·cases e
  cases hz:ρ.z pl.b with
  |none=>rfl
  |some o=>have:=H.zlt hz;omega
 ·cases e
  right
  rw[hpl]
  exact K.size
 ·cases e
  right
  rw[hpl]
  exact K.size
theorem newAt_spec {d:Option Nat} {b:Blk} {v:Nat->SV} {rd:List Nat} {pre:Option Prop} {r:Res} (h:newAt G d b v rd pre=some r):
  ∃ d',d=some d'/\G d'=none/\r={ v:=v d',wr:=[(d',b)],rd:=d'::rd,pre:=pre }:=by
 unfold newAt at h
 split at h
 ·cases h
 ·rename_i d'
  split at h
  ·cases h
  ·rename_i hG
   cases h
   exact⟨d',rfl,hG,rfl⟩
theorem DenL_all {ρ ρ':Env} {cs:List SV} {vs:List Value} (h:DenL ρ cs vs) (hz:ZLe ρ ρ') (hl:∀ l∈labsL cs,ρ' l=ρ l):DenL ρ' cs vs:=
 DenL.congr hz cs vs (fun l hh=>(hl l hh).symm) h
theorem Left.box (S:St ρi E A w0 ρ F G a w) {d:Nat} (hd:G d=none) {cs:List SV} {vs:Array Value} {T:TypeId} (hcs:DenL ρ cs vs.toList) (hl:∀ l∈labsL cs,G l≠none)
  (hr:(execOp a.eval o).run P w= .ok (.value (.pointer (some ⟨w.heap.size,0,none⟩))) { w with heap:=w.heap.push (.cells vs T)}):
  Left P ρi E A w0 ρ G a w o (.p d 0 0) [(d,.one .own cs)]:=by
 obtain⟨h1,h2,h3,h4⟩:=pushed (w':={ w with heap:=w.heap.push (.cells vs T)}) (pl:=⟨w.heap.size,0,0,0⟩) (b:=.one .own cs) S.heap S.keep S.mutin hd (by simpa[Blk.labs]using hl) rfl rfl rfl rfl rfl (by
  refine⟨⟨w.heap.size,0,0,0⟩,vs,T,(0,0),updE_same _ _ _,by simp,fun _=>rfl,fun h=>(by cases h),?_,?_⟩
  ·have:=hcs.length;show 0+max cs.length 0<=vs.size;simp at this ⊢;omega
  ·have e:=hcs.length
   have:((vs.toList.drop 0).take cs.length)=vs.toList:=by rw[List.drop_zero,<- e,List.take_length]
   rw[this]
   exact DenL_all hcs (updE_z _ _ _) fun l hh=>updE_keep hd l (hl l hh))
 refine⟨_,_,_,hr,.inl ⟨_,rfl,?_⟩,h1,h2,h3,h4,updE_z _ _ _,?_⟩
 ·simp only[Den]
  exact⟨_,updE_same _ _ _,by simp[ptr]⟩
 ·intro l hh
  simp[SV.labs]at hh
  subst hh
  simp[upds_one_same]
theorem Left.boxRows (S:St ρi E A w0 ρ F G a w) {d:Nat} (hd:G d=none) {ks:List Kd} {n:Nat} {f:Nat->Nat->D} {vs:Array Value} {T:TypeId} (hn:1<=n) (hs:vs.size=n*ks.length) (hc:∀ r,r<n->DenR ρ.z ks (f r) 0 vs (r*ks.length))
  (hr:(execOp a.eval o).run P w= .ok (.value (.pointer (some ⟨w.heap.size,0,none⟩))) { w with heap:=w.heap.push (.cells vs T)}):
  Left P ρi E A w0 ρ G a w o (.p d 0 0) [(d,.rows .own ks n f)]:=by
 obtain⟨h1,h2,h3,h4⟩:=pushed (w':={ w with heap:=w.heap.push (.cells vs T)}) (pl:=⟨w.heap.size,0,ks.length,n⟩) (b:=.rows .own ks n f) S.heap S.keep S.mutin hd (by simp[Blk.labs]) rfl rfl rfl rfl rfl (by
  refine .inr (.inr ⟨⟨w.heap.size,0,ks.length,n⟩,vs,T,(0,0),updE_same _ _ _,by simp,fun _=>rfl,fun h=>(by cases h),rfl,Nat.le_refl _,by simp[hs],fun r hr=>?_⟩)
  simpa[updE]using hc r hr)
 refine⟨_,_,_,hr,.inl ⟨_,rfl,?_⟩,h1,h2,h3,h4,updE_z _ _ _,?_⟩
 ·simp only[Den]
  exact⟨_,updE_same _ _ _,by simp[ptr]⟩
 ·intro l hh
  simp[SV.labs]at hh
  subst hh
  simp[upds_one_same]
theorem stored (H:HSat ρ G w) (K:Keep E w0 w) (M:MutIn E A ρi w0.heap.size ρ G) {l:Nat} {b b':Blk} {pl:Place} {obj:Obj} (hG:G l=some b) (hm:b.mut=true) (hm':b'.mut=true)
  (hpl:ρ l=some pl) (hlabs:∀ x∈b'.labs,G x≠none)
  (hok:BlkOk ρ { w with heap:=w.heap.setIfInBounds pl.b obj } l b'):
  HSat ρ (upds G [(l,b')]) { w with heap:=w.heap.setIfInBounds pl.b obj }/\Keep E w0 { w with heap:=w.heap.setIfInBounds pl.b obj }/\
   MutIn E A ρi w0.heap.size ρ (upds G [(l,b')]):=by
 have hzn:=H.zap l b pl hG hm hpl
 refine⟨⟨fun x c hc=>?_,?_,?_,?_,?_,?_⟩,K.set _ (M.m l b pl hG hm hpl),⟨?_,?_,M.zx,M.zi,M.za⟩⟩
 ·by_cases e:l=x
  ·subst e;rw[upds_one_same]at hc;cases hc;exact hok
  ·rw[upds_one_other _ _ e]at hc
   by_cases hv:c.real
   ·refine(H.blk x c hc).mono rfl (fun _ _=>rfl) (ZLe.refl _) fun q hq=>?_
    show(w.heap.setIfInBounds pl.b _)[q.b]? =_
    rw[Array.getElem?_setIfInBounds,if_neg (H.inj l x b c pl q e hG hc hm hv hpl hq)]
   ·exact(H.blk x c hc).unreal hv rfl
 ·intro l1 l2 b1 b2 p1 p2 hn h1 h2 hm1 hv e1 e2
  by_cases d1:l=l1
  ·subst d1
   rw[upds_one_other _ _ hn]at h2
   exact H.inj l l2 b b2 p1 p2 hn hG h2 hm hv e1 e2
  ·rw[upds_one_other _ _ d1]at h1
   by_cases d2:l=l2
   ·subst d2
    exact H.inj l1 l b1 b p1 p2 hn h1 hG hm1 (Blk.mut_real hm) e1 e2
   ·rw[upds_one_other _ _ d2]at h2
    exact H.inj l1 l2 b1 b2 p1 p2 hn h1 h2 hm1 hv e1 e2
 ·intro x c hc y hy
  by_cases e:l=y
  ·subst e;rw[upds_one_same];simp
  ·rw[upds_one_other _ _ e]
   by_cases e':l=x
   ·subst e';rw[upds_one_same]at hc;cases hc;exact hlabs y hy
   ·rw[upds_one_other _ _ e']at hc;exact H.scp x c hc y hy
 ·intro x hx
  by_cases e:l=x
  ·subst e;rw[upds_one_same]at hx;cases hx
  ·rw[upds_one_other _ _ e]at hx;exact H.tight x hx
 ·intro b2 o2 hz
  show(w.heap.setIfInBounds pl.b _)[b2]? =_
  rw[Array.getElem?_setIfInBounds,if_neg (fun e=>by rw[<- e,hzn]at hz;cases hz)]
  exact H.zok b2 o2 hz
 ·intro x c q hc hmx hq
  by_cases e:l=x
  ·subst e;rw[hpl]at hq;cases hq;exact hzn
  ·rw[upds_one_other _ _ e]at hc;exact H.zap x c q hc hmx hq
 ·intro x c q hc hmx hq
  by_cases e:l=x
  ·subst e;exact M.m l b q hG hm hq
  ·rw[upds_one_other _ _ e]at hc;exact M.m x c q hc hmx hq
 ·intro x c q hc hmx hq
  by_cases e:l=x
  ·subst e;exact M.a l b q hG (Blk.mut_real hm) hq
  ·rw[upds_one_other _ _ e]at hc;exact M.a x c q hc hmx hq
theorem frozen (H:HSat ρ G w) (M:MutIn E A ρi w0.heap.size ρ G) {l:Nat} {ks:List Kd} {n:Nat} {f:Nat->Nat->D} (hG:G l=some (.rows .own ks n f)):
  ∃ ρ',HSat ρ' (upds G [(l,.rows .fz ks n f)]) w/\MutIn E A ρi w0.heap.size ρ' (upds G [(l,.rows .fz ks n f)])/\(∀ x,ρ' x=ρ x)/\ZLe ρ ρ':=by
 rcases H.blk l _ hG with⟨h1,h2⟩|⟨pl,h1,h2,h3,_⟩|⟨pl,arr,T,fz,e1,e2,e3,e3',e4,e5,e6,e7⟩
 ·
  refine⟨ρ,⟨fun x c hc=>?_,?_,?_,?_,H.zok,?_⟩,⟨?_,?_,M.zx,M.zi,M.za⟩,fun _=>rfl,ZLe.refl _⟩
  ·by_cases e:l=x
   ·subst e;rw[upds_one_same]at hc;cases hc;exact .inl ⟨h1,h2⟩
   ·rw[upds_one_other _ _ e]at hc;exact H.blk x c hc
  ·intro l1 l2 b1 b2 p1 p2 hn g1 g2 hm hv q1 q2
   by_cases d1:l=l1
   ·subst d1;rw[h1]at q1;cases q1
   ·rw[upds_one_other _ _ d1]at g1
    by_cases d2:l=l2
    ·subst d2;rw[h1]at q2;cases q2
    ·rw[upds_one_other _ _ d2]at g2
     exact H.inj l1 l2 b1 b2 p1 p2 hn g1 g2 hm hv q1 q2
  ·intro x c hc y hy
   by_cases e:l=y
   ·subst e;rw[upds_one_same];simp
   ·rw[upds_one_other _ _ e]
    by_cases e':l=x
    ·subst e';rw[upds_one_same]at hc;cases hc;simp[Blk.labs]at hy
    ·rw[upds_one_other _ _ e']at hc;exact H.scp x c hc y hy
  ·intro x hx
   by_cases e:l=x
   ·subst e;rw[upds_one_same]at hx;cases hx
   ·rw[upds_one_other _ _ e]at hx;exact H.tight x hx
  ·intro x c q hc hmx hq
   by_cases e:l=x
   ·subst e;rw[h1]at hq;cases hq
   ·rw[upds_one_other _ _ e]at hc;exact H.zap x c q hc hmx hq
  ·intro x c q hc hmx hq
   by_cases e:l=x
   ·subst e;rw[h1]at hq;cases hq
   ·rw[upds_one_other _ _ e]at hc;exact M.m x c q hc hmx hq
  ·intro x c q hc hmx hq
   by_cases e:l=x
   ·subst e;rw[h1]at hq;cases hq
   ·rw[upds_one_other _ _ e]at hc;exact M.a x c q hc hmx hq
 ·cases h3
 ·let ρ':Env:=⟨ρ.at_,fun b=>if b=pl.b then some (.cells arr T fz)else ρ.z b⟩
  have hzn:=H.zap l _ pl hG rfl e1
  have hz:ZLe ρ ρ':=by
   intro b o h
   show(if b=pl.b then _ else ρ.z b)=some o
   rw[if_neg (fun e=>by rw[e,hzn]at h;cases h)]
   exact h
  have hz2:∀ b,b≠pl.b->ρ'.z b=ρ.z b:=fun b hb=>if_neg hb
  refine⟨ρ',⟨fun x c hc=>?_,?_,?_,?_,?_,?_⟩,⟨?_,?_,fun b o h=>hz _ _ (M.zx b o h),?_,M.za⟩,fun _=>rfl,hz⟩
  ·by_cases e:l=x
   ·subst e;rw[upds_one_same]at hc;cases hc
    exact .inr (.inr ⟨pl,arr,T,fz,e1,e2,fun h=>(by cases h),fun _=>if_pos rfl,e4,e5,e6,fun r hr=>DenR.mono hz (e7 r hr)⟩)
   ·rw[upds_one_other _ _ e]at hc;exact(H.blk x c hc).mono rfl (fun _ _=>rfl) hz (fun _ _=>rfl)
  ·intro l1 l2 b1 b2 p1 p2 hn g1 g2 hm hv q1 q2
   by_cases d1:l=l1
   ·subst d1;rw[upds_one_same]at g1;cases g1;cases hm
   ·rw[upds_one_other _ _ d1]at g1
    by_cases d2:l=l2
    ·subst d2
     exact H.inj l1 l b1 _ p1 p2 hn g1 hG hm (.inl rfl) q1 q2
    ·rw[upds_one_other _ _ d2]at g2
     exact H.inj l1 l2 b1 b2 p1 p2 hn g1 g2 hm hv q1 q2
  ·intro x c hc y hy
   by_cases e:l=y
   ·subst e;rw[upds_one_same];simp
   ·rw[upds_one_other _ _ e]
    by_cases e':l=x
    ·subst e';rw[upds_one_same]at hc;cases hc;simp[Blk.labs]at hy
    ·rw[upds_one_other _ _ e']at hc;exact H.scp x c hc y hy
  ·intro x hx
   by_cases e:l=x
   ·subst e;rw[upds_one_same]at hx;cases hx
   ·rw[upds_one_other _ _ e]at hx;exact H.tight x hx
  ·intro b o h
   by_cases e:b=pl.b
   ·subst e
    have h':(if pl.b=pl.b then some (Obj.cells arr T fz)else ρ.z pl.b)=some o:=h
    rw[if_pos rfl]at h';cases h'
    exact e2
   ·rw[hz2 b e]at h
    exact H.zok b o h
  ·intro x c q hc hmx hq
   by_cases e:l=x
   ·subst e;rw[upds_one_same]at hc;cases hc;cases hmx
   ·rw[upds_one_other _ _ e]at hc
    have hne:=H.inj x l c _ q pl (Ne.symm e) hc hG hmx (.inl rfl) hq e1
    rw[hz2 _ hne]
    exact H.zap x c q hc hmx hq
  ·intro x c q hc hmx hq
   by_cases e:l=x
   ·subst e;rw[upds_one_same]at hc;cases hc;cases hmx
   ·rw[upds_one_other _ _ e]at hc;exact M.m x c q hc hmx hq
  ·intro x c q hc hmx hq
   by_cases e:l=x
   ·subst e;exact M.a l _ q hG (.inl rfl) hq
   ·rw[upds_one_other _ _ e]at hc;exact M.a x c q hc hmx hq
  ·intro b hb
   by_cases e:b=pl.b
   ·subst e;exact .inr (M.m l _ pl hG rfl e1)
   ·rw[hz2 b e]at hb;exact M.zi b hb
theorem putD_get (g:Nat->D):∀(ds:List D) (c j:Nat),putD g c ds j=if h:c<=j/\j<c+ds.length then ds[j-c]'(by omega)else g j
 | [],c,j=>by
  unfold putD
  rw[dif_neg (by simp)]
 |d::ds,c,j=>by
  unfold putD
  cases hb:Nat.beq j c with
  |true=>
   have:=Nat.eq_of_beq_eq_true hb
   subst this
   rw[dif_pos (by simp)]
   simp
  |false=>
   have hne:j≠c:=fun e=>by subst e;simp at hb
   simp only
   rw[putD_get g ds (c+1) j]
   by_cases h:c+1<=j/\j<c+1+ds.length
   ·rw[dif_pos h,dif_pos (by simp;omega)]
    have:j-c=(j-(c+1))+1:=by omega
    simp[this]
   ·rw[dif_neg h,dif_neg (by simp;omega)]
theorem spliceV_get (xs:List Value) (n:Nat) (ys:List Value) (hn:n+ys.length<=xs.length) (i:Nat):
  (spliceV xs n ys)[i]? =if h:n<=i/\i<n+ys.length then some (ys[i-n]'(by omega))else xs[i]? :=by
 unfold spliceV
 by_cases h1:i<n
 ·rw[dif_neg (by omega),List.append_assoc,List.getElem?_append_left (by simp;omega),List.getElem?_take,if_pos h1]
 ·by_cases h2:i<n+ys.length
  ·rw[dif_pos ⟨by omega,h2⟩,List.append_assoc,List.getElem?_append_right (by simp;omega),List.getElem?_append_left (by simp;omega)]
   simp only[List.length_take,Nat.min_eq_left (show n<=xs.length by omega)]
   exact List.getElem?_eq_getElem _
  ·rw[dif_neg (by omega),List.getElem?_append_right (by simp;omega)]
   simp only[List.length_append,List.length_take,Nat.min_eq_left (show n<=xs.length by omega),List.getElem?_drop]
   congr 1
   omega
end
end Go.Sym
namespace Go.Sym
set_option linter.unusedVariables false
set_option linter.unusedSimpArgs false
section
variable {ρi:Env} {P:Program} {E A:Nat->Prop} {w0:World} {ρ:Env} {F:Fr} {G:Hp} {a:Act} {w:World} {o:Oper}
theorem row_bound {r n c k:Nat} (h:r<n) (hc:c<k):r*k+c<n*k:=by
 have:(r+1)*k<=n*k:=Nat.mul_le_mul_right _ h
 rw[Nat.add_mul,Nat.one_mul]at this
 omega
theorem toD_den (H:HSat ρ G w) {k:Kd} {c:SV} {d:D} {p:Prop} {v:Value} (h:toD G k c=some (d,p)) (hp:p) (hd:Den ρ c v):DenD ρ.z k d v:=by
 unfold toD at h
 split at h
 ·split at h
  ·rename_i hk
   cases h
   simp only[Den]at hd
   simp only[DenD]
   rw[hd,<- IntKind.same_iff.1 hk];rfl
  ·cases h
 ·cases h;simp only[Den]at hd;simp only[DenD];rw[hd];rfl
 ·cases h;simp only[Den]at hd;simp only[DenD];rw[hd];rfl
 ·cases h;simp only[Den]at hd;simp only[DenD];rw[hd];rfl
 ·cases h;simp only[Den]at hd;simp only[DenD,D.toN];exact .inl ⟨trivial,.inl hd⟩
 ·rename_i ks l lo len
  split at h
  ·rename_i ks' n f hG
   split at h
   ·rename_i hk
    have:=kdsSame_iff.1 hk
    subst this
    cases h
    simp only[Den]at hd
    simp only[DenD,D.toN,D.toF]
    rcases hd with⟨_,rfl,h1,_⟩|⟨pl,a,hpl,rfl,h1,h2⟩
    ·exact .inl ⟨h1,.inl rfl⟩
    ·by_cases hl:len=0
     ·subst hl
      refine .inl ⟨rfl,.inr ⟨a,_,rfl,fun hc=>?_⟩⟩
      rw[h2 (by omega)];rfl
     ·rcases H.blk _ _ hG with⟨e1,_⟩|⟨pl',e1,e2,_⟩|⟨pl',arr,T,fz,e1,e2,_,e3,e4,e5,e6,e7⟩
      ·rw[hpl]at e1;cases e1
      ·omega
      ·rw[hpl]at e1;cases e1
       refine .inr ⟨pl.b,pl.off+lo*pl.k,pl.cap-lo,arr,T,fz,?_,by omega,e3 rfl,?_,fun r hr=>?_⟩
       ·rw[h2 (by omega)];rfl
       ·rw[<- e4,Nat.add_assoc,<- Nat.add_mul,Nat.add_sub_cancel' (by omega)];exact e6
       ·have:=e7 (lo+r) (by omega)
        rw[<- e4]
        rwa [Nat.add_mul,<- Nat.add_assoc]at this
   ·cases h
  ·rename_i hG
   cases h
   simp only[Den]at hd
   simp only[DenD,D.toN]
   rcases hd with⟨_,rfl,h1,_⟩|⟨pl,a,hpl,rfl,h1,h2⟩
   ·exact .inl ⟨trivial,.inl rfl⟩
   ·rw[H.tight _ hG]at hpl;cases hpl
  ·cases h
 ·cases h;simp only[Den]at hd;simp only[DenD,D.toN];exact .inl ⟨trivial,hd⟩
 ·rename_i n ks l m
  split at h
  ·rename_i ks' m' f hG
   split at h
   ·rename_i hk
    have:=kdsSame_iff.1 hk
    subst this
    cases h
    simp only[Den]at hd
    simp only[DenD,D.toN,D.toF]
    rcases hd with⟨h1,rfl⟩|⟨pl,h1,hpl,rfl⟩
    ·exact .inl ⟨h1,rfl⟩
    ·obtain⟨rfl,rfl⟩:=hp.resolve_left h1
     rcases H.blk _ _ hG with⟨e1,_⟩|⟨pl',e1,e2,_⟩|⟨pl',arr,T,fz,e1,e2,_,e3,e4,e5,e6,e7⟩
     ·rw[hpl]at e1;cases e1
     ·omega
     ·rw[hpl]at e1;cases e1
      refine .inr ⟨pl.b,pl.off,arr,T,fz,by simp[ptr],rfl,h1,e3 rfl,?_,fun r hr=>?_⟩
      ·rw[<- e4];have:=Nat.mul_le_mul_right pl.k e5;omega
      ·rw[<- e4];exact e7 r hr
   ·cases h
  ·cases h
 ·rename_i n ks l r c
  split at h
  ·rename_i ks' m f hG
   split at h
   ·rename_i hk hc
    have:=kdsSame_iff.1 hk
    subst this
    have hc:=Nat.eq_of_beq_eq_true hc
    subst hc
    cases h
    obtain⟨rfl,rfl,h1⟩:=hp
    simp only[Den]at hd
    simp only[DenD,D.toN,D.toF]
    obtain⟨pl,hpl,rfl⟩:=hd
    rcases H.blk _ _ hG with⟨e1,_⟩|⟨pl',e1,e2,_⟩|⟨pl',arr,T,fz,e1,e2,_,e3,e4,e5,e6,e7⟩
    ·rw[hpl]at e1;cases e1
    ·omega
    ·rw[hpl]at e1;cases e1
     refine .inr ⟨pl.b,pl.off,arr,T,fz,by simp[ptr],trivial,h1,e3 rfl,?_,fun r hr=>?_⟩
     ·rw[<- e4];have:=Nat.mul_le_mul_right pl.k e5;omega
     ·rw[<- e4];exact e7 r hr
   ·cases h
  ·cases h
 ·cases h
theorem toDs_den (H:HSat ρ G w):∀ {ks:List Kd} {cs:List SV} {ds:List D} {ps:List Prop} {vs:List Value},toDs G ks cs=some (ds,ps)->allP ps->DenL ρ cs vs->ds.length=ks.length/\vs.length=ks.length/\
  ∀ j (hj:j<ks.length) d,ds[j]? =some d->∃ v,vs[j]? =some v/\DenD ρ.z (ks[j]'hj) d v
 | [],[],ds,ps,vs,h,_,hd=>by
  simp only[toDs,Option.some.injEq,Prod.mk.injEq]at h
  obtain⟨rfl,rfl⟩:=h
  rw[DenL_nil]at hd
  subst hd
  exact⟨rfl,rfl,fun j hj=>by simp at hj⟩
 | [],_::_,ds,ps,vs,h,_,_=>by simp[toDs]at h
 |_::_,[],ds,ps,vs,h,_,_=>by simp[toDs]at h
 |k::ks,c::cs,ds,ps,[],h,_,hd=>by simp[DenL]at hd
 |k::ks,c::cs,ds,ps,v::vs,h,hp,hd=>by
  unfold toDs at h
  rw[DenL_cons]at hd
  split at h
  ·rename_i d p ds' ps' h1 h2
   cases h
   obtain⟨a1,a2,a3⟩:=toDs_den H h2 hp.2 hd.2
   refine⟨by simp[a1],by simp[a2],fun j hj d' hd'=>?_⟩
   cases j with
   |zero=>
    simp at hd'
    subst hd'
    exact⟨v,rfl,toD_den H h1 hp.1 hd.1⟩
   |succ j=>simpa using a3 j (by simpa using hj) d' (by simpa using hd')
  ·cases h
theorem memB_iff (l:List Nat) (x:Nat):memB l x=true↔x∈l:=by
 induction l with
 |nil=>simp[memB]
 |cons y r ih=>
  unfold memB
  cases h:Nat.beq y x with
  |true=>have:=Nat.eq_of_beq_eq_true h;simp[this]
  |false=>
   have:y≠x:=fun e=>by subst e;simp at h
   simp[ih,Ne.symm this]
theorem newOk_spec {wr:List (Nat × Blk)} (h:newOk G wr=true):∀ l∈keysB wr,G l=none/\l<100000:=by
 induction wr with
 |nil=>intro l hl;simp[keysB]at hl
 |cons x r ih=>
  obtain⟨k,b⟩:=x
  unfold newOk at h
  split at h
  ·rename_i h1 h2 h3
   intro l hl
   simp only[keysB,List.mem_cons]at hl
   rcases hl with rfl|hl
   ·exact⟨h1,Nat.le_of_ble_eq_true (show Nat.ble (l+1) 100000=true from h2)⟩
   ·exact ih h3 l hl
  ·cases h
theorem keysB_eq (wr:List (Nat × Blk)):keysB wr=keys wr:=by induction wr with|nil=>rfl|cons x r ih=>simp[keysB,keys,ih]
theorem diffB_cons {x:Nat} {r:List Nat} (h:diffB (x::r)=true):x∉r/\diffB r=true:=by
 unfold diffB at h
 split at h
 ·cases h
 ·rename_i hm
  refine⟨fun hx=>?_,h⟩
  rw[(memB_iff r x).2 hx]at hm;cases hm
theorem row_den {d:Nat} {arr:Array Value} {g:Nat->D}:∀ {ks:List Kd} {c o j:Nat},HSat ρ G w->MutIn E A ρi w0.heap.size ρ G->DenR ρ.z ks g c arr o->newOk G (rowW d ks g c j)=true->diffB (keysB (rowW d ks g c j))=true->
  ∃ ρ',HSat ρ' (upds G (rowW d ks g c j)) w/\MutIn E A ρi w0.heap.size ρ' (upds G (rowW d ks g c j))/\(∀ l,G l≠none->ρ' l=ρ l)/\ρ'.z=ρ.z/\
   DenL ρ' (rowSV d ks g c j) ((arr.toList.drop o).take ks.length)/\(∀ l∈labsL (rowSV d ks g c j),l∈keysB (rowW d ks g c j))
 | [],c,o,j,H,M,_,_,_=>⟨ρ,H,M,fun _ _=>rfl,rfl,by simp[rowSV,DenL],by simp[rowSV,labsL]⟩
 |k::ks,c,o,j,H,M,hd,hn,hf=>by
  simp only[DenR]at hd
  obtain⟨⟨u,h1,h2⟩,h3⟩:=hd
  obtain⟨ho,rfl⟩:=Array.getElem?_eq_some_iff.1 h1
  have e:arr.toList.drop o=arr[o]::arr.toList.drop (o+1):=by
   rw[<- Array.getElem_toList ho,List.drop_eq_getElem_cons (by simpa using ho)]
  rw[e]
  simp only[List.length_cons,List.take_succ_cons]
  -- what is nested
  have nest:∀(L:Nat) (b:Blk) (sv:SV) (rest:List (Nat × Blk)) (rsv:List SV),b.mut=false->b.labs=[]->
    newOk G ((L,b)::rest)=true->diffB (keysB ((L,b)::rest))=true->
    (∃ ρ1,HSat ρ1 (upds G rest) w/\MutIn E A ρi w0.heap.size ρ1 (upds G rest)/\(∀ l,G l≠none->ρ1 l=ρ l)/\ρ1.z=ρ.z/\DenL ρ1 rsv ((arr.toList.drop (o+1)).take ks.length)/\(∀ l∈labsL rsv,l∈keysB rest))->
    (∃ p:Option Place,(∀ ρ1:Env,ρ1.z=ρ.z->Den (updE ρ1 L p) sv arr[o]/\BlkOk (updE ρ1 L p) w L b)/\∀ q,p=some q->b.real->ρ.z q.b≠none)->(∀ l∈sv.labs,l=L)->
    ∃ ρ',HSat ρ' (upds G ((L,b)::rest)) w/\MutIn E A ρi w0.heap.size ρ' (upds G ((L,b)::rest))/\(∀ l,G l≠none->ρ' l=ρ l)/\ρ'.z=ρ.z/\
     DenL ρ' (sv::rsv) (arr[o]::((arr.toList.drop (o+1)).take ks.length))/\(∀ l∈labsL (sv::rsv),l∈keysB ((L,b)::rest)):=by
   intro L b sv rest rsv hbm hbl hn hf ⟨ρ1,H1,M1,k1,z1,D1,L1⟩ ⟨p,hp,hr⟩ hsv
   have hnL:=(newOk_spec hn L (by simp[keysB])).1
   obtain⟨hLr,hf'⟩:=diffB_cons (show diffB (L::keysB rest)=true from hf)
   have hG1:upds G rest L=none:=by
    rw[upds_eq]
    have:hget rest L=none:=(hget_none_iff rest L).2 (by rw[<- keysB_eq];exact hLr)
    rw[this];exact hnL
   have hups:upds G ((L,b)::rest)=upds (upds G rest) [(L,b)]:=by funext x;simp only[upds]
   obtain⟨hden,hblk⟩:=hp ρ1 z1
   refine⟨updE ρ1 L p,?_,?_,fun l hl=>?_,z1,DenL_cons.2 ⟨hden,?_⟩,?_⟩
   ·rw[hups]
    refine H1.add hG1 (by rw[hbl];simp) (fun _ _ _ _ _ _=>rfl) H1.zok (fun l b' pl q hl hv hpl hq hor=>?_) (fun q _ hm=>by rw[hbm]at hm;cases hm) hblk
    rcases hor with hm|⟨hm,hreal⟩
    ·rw[hbm]at hm;cases hm
    ·have h4:=H1.zap l b' pl hl hm hpl
     have h5:=hr q hq hreal
     intro e
     rw[e,z1]at h4
     exact h5 h4
   ·rw[hups]
    refine M1.add (fun q _ hm=>by rw[hbm]at hm;cases hm) (fun q hq hreal=>?_)
    have h5:=hr q hq hreal
    rw[<- z1]at h5
    rcases M1.zi q.b h5 with h|h|h
    ·exact .inl (M1.za _ (.inl h))
    ·exact .inl (M1.za _ (.inr h))
    ·exact .inr h
   ·have hne:L≠l:=fun e=>hl (e▸hnL)
    rw[updE_other _ _ hne];exact k1 l hl
   ·refine DenL_all D1 (updE_z _ _ _) fun l hl=>updE_other _ _ (fun e=>?_)
    exact hLr (e▸L1 l hl)
   ·intro l hl
    simp only[labsL,List.mem_append]at hl
    simp only[keysB,List.mem_cons]
    rcases hl with hl|hl
    ·exact .inl (hsv l hl)
    ·exact .inr (L1 l hl)
  cases k with
  |int kk=>
   simp only[rowW]at hn hf ⊢
   obtain⟨ρ1,H1,M1,k1,z1,D1,L1⟩:=row_den H M h3 hn hf
   refine⟨ρ1,H1,M1,k1,z1,?_,by simpa[rowSV,labsL,SV.labs]using L1⟩
   simp only[rowSV]
   refine DenL_cons.2 ⟨?_,D1⟩
   simp only[DenD]at h2
   simp only[Den];exact h2
  |bool=>
   simp only[rowW]at hn hf ⊢
   obtain⟨ρ1,H1,M1,k1,z1,D1,L1⟩:=row_den H M h3 hn hf
   refine⟨ρ1,H1,M1,k1,z1,?_,by simpa[rowSV,labsL,SV.labs]using L1⟩
   simp only[rowSV]
   refine DenL_cons.2 ⟨?_,D1⟩
   simp only[DenD]at h2
   simp only[Den];exact h2
  |str=>
   simp only[rowW]at hn hf ⊢
   obtain⟨ρ1,H1,M1,k1,z1,D1,L1⟩:=row_den H M h3 hn hf
   refine⟨ρ1,H1,M1,k1,z1,?_,by simpa[rowSV,labsL,SV.labs]using L1⟩
   simp only[rowSV]
   refine DenL_cons.2 ⟨?_,D1⟩
   simp only[DenD]at h2
   simp only[Den];exact h2
  |sl ks'=>
   simp only[rowW]at hn hf ⊢
   simp only[rowSV]
   have hn':newOk G (rowW d ks g (c+1) (j+1))=true:=by
    unfold newOk at hn
    split at hn
    ·rename_i q;exact q
    ·cases hn
   refine nest _ _ _ _ _ rfl rfl hn hf (row_den H M h3 hn' (diffB_cons hf).2) ?_ (by simp[SV.labs])
   simp only[DenD]at h2
   rcases h2 with⟨h4,h5|⟨ad,cap,h5,h6⟩⟩|⟨b,off,cap,ar,T,fz,h4,h5,h6,h7,h8⟩
   ·refine⟨none,fun ρ1 _=>⟨?_,.inl ⟨updE_same _ _ _,h4⟩⟩,fun q hq=>by cases hq⟩
    simp only[Den];exact .inl ⟨updE_same _ _ _,h5,h4,trivial⟩
   ·refine⟨some ⟨ad.block,ad.off,ks'.length,cap⟩,fun ρ1 _=>⟨?_,.inr (.inl ⟨_,updE_same _ _ _,h4,rfl,rfl⟩)⟩,fun q _ hre=>?_⟩
    ·simp only[Den]
     refine .inr ⟨_,ad,updE_same _ _ _,by rw[h5,h4];rfl,by simp[h4],fun hc=>?_⟩
     have:=h6 (by simpa using hc)
     cases ad;simp only at this;subst this;simp[ptr]
    ·simp only[Blk.real]at hre
     rcases hre with h|h
     ·cases h
     ·exact absurd h4 h
   ·refine⟨some ⟨b,off,ks'.length,cap⟩,fun ρ1 hz1=>⟨?_,.inr (.inr ⟨_,ar,T,fz,updE_same _ _ _,H.zok _ _ h6,(fun h=>by cases h),(fun _=>by show ρ1.z b=_;rw[hz1];exact h6),rfl,h5,h7,fun r hr=>by show DenR ρ1.z _ _ _ _ _;rw[hz1];exact h8 r hr⟩)⟩,fun q hq _=>?_⟩
    ·simp only[Den]
     exact .inr ⟨_,_,updE_same _ _ _,by simpa using h4,by simpa using h5,fun _=>by simp[ptr]⟩
    ·cases hq;simp only;rw[h6];simp
  |pt n ks'=>
   simp only[rowW]at hn hf ⊢
   simp only[rowSV]
   have hn':newOk G (rowW d ks g (c+1) (j+1))=true:=by
    unfold newOk at hn
    split at hn
    ·rename_i q;exact q
    ·cases hn
   refine nest _ _ _ _ _ rfl rfl hn hf (row_den H M h3 hn' (diffB_cons hf).2) ?_ (by simp[SV.labs])
   simp only[DenD]at h2
   rcases h2 with⟨h4,h5⟩|⟨b,off,ar,T,fz,h4,h5,h5',h6,h7,h8⟩
   ·refine⟨none,fun ρ1 _=>⟨?_,.inl ⟨updE_same _ _ _,h4⟩⟩,fun q hq=>by cases hq⟩
    simp only[Den];exact .inl ⟨h4,h5⟩
   ·refine⟨some ⟨b,off,ks'.length,n⟩,fun ρ1 hz1=>⟨?_,.inr (.inr ⟨_,ar,T,fz,updE_same _ _ _,H.zok _ _ h6,(fun h=>by cases h),(fun _=>by show ρ1.z b=_;rw[hz1];exact h6),rfl,by simp[h5],h7,fun r hr=>by show DenR ρ1.z _ _ _ _ _;rw[hz1];exact h8 r (by omega)⟩)⟩,fun q hq _=>?_⟩
    ·simp only[Den]
     exact .inr ⟨_,by omega,updE_same _ _ _,by simp[h4,ptr]⟩
    ·cases hq;simp only;rw[h6];simp
end
end Go.Sym
namespace Go.Sym
set_option linter.unusedVariables false
set_option linter.unusedSimpArgs false
section
variable {ρi:Env} {P:Program} {E A:Nat->Prop} {w0:World} {ρ:Env} {F:Fr} {G:Hp} {a:Act} {w:World} {o:Oper}
theorem DenR_sub {z:Nat->Option Obj} {ks:List Kd} {g:Nat->D} {arr:Array Value} {o c m:Nat} (h:DenR z ks g 0 arr o):DenR z ((ks.drop c).take m) g c arr (o+c):=by
 rw[DenR_iff]at h ⊢
 intro j hj
 have hj':c+j<ks.length:=by simp at hj;omega
 obtain⟨u,h1,h2⟩:=h (c+j) hj'
 refine⟨u,by rw[<- h1];congr 1;omega,?_⟩
 simpa using h2
structure Leaves (ρi:Env) (E A:Nat->Prop) (w0:World) (ρ:Env) (G G':Hp) (w':World) (ρ':Env):Prop where
 heap:HSat ρ' G' w'
 mutin:MutIn E A ρi w0.heap.size ρ' G'
 keep:∀ l,G l≠none->ρ' l=ρ l
 z:ZLe ρ ρ'
theorem evRow_sound {ti:TI} {ks:List Kd} {g:Nat->D} {c o:Nat} {arr:Array Value} {d:Option Nat} {rd:List Nat} {pre:Option Prop} {r:Res} (H:HSat ρ G w) (M:MutIn E A ρi w0.heap.size ρ G)
  (hr:evRow G d ti ks g c rd pre=some r) (hd:DenR ρ.z ks g c arr o):
  ∃ ρ',Leaves ρi E A w0 ρ G (upds G r.wr) w ρ'/\(∀ l∈r.v.labs,upds G r.wr l≠none)/\r.pre=pre/\
   ((ti.isAgg=true/\∃ cs,r.v= .agg cs/\DenL ρ' cs ((arr.toList.drop o).take ks.length))∨(ti.isAgg=false/\∃ y,(arr.toList.drop o).take ks.length=[y]/\Den ρ' r.v y)):=by
 unfold evRow at hr
 split at hr
 ·rename_i d
  split at hr
  ·rename_i v h1 h2 h3
   cases hr
   obtain⟨ρ',a1,a2,a3,a4,a5,a6⟩:=row_den H M hd h2 h3
   refine⟨ρ',⟨a1,a2,a3,fun b o h=>by rw[a4];exact h⟩,?_,rfl,?_⟩
   ·have hl:∀ l∈keysB (rowW d ks g c 0),upds G (rowW d ks g c 0) l≠none:=by
     intro l hl
     rw[upds_eq]
     cases hq:hget (rowW d ks g c 0) l with
     |some b=>simp
     |none=>rw[hget_none_iff,<- keysB_eq]at hq;exact absurd hl hq
    intro l hll
    apply hl
    apply a6
    rcases TI.mk'_den h1 with⟨_,e⟩|⟨_,e⟩
    ·rw[e]at hll;simpa[SV.labs]using hll
    ·rw[e];simpa[labsL]using hll
   ·rcases TI.mk'_den h1 with⟨ha,e⟩|⟨ha,e⟩
    ·exact .inl ⟨ha,_,e,a5⟩
    ·right
     rw[e]at a5
     cases hx:(arr.toList.drop o).take ks.length with
     |nil=>rw[hx]at a5;simp[DenL]at a5
     |cons y ys=>
      rw[hx,DenL_cons,DenL_nil]at a5
      exact⟨ha,y,by rw[a5.2],a5.1⟩
  ·cases hr
 ·cases hr
theorem arr_of_take {arr:Array Value} {o m:Nat} {y:Value} (h:(arr.toList.drop o).take m=[y]):arr[o]? =some y:=by
 have h0:((arr.toList.drop o).take m)[0]? =some y:=by rw[h];rfl
 rw[List.getElem?_take]at h0
 split at h0
 ·simpa using h0
 ·cases h0
theorem evLoad_sound {T:List (Nat × TI)} (hT:TOk P T) {ti:TI} {t:Nat} (ht:TiOk P t ti) {d:Option Nat} (H:HSat ρ G w) (M:MutIn E A ρi w0.heap.size ρ G) {x:SV} {r:Res} (hr:evLoad T G d ti x=some r) (hp:r.Pre) {v:Value} (hd:Den ρ x v):
  ∃ u ρ',(Instr.loadAt t v).run P w= .ok u w/\Den ρ' r.v u/\Leaves ρi E A w0 ρ G (upds G r.wr) w ρ'/\(∀ l∈r.v.labs,upds G r.wr l≠none):=by
 unfold evLoad at hr
 split at hr
 ·rename_i l rr c
  split at hr
  ·rename_i m cs hG
   split at hr
   ·rename_i vv h1 h2 h3
    cases hr
    simp only[Den]at hd
    obtain⟨pl,hpl,rfl⟩:=hd
    obtain⟨pl',arr,TT,fz,e1,e2,_,_,e3,e4⟩:=H.blk _ _ hG
    rw[hpl]at e1;cases e1
    have hr0:=Nat.eq_of_beq_eq_true h1
    subst hr0
    have hle:=Nat.le_of_ble_eq_true h2
    rw[lenL_eq]at hle
    rw[takeL_eq,dropL_eq]at h3
    simp only[ptr,Nat.zero_mul,Nat.add_zero]
    have hD:DenL ρ ((cs.drop c).take ti.size) ((arr.toList.drop (pl.off+c)).take ti.size):=by
     have:=DenL_take ti.size (DenL_drop c e4)
     rw[List.drop_take,List.drop_drop]at this
     rwa [List.take_take,Nat.min_eq_left (by omega)]at this
    have hrun:=run_loadVar (P:=P) ht e2 (pl.off+c) (by omega)
    have hl:∀ l∈labsL ((cs.drop c).take ti.size),G l≠none:=fun l hl=>H.scp _ _ hG l (labsL_drop _ (labsL_take _ hl))
    have hL:Leaves ρi E A w0 ρ G (upds G []) w ρ:=⟨H,M,fun _ _=>rfl,ZLe.refl _⟩
    rcases TI.mk'_den h3 with⟨ha,rfl⟩|⟨ha,hcs⟩
    ·rcases hrun with⟨_,vs,h5,h6⟩|⟨hb,_⟩
     ·refine⟨.agg vs,ρ,by simp[Instr.loadAt,Instr.sureAddr,h5],?_,hL,by simpa[SV.labs,upds]using hl⟩
      simp only[Den]
      exact⟨vs,rfl,by rw[h6];exact hD⟩
     ·rw[ha]at hb;cases hb
    ·rcases hrun with⟨hb,_⟩|⟨_,h5⟩
     ·rw[ha]at hb;cases hb
     ·rw[hcs]at hD
      cases hx:(arr.toList.drop (pl.off+c)).take ti.size with
      |nil=>rw[hx]at hD;simp[DenL]at hD
      |cons y ys=>
       rw[hx,DenL_cons]at hD
       have hys:ys=[]:=DenL_nil.1 hD.2
       subst hys
       refine⟨y,ρ,by simp[Instr.loadAt,Instr.sureAddr,h5 y (arr_of_take hx)],hD.1,hL,?_⟩
       rw[hcs]at hl
       simpa[labsL,upds]using hl
   ·cases hr
  ·rename_i m ks n f hG
   simp only[Den]at hd
   obtain⟨pl,hpl,rfl⟩:=hd
   split at hr
   ·rename_i h2
    have hle:=Nat.le_of_ble_eq_true h2
    rw[lenK_eq]at hle
    rw[takeK_eq,dropK_eq]at hr
    have hpre:r.pre=some (rr<n):=by
     unfold evRow at hr
     split at hr
     ·split at hr
      ·cases hr;rfl
      ·cases hr
     ·cases hr
    have hrn:rr<n:=by simpa[Res.Pre,hpre]using hp
    rcases H.blk _ _ hG with⟨_,rfl⟩|⟨pl',e1,e2,_⟩|⟨pl',arr,TT,fz,e1,e2,_,_,e3,e4,e5,e6⟩
    ·omega
    ·omega
    rw[hpl]at e1;cases e1
    have hin:pl.off+rr*pl.k+c+ti.size<=arr.size:=by
     have:(rr+1)*pl.k<=pl.cap*pl.k:=Nat.mul_le_mul_right _ (by omega)
     rw[Nat.add_mul,Nat.one_mul]at this
     omega
    have hlen:((ks.drop c).take ti.size).length=ti.size:=by simp;omega
    obtain⟨ρ',hL,hl,_,hv⟩:=evRow_sound H M hr (DenR_sub (c:=c) (m:=ti.size) (e6 rr hrn))
    rw[hlen]at hv
    have hrun:=run_loadVar (P:=P) ht e2 (pl.off+rr*pl.k+c) hin
    rcases hv with⟨ha,cs,hcs,hD⟩|⟨ha,y,hy,hD⟩
    ·rcases hrun with⟨_,vs,h5,h6⟩|⟨hb,_⟩
     ·refine⟨.agg vs,ρ',by simp[Instr.loadAt,Instr.sureAddr,ptr,h5],?_,hL,hl⟩
      rw[hcs]
      simp only[Den]
      exact⟨vs,rfl,by rw[h6];exact hD⟩
     ·rw[ha]at hb;cases hb
    ·rcases hrun with⟨hb,_⟩|⟨_,h5⟩
     ·rw[ha]at hb;cases hb
     ·exact⟨y,ρ',by simp[Instr.loadAt,Instr.sureAddr,ptr,h5 y (arr_of_take hy)],hD,hL,hl⟩
   ·rename_i hble
    split at hr
    ·rename_i m' e hti
     split at hr
     ·rename_i te hte
      split at hr
      ·rename_i h1 h2 h3
       cases hr
       obtain⟨rfl,hmn⟩:rr=0/\m'<=n:=hp
       have h1:=Nat.eq_of_beq_eq_true h1
       have h2:=Nat.eq_of_beq_eq_true h2
       have h3:=Nat.eq_of_beq_eq_true h3
       subst h3
       rw[lenK_eq]at h1
       have ha:ti.isAgg=true:=by unfold TI.isAgg;rw[hti]
       have hL:Leaves ρi E A w0 ρ G (upds G []) w ρ:=⟨H,M,fun _ _=>rfl,ZLe.refl _⟩
       have hm0:m'≠0:=by
        intro h0;subst h0
        simp at h2
        rw[h2]at hble
        have:=Nat.ble_eq_true_of_le (show 0+0<=lenK ks by omega)
        rw[this]at hble;cases hble
       rcases H.blk _ _ hG with⟨_,rfl⟩|⟨pl',e1,e2,_⟩|⟨pl',arr,TT,fz,e1,e2,_,_,e3,e4,e5,e6⟩
       ·omega
       ·omega
       rw[hpl]at e1;cases e1
       have hin:pl.off+ti.size<=arr.size:=by
        have:m'*pl.k<=pl.cap*pl.k:=Nat.mul_le_mul_right _ (by omega)
        rw[h2,h1,<- e3];omega
       have hrun:=run_loadVar (P:=P) ht e2 pl.off hin
       rcases hrun with⟨_,vs,h5,h6⟩|⟨hb,_⟩
       ·refine⟨.agg vs,ρ,by simp[Instr.loadAt,Instr.sureAddr,ptr,h5],?_,hL,by simp[SV.labs]⟩
        simp only[Den]
        have hvs:vs.size=m'*ks.length:=by
         have:=congrArg List.length h6
         simp at this
         rw[<- h1,<- h2];omega
        refine⟨vs,rfl,hvs,fun q hq=>?_⟩
        refine DenR_congr (e6 q (by omega)) fun j hj=>?_
        have hb:=row_bound (k:=ks.length) hq hj
        rw[<- Array.getElem?_toList,h6,List.getElem?_take,if_pos (by rw[h2,h1];exact hb),List.getElem?_drop,Array.getElem?_toList,e3]
        congr 1;omega
       ·rw[ha]at hb;cases hb
      ·cases hr
     ·cases hr
    ·cases hr
  ·cases hr
 ·cases hr
theorem evStore_sound {T:List (Nat × TI)} (hT:TOk P T) {ti:TI} {t:Nat} (ht:TiOk P t ti) (H:HSat ρ G w) (K:Keep E w0 w) (M:MutIn E A ρi w0.heap.size ρ G) {x y:SV} {r:Res} (hr:evStore T G ti x y=some r) (hp:r.Pre)
  {v u:Value} (hd:Den ρ x v) (hy:Den ρ y u) (hyl:∀ l∈y.labs,G l≠none):
  ∃ w',(Instr.storeAt t v u).run P w= .ok () w'/\r.v= .u/\HSat ρ (upds G r.wr) w'/\Keep E w0 w'/\MutIn E A ρi w0.heap.size ρ (upds G r.wr):=by
 unfold evStore at hr
 split at hr
 ·rename_i l rr c
  simp only[Den]at hd
  obtain⟨pl,hpl,rfl⟩:=hd
  split at hr
  ·
   rename_i cs hG
   split at hr
   ·rename_i vs hvs
    split at hr
    ·rename_i hsz hall h1 h2
     cases hr
     have hsz':=Nat.eq_of_beq_eq_true hsz
     rw[lenL_eq]at hsz'
     have hcd:=cells_den hvs hy
     have hcs:=cells_size hvs hy
     have hcell:=allC_cellable hall hcd
     obtain⟨pl',arr,TT,fz,e1,e2,e3,_,e4,e5⟩:=H.blk _ _ hG
     rw[hpl]at e1;cases e1
     have hf:=e3 rfl
     subst hf
     have hr0:=Nat.eq_of_beq_eq_true h1
     subst hr0
     have hle:=Nat.le_of_ble_eq_true h2
     rw[lenL_eq]at hle
     obtain⟨arr',g1,g2⟩:=run_storeVar (P:=P) ht e2 (pl.off+c) u (by omega) (by omega) hcell
     have hsize:arr'.size=arr.size:=by
      have:=congrArg List.length g2
      unfold spliceV at this
      simp at this
      omega
     have hb:pl.b<w.heap.size:=heap_lt e2
     have hlb:∀ z∈(Blk.one .own (splice cs c vs)).labs,G z≠none:=by
      intro z hz
      rcases labsL_splice (xs:=cs) (ys:=vs) (n:=c) (l:=z) (by rw[hsz'];exact hle) (by simpa[Blk.labs]using hz)with h|h
      ·exact H.scp _ _ hG z h
      ·rw[cells_labs hvs]at h
       exact hyl z h
     have hbo:BlkOk ρ { w with heap:=w.heap.setIfInBounds pl.b (.cells arr' TT (0,0))} l (.one .own (splice cs c vs)):=by
      have hlen:(splice cs c vs).length=cs.length:=splice_length _ _ _ (by rw[hsz'];exact hle)
      refine⟨pl,arr',TT,(0,0),hpl,getElem_set_self hb _,fun _=>rfl,fun h=>(by cases h),by omega,?_⟩
      rw[hlen,g2]
      have hvl:vs.length=ti.size:=hsz'
      have e6:=DenL_splice (n:=c) e5 hcd (by rw[hvl];exact hle)
      have:((spliceV arr.toList (pl.off+c) u.cells.toList).drop pl.off).take cs.length=spliceV ((arr.toList.drop pl.off).take cs.length) c u.cells.toList:=by
       apply List.ext_getElem?
       intro i
       have hu:u.cells.toList.length=ti.size:=by simp;omega
       rw[List.getElem?_take,List.getElem?_drop,spliceV_get _ _ _ (by simp;omega),spliceV_get _ _ _ (by simp;omega)]
       by_cases hi:i<cs.length
       ·rw[if_pos hi]
        by_cases hin:c<=i/\i<c+u.cells.toList.length
        ·rw[dif_pos hin,dif_pos (by omega)]
         congr 2
         omega
        ·rw[dif_neg hin,dif_neg (by omega),List.getElem?_take,if_pos hi,List.getElem?_drop]
       ·rw[if_neg hi,dif_neg (by omega),List.getElem?_take,if_neg hi]
      rw[this]
      exact e6
     obtain⟨k1,k2,k3⟩:=stored H K M (b':=.one .own (splice cs c vs)) (obj:=.cells arr' TT (0,0)) hG rfl rfl hpl hlb hbo
     refine⟨_,?_,rfl,k1,k2,k3⟩
     simp only[ptr,Nat.zero_mul,Nat.add_zero]
     simp[Instr.storeAt,Instr.sureAddr,g1]
    ·cases hr
   ·cases hr
  ·rename_i ks n f hG
   split at hr
   ·
    rename_i h1
    split at hr
    ·rename_i vs hvs
     split at hr
     ·rename_i ds ps hsz hall h2
      cases hr
      obtain⟨hrn,hps⟩:rr<n/\allP ps:=hp
      have hsz':=Nat.eq_of_beq_eq_true hsz
      rw[lenL_eq]at hsz'
      have hcd:=cells_den hvs hy
      have hcs:=cells_size hvs hy
      have hcell:=allC_cellable hall hcd
      rcases H.blk _ _ hG with⟨_,rfl⟩|⟨pl',e1,e2,e3,_⟩|⟨pl',arr,TT,fz,e1,e2,e3,_,e4,e5,e6,e7⟩
      ·omega
      ·cases e3
      rw[hpl]at e1;cases e1
      have hf:=e3 rfl
      subst hf
      have hle:=Nat.le_of_ble_eq_true h1
      rw[lenK_eq]at hle
      rw[takeK_eq,dropK_eq]at h2
      obtain⟨d1,d2,d3⟩:=toDs_den H h2 hps hcd
      have hkl:((ks.drop c).take ti.size).length=ti.size:=by simp;omega
      rw[hkl]at d1 d2
      have hin:pl.off+rr*pl.k+c+ti.size<=arr.size:=by
       have:(rr+1)*pl.k<=pl.cap*pl.k:=Nat.mul_le_mul_right _ (by omega)
       rw[Nat.add_mul,Nat.one_mul]at this
       omega
      obtain⟨arr',g1,g2⟩:=run_storeVar (P:=P) ht e2 (pl.off+rr*pl.k+c) u (by omega) (by omega) hcell
      have hsize:arr'.size=arr.size:=by
       have:=congrArg List.length g2
       unfold spliceV at this
       simp at this
       omega
      have hb:pl.b<w.heap.size:=heap_lt e2
      have hbo:BlkOk ρ { w with heap:=w.heap.setIfInBounds pl.b (.cells arr' TT (0,0))} l (.rows .own ks n (setRow f rr c ds)):=by
       refine .inr (.inr ⟨pl,arr',TT,(0,0),hpl,getElem_set_self hb _,fun _=>rfl,fun h=>(by cases h),e4,e5,by omega,fun q hq=>?_⟩)
       have hold0:=e7 q hq
       rw[DenR_iff]at hold0 ⊢
       intro j hj
       obtain⟨uo,hold,hden⟩:=hold0 j hj
       rw[<- Array.getElem?_toList]at hold ⊢
       rw[g2,spliceV_get _ _ _ (by simp;omega)]
       unfold setRow
       simp only[Nat.zero_add]at hden ⊢
       by_cases hqr:q=rr
       ·subst hqr
        simp only[if_true]
        rw[putD_get]
        by_cases hj2:c<=j/\j<c+ds.length
        ·rw[dif_pos hj2,dif_pos (by rw[d2];omega)]
         have hj3:j-c<((ks.drop c).take ti.size).length:=by omega
         obtain⟨uu,q1,q2⟩:=d3 (j-c) hj3 (ds[j-c]'(by omega)) (List.getElem?_eq_getElem _)
         have hj4:j-c<u.cells.toList.length:=by omega
         rw[List.getElem?_eq_getElem hj4]at q1
         have hk:((ks.drop c).take ti.size)[j-c]'hj3=ks[j]'hj:=by
          simp only[List.getElem_take,List.getElem_drop]
          congr 1
          omega
         rw[hk]at q2
         refine⟨uu,?_,q2⟩
         rw[<- q1]
         congr 2
         omega
        ·rw[dif_neg hj2,dif_neg (by rw[d2];omega)]
         exact⟨uo,hold,hden⟩
       ·simp only[hqr,if_false]
        have hk:pl.k=ks.length:=e4
        have hne:¬ (pl.off+rr*pl.k+c<=pl.off+q*pl.k+j/\pl.off+q*pl.k+j<pl.off+rr*pl.k+c+u.cells.toList.length):=by
         rw[d2]
         intro⟨h3,h4⟩
         rcases Nat.lt_or_gt_of_ne hqr with h5|h5
         ·have:=row_bound (n:=rr) (k:=pl.k) (c:=j) h5 (by omega)
          omega
         ·have:rr*pl.k+pl.k<=q*pl.k:=by
           have:=Nat.mul_le_mul_right pl.k (show rr+1<=q from h5)
           rwa [Nat.add_mul,Nat.one_mul]at this
          omega
        rw[dif_neg hne]
        exact⟨uo,hold,hden⟩
      obtain⟨k1,k2,k3⟩:=stored H K M (b':=.rows .own ks n (setRow f rr c ds)) (obj:=.cells arr' TT (0,0)) hG rfl rfl hpl (by simp[Blk.labs]) hbo
      refine⟨_,?_,rfl,k1,k2,k3⟩
      simp[Instr.storeAt,Instr.sureAddr,ptr,g1]
     ·cases hr
    ·cases hr
   ·
    rename_i hble
    split at hr
    ·rename_i ks' m g m' e hti
     split at hr
     ·rename_i te hte
      split at hr
      ·rename_i h1 h2 h3 h4
       cases hr
       obtain⟨rfl,rfl⟩:rr=0/\m=n:=hp
       have h1:=kdsSame_iff.1 h1
       subst h1
       have h2:=Nat.eq_of_beq_eq_true h2
       have h3:=Nat.eq_of_beq_eq_true h3
       have h4:=Nat.eq_of_beq_eq_true h4
       subst h4
       rw[lenK_eq]at h2
       simp only[Den]at hy
       obtain⟨us,rfl,hus,huc⟩:=hy
       have hm0:m≠0:=by
        intro h0;subst h0
        simp at h3
        rw[h3]at hble
        have:=Nat.ble_eq_true_of_le (show 0+0<=lenK ks by omega)
        rw[this]at hble;cases hble
       have hcell:∀ x∈us.toList,cellable x=true:=by
        intro z hz
        obtain⟨i,hi,rfl⟩:=List.mem_iff_getElem.1 hz
        have hi':i<m*ks.length:=by simpa[hus]using hi
        have hk0:0<ks.length:=by
         rcases Nat.eq_zero_or_pos ks.length with h|h
         ·rw[h]at hi';omega
         ·exact h
        have h8:=huc (i / ks.length) (by rw[Nat.div_lt_iff_lt_mul hk0];exact hi')
        rw[DenR_iff]at h8
        obtain⟨uu,q1,q2⟩:=h8 (i%ks.length) (Nat.mod_lt _ hk0)
        rw[Nat.mul_comm,Nat.div_add_mod,<- Array.getElem?_toList,List.getElem?_eq_getElem hi]at q1
        cases q1
        exact DenD_cellable q2
       rcases H.blk _ _ hG with⟨_,rfl⟩|⟨pl',e1,e2,e3,_⟩|⟨pl',arr,TT,fz,e1,e2,e3,_,e4,e5,e6,e7⟩
       ·omega
       ·cases e3
       rw[hpl]at e1;cases e1
       have hf:=e3 rfl
       subst hf
       have hin:pl.off+ti.size<=arr.size:=by
        have:m*pl.k<=pl.cap*pl.k:=Nat.mul_le_mul_right _ (by omega)
        rw[h3,h2,<- e4];omega
       obtain⟨arr',g1,g2⟩:=run_storeVar (P:=P) ht e2 pl.off (.agg us) (by simp[Value.cells,hus,h3,h2]) hin hcell
       have hul:us.toList.length=m*ks.length:=by simpa using hus
       have hsize:arr'.size=arr.size:=by
        have:=congrArg List.length g2
        unfold spliceV at this
        simp[Value.cells]at this
        rw[hus]at this
        rw[h3,h2]at hin
        omega
       have hb:pl.b<w.heap.size:=heap_lt e2
       have hbo:BlkOk ρ { w with heap:=w.heap.setIfInBounds pl.b (.cells arr' TT (0,0))} l (.rows .own ks m g):=by
        refine .inr (.inr ⟨pl,arr',TT,(0,0),hpl,getElem_set_self hb _,fun _=>rfl,fun h=>(by cases h),e4,e5,by omega,fun q hq=>?_⟩)
        refine DenR_congr (huc q hq) fun j hj=>?_
        have hbd:=row_bound (k:=ks.length) hq hj
        rw[h3,h2]at hin
        rw[<- Array.getElem?_toList,g2,spliceV_get _ _ _ (by simp[Value.cells];omega),dif_pos (by simp only[Value.cells];rw[hul,e4];omega),<- Array.getElem?_toList,<- List.getElem?_eq_getElem]
        simp only[Value.cells]
        congr 1
        rw[e4];omega
       obtain⟨k1,k2,k3⟩:=stored H K M (b':=.rows .own ks m g) (obj:=.cells arr' TT (0,0)) hG rfl rfl hpl (by simp[Blk.labs]) hbo
       refine⟨_,?_,rfl,k1,k2,k3⟩
       simp[Instr.storeAt,Instr.sureAddr,ptr,g1]
      ·cases hr
     ·cases hr
    ·cases hr
  ·cases hr
 ·cases hr
end
end Go.Sym
