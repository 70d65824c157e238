/- The engine of the proof: a symbolic walk over the model's code, and that it is sound; no statement of any program stands here. -/
import Derived.Test.YtlldhkhmhgcpaaaGreatDoorXG
import Derived.Laws.StructEq
import Derived.Laws.Entries
import Derived.MapKept
import Derived.Laws.BytesString
namespace Go.Sym
set_option linter.unusedVariables false
set_option linter.unusedSimpArgs false
theorem growBy_le (n:Nat):∀(k c:Nat),c<=n+n / 4+1000->Builtin.growBy n k c<=n+n / 4+1000
 |0,c,h=>by simpa[Builtin.growBy]using h
 |k+1,c,h=>by
  unfold Builtin.growBy
  split
  ·exact h
  ·exact growBy_le n k _ (by omega)
theorem nextcap_le {n c:Nat} (h:c<n):Builtin.nextslicecap n c<=n+n / 4+1000:=by
 unfold Builtin.nextslicecap
 split
 ·omega
 ·split
  ·omega
  ·exact growBy_le n 4 c (by omega)
theorem zD_den {zf:Nat->Option Obj} {k:Kd} {x:SV} {v:Value} (h:kdOk k x=true) (hz:zOk x v=true):DenD zf k (zD k) v:=by
 have hd:=zOk_den (ρ:=⟨fun _=>none,fun _=>none⟩) hz
 unfold kdOk at h
 split at h
 ·simp only[Den]at hd
  simp only[DenD,zD,D.toI]
  rw[hd,IntKind.same_iff.1 h]
 ·simp only[Den]at hd;simp only[DenD,zD,D.toB];exact hd
 ·rename_i y
  simp only[Den]at hd;simp only[DenD,zD,D.toS]
  rw[hd]
  congr 1
  have h0:=Nat.eq_of_beq_eq_true h
  rw[ByteArray.size_eq_zero_iff.1 h0]
 ·simp only[Den]at hd;simp only[DenD,zD,D.toN];exact .inl ⟨trivial,.inl hd⟩
 ·simp only[Den]at hd;simp only[DenD,zD,D.toN];exact .inl ⟨trivial,hd⟩
 ·cases h
theorem zRow_den {zf:Nat->Option Obj} {arr:Array Value}:∀ {ks:List Kd} {g:Nat->D} {c o:Nat} {xs:List SV} {vs:List Value},kdsOk ks xs=true->zsOk xs vs=true->(∀ j (h:j<ks.length),g (c+j)=zD (ks[j]'h))->(∀ j,j<ks.length->arr[o+j]? =vs[j]?)->DenR zf ks g c arr o
 | [],_,_,_,_,_,_,_,_,_=>by simp only[DenR]
 |k::ks,g,c,o,xs,vs,h1,h2,hg,ha=>by
  cases xs with
  |nil=>simp[kdsOk]at h1
  |cons x xs=>
   cases vs with
   |nil=>simp[zsOk]at h2
   |cons v vs=>
    simp only[kdsOk]at h1
    split at h1
    ·rename_i hk
     simp only[zsOk,Bool.and_eq_true]at h2
     simp only[DenR]
     refine⟨⟨v,by simpa using ha 0 (by simp),?_⟩,zRow_den h1 h2.2 (fun j hj=>?_) (fun j hj=>?_)⟩
     ·have:=hg 0 (by simp)
      simp at this
      rw[this]
      exact zD_den hk h2.1
     ·have:=hg (j+1) (by simpa using hj)
      simpa[Nat.add_assoc,Nat.add_comm 1 j]using this
     ·have:=ha (j+1) (by simpa using hj)
      simpa[Nat.add_assoc,Nat.add_comm 1 j]using this
    ·cases h1
theorem zRow_get:∀(ks:List Kd) (j:Nat) (h:j<ks.length),zRow ks j=zD (ks[j]'h)
 | [],j,h=>by simp at h
 |k::ks,0,h=>rfl
 |k::ks,j+1,h=>by simpa[zRow]using zRow_get ks j (by simpa using h)
theorem kdsOk_length:∀ {ks:List Kd} {xs:List SV},kdsOk ks xs=true->ks.length=xs.length
 | [],[],_=>rfl
 | [],_::_,h=>by simp[kdsOk]at h
 |_::_,[],h=>by simp[kdsOk]at h
 |k::ks,x::xs,h=>by
  simp only[kdsOk]at h
  split at h
  ·simp[kdsOk_length h]
  ·cases h
theorem zsOk_length:∀ {xs:List SV} {vs:List Value},zsOk xs vs=true->xs.length=vs.length
 | [],[],_=>rfl
 | [],_::_,h=>by simp[zsOk]at h
 |_::_,[],h=>by simp[zsOk]at h
 |x::xs,v::vs,h=>by
  simp only[zsOk,Bool.and_eq_true]at h
  simp[zsOk_length h.2]
theorem kdsE_spec {P:Program} {T:List (Nat × TI)} {t:Nat} {ti:TI} {ks:List Kd} (h:kdsE T t ti=some ks) (ht:TiOk P t ti):
  ks.length=ti.size/\∀(z:Array Value),zsOk ti.zero z.toList=true->∀(zf:Nat->Option Obj) (arr:Array Value) (o:Nat),(∀ j,j<ks.length->arr[o+j]? =z[j]?)->DenR zf ks (zRow ks) 0 arr o:=by
 unfold kdsE at h
 split at h
 ·split at h
  ·rename_i ks' _ hk
   cases h
   refine⟨?_,fun z hz zf arr o ha=>zRow_den hk hz (fun j hj=>by rw[Nat.zero_add];exact zRow_get _ j hj) (fun j hj=>by rw[ha j hj,Array.getElem?_toList])⟩
   obtain⟨i,z,_,_,_,_,h1,h2,_⟩:=ht.i
   rw[kdsOk_length hk,zsOk_length h1]
   simpa using h2
  ·cases h
 ·cases h
section
variable {ρi:Env} {P:Program} {E A:Nat->Prop} {w0:World} {ρ:Env} {F:Fr} {G:Hp} {a:Act} {w:World} {o:Oper}
def Reads (P:Program) (z:Nat->Option Obj) (w:World) (ks:List Kd) (m:Nat) (v:Value) (g:Nat->Nat->D) (lo:Nat) (vs:Array Value):Prop:=
 (∀ w':World,w'.heap=w.heap->(Builtin.firstCells ks.length m v).run P w'= .ok vs w')/\vs.size=m*ks.length/\
  ∀ r,r<m->DenR z ks (g (lo+r)) 0 vs (r*ks.length)
theorem Reads.none {z:Nat->Option Obj} {ks:List Kd} {g:Nat->Nat->D} {lo:Nat}:Reads P z w ks 0 (.slice none 0 0) g lo #[]:=
 ⟨fun w' _=>by simp[Builtin.firstCells],by simp,fun r hr=>by omega⟩
theorem Reads.sl (H:HSat ρ G w) {l lo m n:Nat} {b:Md} {ks:List Kd} {f:Nat->Nat->D} (hG:G l=some (.rows b ks n f)) (hm:lo+m<=n) {v:Value} (hd:Den ρ (.sl l lo m) v):
  ∃ base cap,v= .slice base m cap/\∃ vs,Reads P ρ.z w ks m v f lo vs:=by
 simp only[Den]at hd
 rcases hd with⟨_,rfl,rfl,rfl⟩|⟨pl,ad,hpl,rfl,h1,h2⟩
 ·exact⟨_,_,rfl,#[],Reads.none⟩
 ·refine⟨_,_,rfl,?_⟩
  by_cases hm0:m=0
  ·subst hm0
   exact⟨#[],fun w' _=>by simp[Builtin.firstCells,loadCells,loadCellsFrom],by simp,fun r hr=>by omega⟩
  rcases H.blk _ _ hG with⟨h3,rfl⟩|⟨pl',e1,e2,_⟩|⟨pl',arr,T,fz,e1,e2,e3,_,e4,e5,e6,e7⟩
  ·omega
  ·omega
  rw[hpl]at e1;cases e1
  have had:=h2 (by omega)
  subst had
  have hb:lo*pl.k+m*pl.k<=pl.cap*pl.k:=by rw[<- Nat.add_mul];exact Nat.mul_le_mul_right _ h1
  have hin:pl.off+lo*pl.k+m*ks.length<=arr.size:=by rw[<- e4];omega
  refine⟨((arr.toList.drop (pl.off+lo*pl.k)).take (m*ks.length)).toArray,fun w' hw'=>?_,by simp;omega,fun r hr=>?_⟩
  ·have e2':w'.heap[pl.b]? =some (.cells arr T fz):=by rw[hw'];exact e2
   obtain⟨vs,g1,g2⟩:=run_loadCells (P:=P) e2' (pl.off+lo*pl.k) (m*ks.length) hin
   simp only[Builtin.firstCells,ptr,Nat.add_zero,g1]
   rw[<- g2]
  ·refine DenR_congr (e7 (lo+r) (by omega)) fun c hc=>?_
   have:=row_bound (k:=ks.length) hr hc
   simp only[List.getElem?_toArray,List.getElem?_take,if_pos this,List.getElem?_drop]
   rw[e4,Nat.add_mul,<- Array.getElem?_toList]
   congr 1
   omega
def putNew (P:Program) (w:World) (base:Option Addr) (k:Nat) (vs:List Value):Result Unit:=
 match base with
 |some ad=>(storeCells (ad.add k) vs).run P w
 |none=>.ok () w
theorem run_append {t t2 e:Nat} {ty:TypeId} {ti:TI} (h1:P.underlying t=some (.slice e)) (h2:∃ e2,P.underlying t2=some (.slice e2)) (he:TiOk P e ti) (hb:ti.bytes<=1024)
  {base b2:Option Addr} {n cap m c2:Nat} (hnm:n+m<=rowsMax ti.bytes) {old new:Array Value}
  (hold:∀ w':World,w'.heap=w.heap->(Builtin.firstCells ti.size n (.slice base n cap)).run P w'= .ok old w')
  (hnew:∀ w':World,w'.heap=w.heap->(Builtin.firstCells ti.size m (.slice b2 m c2)).run P w'= .ok new w'):
  (n+m<=cap/\(Builtin.append_ #[t,t2] ty #[.slice base n cap,.slice b2 m c2]).run P w=
   (putNew P w base (n*ti.size) new.toList).andThen fun _ w'=>.ok (.slice base (n+m) cap) w')∨
  (cap<n+m/\∃ nc rest,n+m<=nc/\(rest:Array Value).size=(nc-(n+m))*ti.size/\(Builtin.append_ #[t,t2] ty #[.slice base n cap,.slice b2 m c2]).run P w=
   .ok (.slice (some ⟨w.heap.size,0,none⟩) (n+m) nc) { w.drew with heap:=w.heap.push (.cells (old++new++rest) e)}):=by
 obtain⟨e2,h2⟩:=h2
 have hz:∀ w:World,(do pure ((<- underlying t2) matches .int _):Sem Bool).run P w= .ok false w:=by
  intro w;simp[run_underlying h2]
 have hlim:n+m<=5864062014805:=by
  unfold rowsMax at hnm
  split at hnm <;>omega
 by_cases hc:n+m<=cap
 ·refine .inl ⟨hc,?_⟩
  unfold Builtin.append_
  simp only[List.getElem?_toArray,List.getElem?_cons_zero,List.getElem?_cons_succ]
  simp only[Sem.run_bind,run_underlying h1,run_underlying h2,Result.andThen_ok,run_sizeOf he,Sem.run_pure,Bool.false_eq_true,if_false,Builtin.lenOf,if_pos hc]
  simp only[Bool.not_false,if_true,hnew w rfl,Result.andThen_ok]
  cases base with
  |none=>rfl
  |some ad=>simp only[Sem.run_bind,putNew];rfl
 ·have hc':cap<n+m:=by omega
  obtain⟨iB,hB1,hB2⟩:∃ i,P.info? e=some i/\i.bytes=ti.bytes:=by
   obtain⟨i,z,hi,_,_,hbb,_⟩:=he.i
   exact⟨i,hi,hbb⟩
  obtain⟨z,hz1,hz2,hz3⟩:=run_zeroValue (w:=w.drew) he
  have hsmall:¬ (Builtin.nextslicecap (n+m) cap*ti.bytes>2 ^ 48):=by
   have h5:=nextcap_le hc'
   unfold rowsMax at hnm
   split at hnm
   ·rename_i h24
    rw[Nat.eq_of_beq_eq_true h24]
    omega
   ·have:Builtin.nextslicecap (n+m) cap*ti.bytes<=((n+m)+(n+m) / 4+1000)*1024:=Nat.mul_le_mul h5 hb
    omega
  have hmax:¬ (((n+m:Nat):Int)>IntKind.i64.max/\(False∨ti.bytes=0)):=by
   rintro⟨h,_⟩
   have:IntKind.i64.max=9223372036854775807:=rfl
   unfold rowsMax at hnm
   split at hnm <;>omega
  right
  refine⟨hc',(n+m)+w.tape w.drawn (.appendCap (n+m) cap e)%(2 ^ 63-(n+m)),Builtin.zeroCells z.cells ((n+m)+w.tape w.drawn (.appendCap (n+m) cap e)%(2 ^ 63-(n+m))-(n+m)),by omega,
   by simp[Builtin.zeroCells,hz3],?_⟩
  unfold Builtin.append_
  simp only[List.getElem?_toArray,List.getElem?_cons_zero,List.getElem?_cons_succ]
  simp only[Sem.run_bind,run_underlying h1,run_underlying h2,Result.andThen_ok,run_sizeOf he,Sem.run_pure,Bool.false_eq_true,if_false,Builtin.lenOf,if_neg hc,run_typeInfo hB1,hB2]
  rw[if_neg (by simpa using hmax)]
  simp only[Sem.run_bind,run_typeInfo hB1,hB2,Result.andThen_ok,Sem.run_pure]
  rw[if_neg hsmall]
  have hask:∀(k:Nat) (w:World),(askRoom k).run P w= .ok () w:=by
   intro k w
   unfold askRoom
   split
   ·rfl
   ·rfl
  simp only[Sem.run_bind,choose,Sem.run,Question.forced,Question.cut,Bool.false_eq_true,if_false,Result.andThen_ok,hask,Sem.run_pure,run_typeInfo hB1]
  have ho:=hold w.drew rfl
  have hn:=hnew w.drew rfl
  simp only[World.drew_eq,ho,hn,Result.andThen_ok,Bool.not_false,if_true,hz1,newRow,Sem.run_bind,run_newObj,Sem.run_pure]
  rfl
end
end Go.Sym
namespace Go.Sym
set_option linter.unusedVariables false
set_option linter.unusedSimpArgs false
section
variable {ρi:Env} {P:Program} {E A:Nat->Prop} {w0:World} {ρ:Env} {F:Fr} {G:Hp} {a:Act} {w:World} {o:Oper}
theorem HSat.kill (H:HSat ρ G w) (l:Nat) (hl:G l≠none):HSat ρ (upds G [(l,.dead)]) w:=by
 have key:∀ {x:Nat} {b:Blk},upds G [(l,.dead)] x=some b->b= .dead∨(l≠x/\G x=some b):=by
  intro x b h
  by_cases e:l=x
  ·subst e;rw[upds_one_same]at h;cases h;exact .inl rfl
  ·rw[upds_one_other _ _ e]at h;exact .inr ⟨e,h⟩
 refine⟨fun x b h=>?_,?_,?_,?_,H.zok,fun x b q h hm hq=>?_⟩
 ·rcases key h with rfl|⟨_,h⟩
  ·trivial
  ·exact H.blk x b h
 ·intro l1 l2 b1 b2 p1 p2 hn h1 h2 hm hv e1 e2
  rcases key h1 with rfl|⟨_,h1⟩
  ·cases hm
  rcases key h2 with rfl|⟨_,h2⟩
  ·exact hv.elim
  exact H.inj l1 l2 b1 b2 p1 p2 hn h1 h2 hm hv e1 e2
 ·intro x b h y hy
  rcases key h with rfl|⟨_,h⟩
  ·simp[Blk.labs]at hy
  by_cases e:l=y
  ·subst e;rw[upds_one_same];simp
  ·rw[upds_one_other _ _ e];exact H.scp x b h y hy
 ·intro x hx
  by_cases e:l=x
  ·subst e;rw[upds_one_same]at hx;cases hx
  ·rw[upds_one_other _ _ e]at hx;exact H.tight x hx
 ·rcases key h with rfl|⟨_,h⟩
  ·cases hm
  ·exact H.zap x b q h hm hq
theorem HSat.fewer (H:HSat ρ G w) {l:Nat} {m:Md} {ks:List Kd} {n n':Nat} {f:Nat->Nat->D} (hG:G l=some (.rows m ks n' f)) (hn:n<=n'):HSat ρ (upds G [(l,.rows m ks n f)]) w:=by
 have key:∀ {x:Nat} {b:Blk},upds G [(l,.rows m ks n f)] x=some b->(x=l/\b= .rows m ks n f)∨(l≠x/\G x=some b):=by
  intro x b h
  by_cases e:l=x
  ·subst e;rw[upds_one_same]at h;cases h;exact .inl ⟨rfl,rfl⟩
  ·rw[upds_one_other _ _ e]at h;exact .inr ⟨e,h⟩
 have old:∀ {x:Nat} {b:Blk},upds G [(l,.rows m ks n f)] x=some b->∃ b',G x=some b'/\(b.mut=true->b'.mut=true)/\(b.real->b'.real):=by
  intro x b h
  rcases key h with⟨rfl,rfl⟩|⟨_,h⟩
  ·exact⟨_,hG,fun h=>h,fun h=>h.imp id (fun h=>by omega)⟩
  ·exact⟨_,h,fun h=>h,fun h=>h⟩
 refine⟨fun x b h=>?_,?_,?_,?_,H.zok,fun x b q h hm hq=>?_⟩
 ·rcases key h with⟨rfl,rfl⟩|⟨_,h⟩
  ·rcases H.blk _ _ hG with⟨e1,e2⟩|⟨pl,e1,e2,e3,e4⟩|⟨pl,arr,T,fz,e1,e2,e3,e3',e4,e5,e6,e7⟩
   ·exact .inl ⟨e1,by omega⟩
   ·exact .inr (.inl ⟨pl,e1,by omega,e3,e4⟩)
   ·exact .inr (.inr ⟨pl,arr,T,fz,e1,e2,e3,e3',e4,by omega,e6,fun r hr=>e7 r (by omega)⟩)
  ·exact H.blk x b h
 ·intro l1 l2 b1 b2 p1 p2 hne h1 h2 hm hv e1 e2
  obtain⟨c1,g1,m1,_⟩:=old h1
  obtain⟨c2,g2,_,r2⟩:=old h2
  exact H.inj l1 l2 c1 c2 p1 p2 hne g1 g2 (m1 hm) (r2 hv) e1 e2
 ·intro x b h y hy
  rcases key h with⟨rfl,rfl⟩|⟨_,h⟩
  ·simp[Blk.labs]at hy
  by_cases e:l=y
  ·subst e;rw[upds_one_same];simp
  ·rw[upds_one_other _ _ e];exact H.scp x b h y hy
 ·intro x hx
  by_cases e:l=x
  ·subst e;rw[upds_one_same]at hx;cases hx
  ·rw[upds_one_other _ _ e]at hx;exact H.tight x hx
 ·obtain⟨c1,g1,m1,_⟩:=old h
  exact H.zap x c1 q g1 (m1 hm) hq
theorem MutIn.fewer {N:Nat} (M:MutIn E A ρi N ρ G) {l:Nat} {m:Md} {ks:List Kd} {n n':Nat} {f:Nat->Nat->D} (hG:G l=some (.rows m ks n' f)) (hn:n<=n'):MutIn E A ρi N ρ (upds G [(l,.rows m ks n f)]):=by
 have old:∀ {x:Nat} {b:Blk},upds G [(l,.rows m ks n f)] x=some b->∃ b',G x=some b'/\(b.mut=true->b'.mut=true)/\(b.real->b'.real):=by
  intro x b h
  by_cases e:l=x
  ·subst e;rw[upds_one_same]at h;cases h
   exact⟨_,hG,fun h=>h,fun h=>h.imp id (fun h=>by omega)⟩
  ·rw[upds_one_other _ _ e]at h
   exact⟨_,h,fun h=>h,fun h=>h⟩
 refine⟨fun x b pl h hm hp=>?_,fun x b pl h hm hp=>?_,M.zx,M.zi,M.za⟩
 ·obtain⟨c,g,hmm,_⟩:=old h
  exact M.m x c pl g (hmm hm) hp
 ·obtain⟨c,g,_,hr⟩:=old h
  exact M.a x c pl g (hr hm) hp
theorem MutIn.kill {n:Nat} (M:MutIn E A ρi n ρ G) (l:Nat):MutIn E A ρi n ρ (upds G [(l,.dead)]):=by
 refine⟨fun x b pl h hm hp=>?_,fun x b pl h hm hp=>?_,M.zx,M.zi,M.za⟩
 ·by_cases e:l=x
  ·subst e;rw[upds_one_same]at h;cases h;cases hm
  ·rw[upds_one_other _ _ e]at h;exact M.m x b pl h hm hp
 ·by_cases e:l=x
  ·subst e;rw[upds_one_same]at h;cases h;exact hm.elim
  ·rw[upds_one_other _ _ e]at h;exact M.a x b pl h hm hp
theorem getElem_append3 {old new rest:Array Value} {i:Nat}:
  (old++new++rest)[i]? =if i<old.size then old[i]? else if i<old.size+new.size then new[i-old.size]? else rest[i-old.size-new.size]? :=by
 by_cases h1:i<old.size
 ·rw[if_pos h1,Array.append_assoc,Array.getElem?_append_left h1]
 ·rw[if_neg h1]
  by_cases h2:i<old.size+new.size
  ·rw[if_pos h2,Array.getElem?_append_left (by simp;omega),Array.getElem?_append_right (by omega)]
  ·rw[if_neg h2,Array.getElem?_append_right (by simp;omega)]
   congr 1
   simp
   omega
theorem appRows_cells {z:Nat->Option Obj} {ks:List Kd} {n m lo2:Nat} {f g:Nat->Nat->D} {old new rest:Array Value} (h1:old.size=n*ks.length) (h2:new.size=m*ks.length)
  (ho:∀ r,r<n->DenR z ks (f r) 0 old (r*ks.length))
  (hn:∀ r,r<m->DenR z ks (g (lo2+r)) 0 new (r*ks.length)):
  ∀ r,r<n+m->DenR z ks (appRows n f lo2 g r) 0 (old++new++rest) (r*ks.length):=by
 intro r hr
 by_cases hrn:r<n
 ·have e:appRows n f lo2 g r=f r:=by funext c;simp[appRows,hrn]
  rw[e]
  refine DenR_congr (ho r hrn) fun c hc=>?_
  have:=row_bound (k:=ks.length) hrn hc
  rw[getElem_append3,if_pos (by omega)]
 ·have e:appRows n f lo2 g r=g (lo2+(r-n)):=by funext c;simp[appRows,hrn]
  rw[e]
  refine DenR_congr (hn (r-n) (by omega)) fun c hc=>?_
  have h3:n*ks.length<=r*ks.length:=Nat.mul_le_mul_right _ (by omega)
  have h4:=row_bound (k:=ks.length) hr hc
  rw[Nat.add_mul]at h4
  rw[getElem_append3,if_neg (by omega),if_pos (by omega),h1]
  congr 1
  rw[Nat.sub_mul]
  omega
theorem grown_ok {ks:List Kd} {N nc:Nat} {fn:Nat->Nat->D} {arr:Array Value} {e:TypeId} {d:Nat} {w':World} (hw:w'.heap=w.heap.push (.cells arr e)) (hN:N<=nc)
  (hsz:nc*ks.length<=arr.size) (hc:∀ r,r<N->DenR ρ.z ks (fn r) 0 arr (r*ks.length)):
  BlkOk (updE ρ d (some ⟨w.heap.size,0,ks.length,nc⟩)) w' d (.rows .own ks N fn):=by
 refine .inr (.inr ⟨⟨w.heap.size,0,ks.length,nc⟩,arr,e,(0,0),updE_same _ _ _,by rw[hw];simp,fun _=>rfl,fun h=>(by cases h),rfl,hN,by simpa using hsz,fun r hr=>?_⟩)
 show DenR ρ.z _ _ _ _ _
 simpa using hc r hr
theorem append_inplace (H:HSat ρ G w) (K:Keep E w0 w) (M:MutIn E A ρi w0.heap.size ρ G) {l d' n m cap lo2:Nat} {ks:List Kd} {f g:Nat->Nat->D} {base:Option Addr} {u:Value} {vs:Array Value}
  (hG:G l=some (.rows .own ks n f)) (hGd:G d'=none) (hd:Den ρ (.sl l 0 n) (.slice base n cap)) (hv:Reads P ρ.z w ks m u g lo2 vs) (hc:n+m<=cap):
  ∃ w',∃ ρ':Env,ρ'.z=ρ.z/\putNew P w base (n*ks.length) vs.toList= .ok () w'/\Den ρ' (.sl d' 0 (n+m)) (.slice base (n+m) cap)/\
   HSat ρ' (upds G [(d',.rows .own ks (n+m) (appRows n f lo2 g)),(l,.dead)]) w'/\Keep E w0 w'/\MutIn E A ρi w0.heap.size ρ' (upds G [(d',.rows .own ks (n+m) (appRows n f lo2 g)),(l,.dead)])/\
   (∀ x,G x≠none->ρ' x=ρ x):=by
 have hld:d'≠l:=fun e=>by rw[e]at hGd;rw[hGd]at hG;cases hG
 have hGl:G l≠none:=by rw[hG];simp
 have H1:=H.kill l hGl
 have M1:=M.kill l
 have hGd1:upds G [(l,.dead)] d'=none:=by rw[upds_one_other _ _ (Ne.symm hld)];exact hGd
 have hkeep:∀ {p:Option Place} (x:Nat),G x≠none->updE ρ d' p x=ρ x:=fun x hx=>updE_keep hGd x hx
 rw[upds_two]
 simp only[Den]at hd
 rcases hd with⟨hn,hvv,hn0,_⟩|⟨pl,ad,hpl,hvv,hcap,had⟩
 ·
  simp only[Value.slice.injEq]at hvv
  obtain⟨rfl,_,rfl⟩:=hvv
  have hm0:m=0:=by omega
  subst hm0
  refine⟨w,updE ρ d' none,rfl,rfl,?_,?_,K,M1.add (fun q e _=>by cases e) (fun q e _=>by cases e),hkeep⟩
  ·simp only[Den]
   exact .inl ⟨updE_same _ _ _,by simp[hn0]⟩
  ·exact H1.add hGd1 (by simp[Blk.labs]) (fun _ _ _ _ _ _=>rfl) H1.zok (fun _ _ _ _ _ _ _ e=>by cases e) (fun _ e=>by cases e) (.inl ⟨updE_same _ _ _,by omega⟩)
 ·simp only[Value.slice.injEq,true_and]at hvv
  obtain⟨rfl,rfl⟩:=hvv
  rcases H.blk _ _ hG with⟨h5,_⟩|⟨pl',_,_,e3,_⟩|⟨pl',arr,TT,fz,e1,e2',e3,_,e4,e5,e6,e7⟩
  ·rw[hpl]at h5;cases h5
  ·cases e3
  rw[hpl]at e1;cases e1
  have hf:=e3 rfl
  subst hf
  have hzn:=H.zap l _ pl hG rfl hpl
  have happ:∀(x:Nat) (b:Blk) (q q':Place),upds G [(l,.dead)] x=some b->b.real->ρ x=some q->some pl=some q'->q.b≠q'.b:=by
   intro x b q q' hx hv' hq e
   cases e
   by_cases exl:l=x
   ·subst exl;rw[upds_one_same]at hx;cases hx;exact hv'.elim
   ·rw[upds_one_other _ _ exl]at hx
    exact(H.inj l x _ b pl q exl hG hx rfl hv' hpl hq).symm
  have hden:Den (updE ρ d' (some pl)) (.sl d' 0 (n+m)) (.slice (some ad) (n+m) (pl.cap-0)):=by
   simp only[Den]
   exact .inr ⟨pl,ad,updE_same _ _ _,rfl,by omega,had⟩
  have hmut:MutIn E A ρi w0.heap.size (updE ρ d' (some pl)) (upds (upds G [(l,.dead)]) [(d',.rows .own ks (n+m) (appRows n f lo2 g))]):=
   M1.add (fun q e _=>by cases e;exact M.m l _ pl hG rfl hpl) (fun q e _=>by cases e;exact M.a l _ pl hG (.inl rfl) hpl)
  by_cases hm0:m=0
  ·subst hm0
   have hvs:vs.toList=[]:=by
    have:=hv.2.1
    simp at this
    simp[this]
   refine⟨w,updE ρ d' (some pl),rfl,by rw[hvs];rfl,hden,?_,K,hmut,hkeep⟩
   refine H1.add hGd1 (by simp[Blk.labs]) (fun _ _ _ _ _ _=>rfl) H1.zok (fun x b q q' h1 h2 h3 h4 _=>happ x b q q' h1 h2 h3 h4) (fun q hq _=>by cases hq;exact hzn) (.inr (.inr ⟨pl,arr,TT,(0,0),updE_same _ _ _,e2',fun _=>rfl,fun h=>(by cases h),e4,by omega,e6,fun r hr=>?_⟩))
   have e:appRows n f lo2 g r=f r:=by funext c;simp[appRows,show r<n by omega]
   rw[e]
   exact e7 r (by omega)
  ·have had':=had (by omega)
   subst had'
   have hk:pl.k=ks.length:=e4
   have hcm:(n+m)*pl.k<=pl.cap*pl.k:=Nat.mul_le_mul_right _ (by omega)
   rw[Nat.add_mul]at hcm
   have hvs:=hv.2.1
   have hcellable:∀ v∈vs.toList,cellable v=true:=by
    intro z hz
    obtain⟨i,hi,rfl⟩:=List.mem_iff_getElem.1 hz
    have hi':i<m*ks.length:=by simpa[hvs]using hi
    have hk0:0<ks.length:=by
     rcases Nat.eq_zero_or_pos ks.length with h|h
     ·rw[h]at hi';omega
     ·exact h
    have h8:=hv.2.2 (i / ks.length) (by rw[Nat.div_lt_iff_lt_mul hk0];exact hi')
    rw[DenR_iff]at h8
    obtain⟨uu,q1,q2⟩:=h8 (i%ks.length) (Nat.mod_lt _ hk0)
    rw[Nat.mul_comm,Nat.div_add_mod,<- Array.getElem?_toList,List.getElem?_eq_getElem hi]at q1
    cases q1
    exact DenD_cellable q2
   obtain⟨arr',g1,g2⟩:=run_storeCells (P:=P) vs.toList w arr (pl.off+n*pl.k) 0 e2' (by simp;rw[hvs,<- hk];omega) hcellable
   have hsize:arr'.size=arr.size:=by
    have:=congrArg List.length g2
    unfold spliceV at this
    simp at this
    rw[hvs]at this
    rw[<- hk]at this
    omega
   have hb:pl.b<w.heap.size:=heap_lt e2'
   refine⟨{ w with heap:=w.heap.setIfInBounds pl.b (.cells arr' TT (0,0))},updE ρ d' (some pl),rfl,?_,hden,?_,K.set _ (M.m l _ pl hG rfl hpl),hmut,hkeep⟩
   ·simp only[putNew,ptr,Nat.zero_mul,Nat.add_zero,add_none]
    rw[<- hk]
    exact g1
   refine H1.add hGd1 (by simp[Blk.labs]) (fun x b q hx hv' hq=>?_) (fun b o hz=>?_) (fun x b q q' h1 h2 h3 h4 _=>happ x b q q' h1 h2 h3 h4) (fun q hq _=>by cases hq;exact hzn)
    (.inr (.inr ⟨pl,arr',TT,(0,0),updE_same _ _ _,getElem_set_self hb _,fun _=>rfl,fun h=>(by cases h),e4,by omega,by omega,fun r hr=>?_⟩))
   ·show(w.heap.setIfInBounds pl.b _)[q.b]? =_
    rw[Array.getElem?_setIfInBounds,if_neg (Ne.symm (happ x b q pl hx hv' hq rfl))]
   ·show(w.heap.setIfInBounds pl.b _)[b]? =_
    rw[Array.getElem?_setIfInBounds,if_neg (fun e=>by rw[<- e,hzn]at hz;cases hz)]
    exact H.zok b o hz
   ·show DenR ρ.z _ _ _ _ _
    by_cases hrn:r<n
    ·have e:appRows n f lo2 g r=f r:=by funext c;simp[appRows,hrn]
     rw[e]
     refine DenR_congr (e7 r hrn) fun c hc=>?_
     have h9:=row_bound (k:=pl.k) (c:=c) hrn (by omega)
     rw[<- Array.getElem?_toList,g2,Nat.add_zero,spliceV_get _ _ _ (by simp;rw[hvs,<- hk];omega),dif_neg (by omega),Array.getElem?_toList]
    ·have e:appRows n f lo2 g r=g (lo2+(r-n)):=by funext c;simp[appRows,hrn]
     rw[e]
     refine DenR_congr (hv.2.2 (r-n) (by omega)) fun c hc=>?_
     have h10:n*pl.k<=r*pl.k:=Nat.mul_le_mul_right _ (by omega)
     have h11:=row_bound (k:=pl.k) (c:=c) hr (by omega)
     rw[Nat.add_mul]at h11
     have h12:vs.toList.length=m*pl.k:=by simp[hvs,hk]
     rw[<- Array.getElem?_toList,g2,Nat.add_zero,spliceV_get _ _ _ (by simp;rw[hvs,<- hk];omega),dif_pos ⟨by omega,by omega⟩,<- Array.getElem?_toList,<- List.getElem?_eq_getElem]
     congr 1
     rw[Nat.sub_mul,<- hk]
     omega
set_option maxHeartbeats 400000 in
theorem append_sound {T:List (Nat × TI)} (hT:TOk P T) {t t2:Nat} {ty:TypeId} {d:Option Nat} (H:HSat ρ G w) (K:Keep E w0 w) (M:MutIn E A ρi w0.heap.size ρ G) {x y:SV} {r:Res}
  (hr:evBuiltin T G d .append [t,t2] [x,y]=some r) (hp:r.Pre) {v u:Value} (hd:Den ρ x v) (hy:Den ρ y u):
  ∃ z w' ρ',(Builtin.append_ #[t,t2] ty #[v,u]).run P w= .ok z w'/\Den ρ' r.v z/\HSat ρ' (upds G r.wr) w'/\Keep E w0 w'/\MutIn E A ρi w0.heap.size ρ' (upds G r.wr)/\
   (∀ l,G l≠none->ρ' l=ρ l)/\ZLe ρ ρ'/\(∀ l∈r.v.labs,upds G r.wr l≠none):=by
 simp only[evBuiltin]at hr
 split at hr
 ·rename_i e s1 s2 s3 e2 q1 q2 q3 hT1 hT2
  split at hr
  ·rename_i ti hTe
   split at hr
   ·rename_i ks hks hby hsz
    have he:=hT _ _ hTe
    obtain⟨dd,hd1,hd2⟩:=(hT _ _ hT1).d
    have hu1:P.underlying t=some (.slice e):=by
     cases dd <;>simp only[tdOk]at hd2 <;>try cases hd2
     rw[hd1,Nat.eq_of_beq_eq_true hd2]
    obtain⟨dd2,hd3,hd4⟩:=(hT _ _ hT2).d
    have hu2:∃ e2,P.underlying t2=some (.slice e2):=by
     cases dd2 <;>simp only[tdOk]at hd4 <;>try cases hd4
     exact⟨_,hd3⟩
    have hbytes:=Nat.le_of_ble_eq_true hby
    obtain⟨hkl,_⟩:=kdsE_spec hks he
    -- the source
    have src:∀ {rd:List Nat} {lo2 m n2:Nat} {g:Nat->Nat->D},appSrc G ks y=some (rd,lo2,m,n2,g)->lo2+m<=n2->∃ b2 c2,u= .slice b2 m c2/\∃ vs,Reads P ρ.z w ks m u g lo2 vs:=by
     intro rd lo2 m n2 g h1 h2
     unfold appSrc at h1
     split at h1
     ·rename_i l lo len
      split at h1
      ·rename_i mm ks' n f hG
       split at h1
       ·rename_i hsame
        cases h1
        rw[<- kdsSame_iff.1 hsame]at hG
        exact Reads.sl H hG h2 hy
       ·cases h1
      ·cases h1
     ·cases h1
      simp only[Den]at hy
      subst hy
      exact⟨_,_,rfl,#[],Reads.none⟩
     ·cases h1
    split at hr
    ·cases hr
    ·rename_i rd lo2 m n2 g hsrc
     split at hr
     ·
      obtain⟨d',rfl,hGd,rfl⟩:=newAt_spec hr
      obtain⟨p1,p2⟩:lo2+m<=n2/\m<=rowsMax ti.bytes:=hp
      obtain⟨b2,c2,rfl,vs,hv⟩:=src hsrc p1
      simp only[Den]at hd
      subst hd
      rcases run_append (P:=P) (w:=w) (ty:=ty) (base:=none) (n:=0) (cap:=0) (b2:=b2) (m:=m) (c2:=c2) (old:= #[]) (new:=vs) hu1 hu2 he hbytes (by rw[Nat.zero_add];exact p2)
       (fun w' _=>by simp[Builtin.firstCells]) (fun w' hw'=>by have:=hv.1 w' hw';rwa [hkl]at this)with⟨h1,h2⟩|⟨h1,nc,rest,h2,h3,h4⟩
      ·have hm0:m=0:=by omega
       subst hm0
       refine⟨_,w,updE ρ d' none,h2,?_,?_,K,M.add (fun q e _=>by cases e) (fun q e _=>by cases e),updE_keep hGd,updE_z _ _ _,?_⟩
       ·simp only[Den]
        exact .inl ⟨updE_same _ _ _,by simp⟩
       ·exact H.add hGd (by simp[Blk.labs]) (fun _ _ _ _ _ _=>rfl) H.zok (fun _ _ _ _ _ _ _ e=>by cases e) (fun _ e=>by cases e) (.inl ⟨updE_same _ _ _,rfl⟩)
       ·intro l hl;simp[SV.labs]at hl;subst hl;simp[upds_one_same]
      ·have hcells:=appRows_cells (ks:=ks) (n:=0) (m:=m) (lo2:=lo2) (f:=fun _ _=>.i 0) (g:=g) (old:= #[]) (new:=vs) (rest:=rest) (by simp) hv.2.1 (fun r hr=>by omega) hv.2.2
       have hsz2:nc*ks.length<=(#[]++vs++rest).size:=by
        have:=hv.2.1
        have h5:(nc-(0+m))*ti.size+m*ti.size=nc*ti.size:=by rw[<- Nat.add_mul];congr 1;omega
        simp;rw[hkl]at this ⊢;omega
       obtain⟨k1,k2,k3,k4⟩:=pushed (b:=.rows .own ks m (appRows 0 (fun _ _=>.i 0) lo2 g)) (w':={ w.drew with heap:=w.heap.push (.cells (#[]++vs++rest) e)}) H K M hGd (by simp[Blk.labs]) rfl rfl rfl rfl rfl
        (grown_ok (ρ:=ρ) (d:=d') (w:=w) (nc:=nc) rfl (by omega) hsz2 (by simpa using hcells))
       refine⟨_,_,_,h4,?_,k1,k2,k3,k4,updE_z _ _ _,?_⟩
       ·simp only[Den]
        exact .inr ⟨_,⟨w.heap.size,0,none⟩,updE_same _ _ _,by simp,by simpa using h2,fun _=>by simp[ptr]⟩
       ·intro l hl;simp[SV.labs]at hl;subst hl;simp[upds_one_same]
     ·
      rename_i l lo n
      split at hr
      ·rename_i ks' n' f d' hG
       split at hr
       ·rename_i hsame hGd
        cases hr
        rw[<- kdsSame_iff.1 hsame]at hG
        obtain⟨rfl,hnn,p1,p2⟩:lo=0/\n<=n'/\lo2+m<=n2/\n+m<=rowsMax ti.bytes:=hp
        obtain⟨G1,hG1⟩:∃ G1,G1=upds G [(l,.rows .own ks n f)]:=⟨_,rfl⟩
        have hups:∀(b1:Blk) (d1:Nat),upds G [(d1,b1),(l,.dead)]=upds G1 [(d1,b1),(l,.dead)]:=by
         intro b1 d1
         funext z
         rw[hG1]
         simp only[upds]
         cases Nat.beq d1 z <;>cases hb:Nat.beq l z <;>rfl
        have hne:∀ x,G x≠none↔G1 x≠none:=by
         intro x
         rw[hG1]
         simp only[upds]
         cases hb:Nat.beq l x with
         |true=>rw[<- Nat.eq_of_beq_eq_true hb,hG];simp
         |false=>rfl
        have Hn:HSat ρ G1 w:=by rw[hG1];exact H.fewer hG hnn
        have Mn:MutIn E A ρi w0.heap.size ρ G1:=by rw[hG1];exact M.fewer hG hnn
        have hGd':G1 d'=none:=Classical.not_not.1 (fun h=>absurd ((hne d').2 h) (by rw[hGd];simp))
        have hG':G1 l=some (.rows .own ks n f):=by rw[hG1,upds_one_same]
        rw[hups]
        simp only[hne]
        clear hups hne
        clear H M hG hGd
        have H:=Hn;have M:=Mn;have hG:=hG';have hGd:=hGd'
        clear hG1 Hn Mn hG' hGd'
        obtain⟨b2,c2,rfl,vs,hv⟩:=src hsrc p1
        obtain⟨base,cap,rfl,vo,hvo⟩:=Reads.sl (P:=P) H hG (by omega) hd
        have hld:d'≠l:=fun e=>by rw[e]at hGd;rw[hGd]at hG;cases hG
        have hGl:G1 l≠none:=by rw[hG];simp
        have H1:=H.kill l hGl
        have M1:=M.kill l
        have hGd1:upds G1 [(l,.dead)] d'=none:=by rw[upds_one_other _ _ (Ne.symm hld)];exact hGd
        have hkeep:∀ {p:Option Place} (x:Nat),G1 x≠none->updE ρ d' p x=ρ x:=fun x hx=>updE_keep hGd x hx
        have hlab:∀ x∈(SV.sl d' 0 (n+m)).labs,upds G1 [(d',Blk.rows .own ks (n+m) (appRows n f lo2 g)),(l,.dead)] x≠none:=by
         intro x hx;simp[SV.labs]at hx;subst hx;rw[upds_two,upds_one_same];simp
        rcases run_append (P:=P) (w:=w) (ty:=ty) (base:=base) (n:=n) (cap:=cap) (b2:=b2) (m:=m) (c2:=c2) (old:=vo) (new:=vs) hu1 hu2 he hbytes p2
         (fun w' hw'=>by have:=hvo.1 w' hw';rwa [hkl]at this) (fun w' hw'=>by have:=hv.1 w' hw';rwa [hkl]at this)with⟨h1,h2⟩|⟨h1,nc,rest,h2,h3,h4⟩
        ·
         obtain⟨w',ρ',kz,k1,k2,k3,k4,k5,k6⟩:=append_inplace (P:=P) H K M hG hGd hd hv h1
         rw[<- hkl]at h2
         refine⟨_,w',ρ',h2.trans ?_,k2,k3,k4,k5,k6,fun b o h=>by rw[kz];exact h,hlab⟩
         rw[k1]
         rfl
        ·
         have hcells:=appRows_cells (ks:=ks) (n:=n) (m:=m) (lo2:=lo2) (f:=f) (g:=g) (old:=vo) (new:=vs) (rest:=rest) hvo.2.1 hv.2.1 (fun r hr=>by have:=hvo.2.2 r hr;rwa [Nat.zero_add]at this) hv.2.2
         have hsz2:nc*ks.length<=(vo++vs++rest).size:=by
          have a1:=hv.2.1
          have a2:=hvo.2.1
          have h5:(nc-(n+m))*ti.size+(n+m)*ti.size=nc*ti.size:=by rw[<- Nat.add_mul];congr 1;omega
          rw[Nat.add_mul]at h5
          simp;rw[hkl]at a1 a2 ⊢;omega
         obtain⟨k1,k2,k3,k4⟩:=pushed (b:=.rows .own ks (n+m) (appRows n f lo2 g)) (w':={ w.drew with heap:=w.heap.push (.cells (vo++vs++rest) e)}) H1 K M1 hGd1 (by simp[Blk.labs]) rfl rfl rfl rfl rfl
          (grown_ok (ρ:=ρ) (d:=d') (w:=w) (nc:=nc) rfl h2 hsz2 hcells)
         refine⟨_,_,_,h4,?_,by rw[upds_two];exact k1,k2,by rw[upds_two];exact k3,hkeep,updE_z _ _ _,hlab⟩
         simp only[Den]
         exact .inr ⟨_,⟨w.heap.size,0,none⟩,updE_same _ _ _,by simp,by simpa using h2,fun _=>by simp[ptr]⟩
       ·cases hr
      ·cases hr
     ·cases hr
   ·cases hr
  ·cases hr
 ·cases hr
end
end Go.Sym
namespace Go.Sym
set_option linter.unusedVariables false
set_option linter.unusedSimpArgs false
theorem int_beq (x y:Int):(x==y)=decide (x=y):=by rw[Bool.eq_iff_iff];simp
theorem lenP_eq (l:List (Nat × Nat)):lenP l=l.length:=by induction l with|nil=>rfl|cons x r ih=>simp[lenP,ih]
theorem wrap_inR {k:IntKind} {n:Int} (h:inR k n):k.wrap n=n:=by
 cases k <;>simp only[inR]at h <;>simp[IntKind.wrap,IntKind.bits,IntKind.signed] <;>omega
section
variable {ρi:Env} {P:Program} {E A:Nat->Prop} {w0:World} {ρ:Env} {F:Fr} {G:Hp} {a:Act} {w:World} {o:Oper}
theorem arith_den {wr:Bool} {k:IntKind} {n:Int} (hp:(arith wr k n).Pre):Den ρ (arith wr k n).v (.int k (k.wrap n))/\(arith wr k n).wr=[]/\(arith wr k n).v.labs=[]:=by
 unfold arith at hp ⊢
 cases wr with
 |true=>simp[Den,SV.labs]
 |false=>simp only[Res.Pre]at hp;simp[Den,SV.labs,wrap_inR hp]
theorem binI_sound {wr:Bool} {op:BinOp} {k:IntKind} {x y:Int} {r:Res} (t:Nat) (hr:binI wr op k x y=some r) (hp:r.Pre):
  ∃ u,(binOp op t (.int k x) (.int k y)).run P w= .ok u w/\Den ρ r.v u/\r.wr=[]/\r.v.labs=[]:=by
 unfold binI at hr
 split at hr
 ·cases hr;exact⟨_,by simp[binOp,Op.intArith],arith_den hp⟩
 ·cases hr;exact⟨_,by simp[binOp,Op.intArith],arith_den hp⟩
 ·cases hr;exact⟨_,by simp[binOp,Op.intArith],arith_den hp⟩
 ·split at hr
  ·cases hr
   simp only[Res.Pre]at hp
   refine⟨.int k (k.wrap (x.tdiv y)),?_,by simp[Den],rfl,by simp[SV.labs]⟩
   simp[binOp,Op.intDiv,hp]
  ·cases hr
   simp only[Res.Pre]at hp
   obtain⟨h1,h2,h3⟩:=hp
   have e:x.tdiv y=x / y:=Int.tdiv_eq_ediv_of_nonneg h1
   refine⟨.int k (k.wrap (x.tdiv y)),?_,?_,rfl,by simp[SV.labs]⟩
   ·have:y≠0:=by omega
    simp[binOp,Op.intDiv,this]
   ·simp only[Den];rw[e,wrap_inR h3]
 ·split at hr
  ·cases hr
   simp only[Res.Pre]at hp
   refine⟨.int k (x.tmod y),?_,by simp[Den],rfl,by simp[SV.labs]⟩
   simp[binOp,Op.intDiv,hp]
  ·cases hr
   simp only[Res.Pre]at hp
   obtain⟨h1,h2⟩:=hp
   have e:x.tmod y=x%y:=Int.tmod_eq_emod_of_nonneg h1
   refine⟨.int k (x.tmod y),?_,?_,rfl,by simp[SV.labs]⟩
   ·have:y≠0:=by omega
    simp[binOp,Op.intDiv,this]
   ·simp only[Den];rw[e]
 ·cases hr;exact⟨_,by simp only[binOp,ne_eq,not_true_eq_false,if_false,Op.intBits];rfl,by simp only[Den];rfl,rfl,by simp[SV.labs]⟩
 ·cases hr;exact⟨_,by simp only[binOp,ne_eq,not_true_eq_false,if_false,Op.intBits];rfl,by simp only[Den];rfl,rfl,by simp[SV.labs]⟩
 ·cases hr;exact⟨_,by simp only[binOp,ne_eq,not_true_eq_false,if_false,Op.intBits];rfl,by simp only[Den];rfl,rfl,by simp[SV.labs]⟩
 ·cases hr;exact⟨_,by simp only[binOp,ne_eq,not_true_eq_false,if_false,Op.intBits];rfl,by simp only[Den];rfl,rfl,by simp[SV.labs]⟩
 ·cases hr;exact⟨_,by simp[binOp,Op.intCmp];rfl,by simp[Den,int_beq],rfl,by simp[SV.labs]⟩
 ·cases hr;exact⟨_,by simp[binOp,Op.intCmp];rfl,by simp[Den,bne,int_beq],rfl,by simp[SV.labs]⟩
 ·cases hr;exact⟨_,by simp[binOp,Op.intCmp];rfl,by simp[Den],rfl,by simp[SV.labs]⟩
 ·cases hr;exact⟨_,by simp[binOp,Op.intCmp];rfl,by simp[Den],rfl,by simp[SV.labs]⟩
 ·cases hr;exact⟨_,by simp[binOp,Op.intCmp];rfl,by simp[Den],rfl,by simp[SV.labs]⟩
 ·cases hr;exact⟨_,by simp[binOp,Op.intCmp];rfl,by simp[Den],rfl,by simp[SV.labs]⟩
 ·cases hr
theorem shiftI_sound {op:BinOp} {k yk:IntKind} {x y:Int} {r:Res} (t:Nat) (hr:shiftI op k x y=some r) (hp:r.Pre):
  ∃ u,(binOp op t (.int k x) (.int yk y)).run P w= .ok u w/\Den ρ r.v u/\r.wr=[]/\r.v.labs=[]:=by
 unfold shiftI at hr
 split at hr
 ·cases hr
  simp only[Res.Pre]at hp
  have:¬ y<0:=by omega
  exact⟨_,by simp[binOp,Op.shift,this];rfl,by simp[Den],rfl,by simp[SV.labs]⟩
 ·cases hr
  simp only[Res.Pre]at hp
  have:¬ y<0:=by omega
  exact⟨_,by simp[binOp,Op.shift,this];rfl,by simp[Den],rfl,by simp[SV.labs]⟩
 ·cases hr
theorem binS_sound {op:BinOp} {x y:ByteArray} {r:Res} (t:Nat) (hr:binS op x y=some r) (hp:r.Pre):
  ∃ u,(binOp op t (.string x) (.string y)).run P w= .ok u w/\Den ρ r.v u/\r.wr=[]/\r.v.labs=[]:=by
 unfold binS at hr
 split at hr
 ·cases hr
  simp only[Res.Pre]at hp
  have:¬ ((x.size+y.size:Nat):Int)>IntKind.i64.max:=by
   have:IntKind.i64.max=9223372036854775807:=rfl
   omega
  have h2:¬ (IntKind.i64.max<(x.size:Int)+(y.size:Int)):=by
   have:IntKind.i64.max=9223372036854775807:=rfl
   omega
  exact⟨.string (x++y),by simp[binOp,Op.stringOp,h2];omega,by simp[Den],rfl,by simp[SV.labs]⟩
 ·cases hr;exact⟨_,by simp[binOp,Op.stringOp];rfl,by simp[Den],rfl,by simp[SV.labs]⟩
 ·cases hr;exact⟨_,by simp[binOp,Op.stringOp];rfl,by simp[Den],rfl,by simp[SV.labs]⟩
 ·cases hr;exact⟨_,by simp[binOp,Op.stringOp];rfl,by simp[Den],rfl,by simp[SV.labs]⟩
 ·cases hr;exact⟨_,by simp[binOp,Op.stringOp];rfl,by simp[Den],rfl,by simp[SV.labs]⟩
 ·cases hr;exact⟨_,by simp[binOp,Op.stringOp];rfl,by simp[Den],rfl,by simp[SV.labs]⟩
 ·cases hr;exact⟨_,by simp[binOp,Op.stringOp];rfl,by simp[Den],rfl,by simp[SV.labs]⟩
 ·cases hr
theorem run_equalIn_map_nil (d:Nat) {t k e:Nat} (h:P.underlying t=some (.map k e)) (x:Nat):(Op.equalIn (d+1) t (.map (some x)) (.map none)).run P w= .ok false w:=by
 simp only[Op.equalIn,Sem.run_bind,run_underlying h,Result.andThen_ok]
 rfl
theorem run_eql_map (t:Nat) (x y:Option Nat):(binOp .eql t (.map x) (.map y)).run P w=((Op.equalIn 10000 t (.map x) (.map y)).run P w).andThen fun b w'=>.ok (.bool b) w':=by
 simp only[binOp]
 simp[Op.equal,Op.maxDepth]
theorem run_neq_map (t:Nat) (x y:Option Nat):(binOp .neq t (.map x) (.map y)).run P w=((Op.equalIn 10000 t (.map x) (.map y)).run P w).andThen fun b w'=>.ok (.bool (!b)) w':=by
 simp only[binOp]
 simp[Op.equal,Op.maxDepth]
theorem run_equalIn_func_nil (d:Nat) {t:Nat} {ps rs:Array Nat} {vr:Bool} (h:P.underlying t=some (.func ps rs vr)) (f:Fn) (b c:Array Value):(Op.equalIn (d+1) t (.func f b c) .nilFunc).run P w= .ok false w:=by
 simp only[Op.equalIn,Sem.run_bind,run_underlying h,Result.andThen_ok]
 rfl
theorem run_eql_func (t:Nat) (f:Fn) (b c:Array Value):(binOp .eql t (.func f b c) .nilFunc).run P w=((Op.equalIn 10000 t (.func f b c) .nilFunc).run P w).andThen fun b w'=>.ok (.bool b) w':=by
 simp only[binOp]
 simp[Op.equal,Op.maxDepth]
theorem run_neq_func (t:Nat) (f:Fn) (b c:Array Value):(binOp .neq t (.func f b c) .nilFunc).run P w=((Op.equalIn 10000 t (.func f b c) .nilFunc).run P w).andThen fun b w'=>.ok (.bool (!b)) w':=by
 simp only[binOp]
 simp[Op.equal,Op.maxDepth]
theorem guard_plain (op:BinOp) (t:Nat) (x y:Operand) {u v:Value} (h:(∀ cs,u≠ .agg cs)/\u≠ .nilIface):(eqGuard op t x y u v).run P w= .ok () w:=by
 simp only[eqGuard,Sem.run_ite]
 split
 ·rw[if_neg (by simp)]
  (cases u with
   |agg cs=>exact absurd rfl (h.1 cs)
   |nilIface=>exact absurd rfl h.2
   |_=>cases v <;>rfl)
 ·rw[if_neg (by simp)]
  (cases u with
   |agg cs=>exact absurd rfl (h.1 cs)
   |nilIface=>exact absurd rfl h.2
   |_=>cases v <;>rfl)
 ·rw[if_pos (by simp)]
  rfl
theorem tdOk_shape {T:List (Nat × TI)} (hT:TOk P T) {t:Nat} {ti:TI} (h:tget T t=some ti):∃ d,P.underlying t=some d/\tdOk ti.d d=true:=(hT _ _ h).d
theorem eqFields_run {T:List (Nat × TI)} (hT:TOk P T) {xs ys:Array Value} {d:Nat}:∀(gs:List Field) (n:Nat) (as bs:List SV) (e:Bool),
  isAllInt T (gs.map fun f=>(f.offset,f.type)) n=true->(∀ f∈gs,f.name≠ "_")->DenL ρ as (xs.toList.drop n)->DenL ρ bs (ys.toList.drop n)->eqCs as bs=some e->as.length=gs.length->
  (Op.eqFields (d+1) xs ys gs).run P w= .ok e w
 | [],n,as,bs,e,_,_,_,_,he,hl=>by
  cases as with
  |nil=>cases bs with
   |nil=>simp only[eqCs,Option.some.injEq]at he;subst he;rfl
   |cons=>simp[eqCs]at he
  |cons=>simp at hl
 |f::gs,n,as,bs,e,hi,hn,ha,hb,he,hl=>by
  cases as with
  |nil=>simp at hl
  |cons x as=>cases bs with
   |nil=>simp[eqCs]at he
   |cons y bs=>
    simp only[List.map_cons,isAllInt]at hi
    split at hi
    ·rename_i hoff
     have hoff:=Nat.eq_of_beq_eq_true hoff
     split at hi
     ·rename_i k s1 s2 s3 hti
      have hnm:=hn f (by simp)
      have hTi:=hT _ _ hti
      obtain⟨dd,hd1,hd2⟩:=hTi.d
      have hu:P.underlying f.type=some (.int k):=by
       cases dd <;>simp only[tdOk]at hd2 <;>try cases hd2
       rw[hd1,IntKind.same_iff.1 hd2]
      unfold eqCs at he
      split at he
      ·rename_i q1 q2 h1 h2
       cases he
       cases hxd:xs.toList.drop n with
       |nil=>rw[hxd]at ha;simp[DenL]at ha
       |cons u us=>cases hyd:ys.toList.drop n with
        |nil=>rw[hyd]at hb;simp[DenL]at hb
        |cons v vs=>
         rw[hxd,DenL_cons]at ha
         rw[hyd,DenL_cons]at hb
         have hu0:xs[n]? =some u:=by
          have h0:(xs.toList.drop n)[0]? =some u:=by rw[hxd];rfl
          rw[List.getElem?_drop]at h0
          simpa using h0
         have hv0:ys[n]? =some v:=by
          have h0:(ys.toList.drop n)[0]? =some v:=by rw[hyd];rfl
          rw[List.getElem?_drop]at h0
          simpa using h0
         have hus:us=xs.toList.drop (n+1):=by
          have:=congrArg List.tail hxd;simpa using this.symm
         have hvs:vs=ys.toList.drop (n+1):=by
          have:=congrArg List.tail hyd;simpa using this.symm
         unfold eqC at h1
         split at h1
         ·rename_i k1 a1 k2 b1
          split at h1
          ·rename_i hk
           cases h1
           have:=IntKind.same_iff.1 hk
           subst this
           have hx1:=ha.1
           have hy1:=hb.1
           simp only[Den]at hx1 hy1
           subst hx1;subst hy1
           have hpa:∀(zs:Array Value) (z:Value),zs[n]? =some z->(part f.type zs f.offset).run P w= .ok z w:=by
            intro zs z hz
            have:(TI.mk (.int k) s1 s2 s3).isAgg=false:=rfl
            simp only[part,Sem.run_bind,run_isAgg hTi,Result.andThen_ok,this,Bool.false_eq_true,if_false,hoff,hz,Sem.run_pure]
           simp only[Op.eqFields,if_pos hnm,Sem.run_bind,hpa xs _ hu0,hpa ys _ hv0,Result.andThen_ok,run_equalIn_int _ _ _ _ _ _ _ hu]
           have hrec:=eqFields_run (d:=d) hT gs (n+1) as bs q2 hi (fun g hg=>hn g (by simp[hg])) (hus▸ha.2) (hvs▸hb.2) h2 (by simpa using hl)
           by_cases hab:a1=b1
           ·subst hab
            simp only[beq_self_eq_true,Bool.not_true,Bool.false_eq_true,if_false,decide_true,Bool.true_and]
            exact hrec
           ·have hb':(a1==b1)=false:=by simp[hab]
            simp[hb',hab]
          ·cases h1
         ·cases h1
      ·cases he
     ·cases hi
    ·cases hi
theorem run_equalIn_ptr_nil (d:Nat) {t e:Nat} (h:P.underlying t=some (.pointer e)) (x:Addr):(Op.equalIn (d+1) t (.pointer (some x)) (.pointer none)).run P w= .ok false w:=by
 simp only[Op.equalIn,Sem.run_bind,run_underlying h,Result.andThen_ok]
 rfl
theorem run_equalIn_nil_ptr (d:Nat) {t e:Nat} (h:P.underlying t=some (.pointer e)) (x:Addr):(Op.equalIn (d+1) t (.pointer none) (.pointer (some x))).run P w= .ok false w:=by
 simp only[Op.equalIn,Sem.run_bind,run_underlying h,Result.andThen_ok]
 rfl
theorem run_equalIn_nil_nil (d:Nat) {t e:Nat} (h:P.underlying t=some (.pointer e)):(Op.equalIn (d+1) t (.pointer none) (.pointer none)).run P w= .ok true w:=by
 simp only[Op.equalIn,Sem.run_bind,run_underlying h,Result.andThen_ok]
 rfl
theorem run_eql_ptr (t:Nat) (x y:Option Addr):(binOp .eql t (.pointer x) (.pointer y)).run P w=((Op.equalIn 10000 t (.pointer x) (.pointer y)).run P w).andThen fun b w'=>.ok (.bool b) w':=by
 simp only[binOp]
 simp[Op.equal,Op.maxDepth]
theorem run_neq_ptr (t:Nat) (x y:Option Addr):(binOp .neq t (.pointer x) (.pointer y)).run P w=((Op.equalIn 10000 t (.pointer x) (.pointer y)).run P w).andThen fun b w'=>.ok (.bool (!b)) w':=by
 simp only[binOp]
 simp[Op.equal,Op.maxDepth]
theorem arr_loop1 {e:Nat} {k:IntKind} (d:Nat) (hu:P.underlying e=some (.int k)) (xs ys:Array Value) (a b:Nat->Int)
  (hp:∀(zs:Array Value) (r:Nat) (z:Value),zs[r]? =some z->(part e zs r).run P w= .ok z w):∀(m s:Nat),(∀ r,s<=r->r<s+m->xs[r]? =some (.int k (a r))/\ys[r]? =some (.int k (b r)))->
  (forIn (List.range' s m) ((none : Option Bool), ()) fun i __s => do
          let __do_lift <- part e xs (i*1)
          let __do_lift_1 <- part e ys (i*1)
          let __do_lift <- Op.equalIn (d+1) e __do_lift __do_lift_1
          if(!__do_lift)=true then pure (ForInStep.done (some false,()))else pure (ForInStep.yield (none,())):Sem (Option Bool × Unit)).run P w=
   .ok (if ∀ r,r<m->a (s+r)=b (s+r)then(none,())else(some false,())) w
 |0,s,_=>by
  rw[if_pos (fun r h1=>by omega)]
  simp[Sem.run_pure]
 |m+1,s,h=>by
  obtain⟨h1,h2⟩:=h s (Nat.le_refl _) (by omega)
  rw[List.range'_succ,List.forIn_cons]
  simp only[Sem.run_bind,Nat.mul_one,hp xs s _ h1,hp ys s _ h2,Result.andThen_ok,run_equalIn_int _ _ _ _ _ _ _ hu]
  by_cases hab:a s=b s
  ·have hb:(a s==b s)=true:=by simp[hab]
   simp only[hb,Bool.not_true,Bool.false_eq_true,if_false,Sem.run_pure,Result.andThen_ok]
   have ih:=arr_loop1 d hu xs ys a b hp m (s+1) (fun r q1 q2=>h r (by omega) (by omega))
   simp only[Nat.mul_one]at ih
   rw[ih]
   congr 1
   by_cases hh:∀ r,r<m->a (s+1+r)=b (s+1+r)
   ·rw[if_pos hh,if_pos (fun r q1=>by
     cases r with
     |zero=>exact hab
     |succ r=>have:=hh r (by omega);rwa [show s+(r+1)=s+1+r by omega])]
   ·rw[if_neg hh,if_neg (fun q=>hh fun r q1=>by have:=q (r+1) (by omega);rwa [show s+(r+1)=s+1+r by omega]at this)]
  ·have hb:(a s==b s)=false:=by simp[hab]
   simp only[hb,Bool.not_false,if_true,Sem.run_pure,Result.andThen_ok]
   rw[if_neg (fun q=>hab (q 0 (by omega)))]
theorem arr_loop {e t:Nat} {k:IntKind} (d:Nat) (hu:P.underlying e=some (.int k)) (xs ys:Array Value) (a b:Nat->Int) (n:Nat)
  (hp:∀(zs:Array Value) (r:Nat) (z:Value),zs[r]? =some z->(part e zs r).run P w= .ok z w) (ha:∀ r,r<n->xs[r]? =some (.int k (a r))) (hb:∀ r,r<n->ys[r]? =some (.int k (b r)))
  (h:P.underlying t=some (.array n e)) (hs:(sizeOf e).run P w= .ok 1 w):(Op.equalIn (d+2) t (.agg xs) (.agg ys)).run P w= .ok (decide (∀ r,r<n->a r=b r)) w:=by
 rw[Op.equalIn]
 simp only[Sem.run_bind,run_underlying h,Result.andThen_ok,hs]
 simp only[Std.Legacy.Range.forIn_eq_forIn_range']
 have hsz:([:n]:Std.Legacy.Range).size=n:=by simp[Std.Legacy.Range.size]
 rw[hsz,arr_loop1 d hu xs ys a b hp n 0 (fun r _ q=>⟨ha r (by omega),hb r (by omega)⟩)]
 simp only[Result.andThen_ok]
 by_cases hh:∀ r,r<n->a r=b r
 ·rw[if_pos (fun r q=>by rw[Nat.zero_add];exact hh r q),decide_eq_true hh];simp[Sem.run_pure]
 ·rw[if_neg (fun q=>hh fun r hr=>by have:=q r hr;rwa [Nat.zero_add]at this),decide_eq_false hh];simp[Sem.run_pure]
theorem run_equalIn_sl_nil (w:World) (d:Nat) (t e:TypeId) (a:Option Addr) (l c:Nat) (h:P.underlying t=some (.slice e)):(Op.equalIn (d+1) t (.slice a l c) (.slice none 0 0)).run P w= .ok a.isNone w:=by
 cases a <;>simp[Op.equalIn,run_underlying h]
theorem run_eql_sl (w:World) (t e:TypeId) (a:Option Addr) (n c:Nat) (h:P.underlying t=some (.slice e)):(binOp .eql t (.slice a n c) (.slice none 0 0)).run P w= .ok (.bool a.isNone) w:=by
 simp only[binOp]
 simp[Op.equal,Op.maxDepth,run_equalIn_sl_nil w 9999 t e a n c h]
theorem run_neq_sl (w:World) (t e:TypeId) (a:Option Addr) (n c:Nat) (h:P.underlying t=some (.slice e)):(binOp .neq t (.slice a n c) (.slice none 0 0)).run P w= .ok (.bool (!a.isNone)) w:=by
 simp only[binOp]
 simp[Op.equal,Op.maxDepth,run_equalIn_sl_nil w 9999 t e a n c h]
theorem eqCs_ints {k:IntKind}:∀ {xs ys:List SV} {b:Bool},eqCs xs ys=some b->allKi k xs=true->allKi k ys=true->∃ as bs:List Int,xs=as.map (SV.i k)/\ys=bs.map (SV.i k)/\as.length=bs.length/\b=decide (∀ r,r<as.length->as.getD r 0=bs.getD r 0)
 | [],ys,b,h,h1,h2=>by
  cases ys with
  |nil=>simp only[eqCs,Option.some.injEq]at h;subst h;exact⟨[],[],rfl,rfl,rfl,by simp⟩
  |cons=>simp[eqCs]at h
 |x::xs,ys,b,h,h1,h2=>by
  cases ys with
  |nil=>simp[eqCs]at h
  |cons y ys=>
   cases x <;>simp only[allKi,Bool.false_eq_true]at h1
   cases y <;>simp only[allKi,Bool.false_eq_true]at h2
   rename_i k1 a k2 c
   split at h1
   ·rename_i q1
    split at h2
    ·rename_i q2
     have e1:=IntKind.same_iff.1 q1
     have e2:=IntKind.same_iff.1 q2
     subst e1;subst e2
     unfold eqCs at h
     split at h
     ·rename_i u v g1 g2
      cases h
      unfold eqC at g1
      simp only[q1,Option.some.injEq]at g1
      subst g1
      obtain⟨as,bs,i1,i2,i3,i4⟩:=eqCs_ints g2 h1 h2
      refine⟨a::as,c::bs,by rw[i1];rfl,by rw[i2];rfl,by simp[i3],?_⟩
      rw[i4,Bool.eq_iff_iff]
      simp only[Bool.and_eq_true,decide_eq_true_eq,List.length_cons]
      constructor
      ·rintro⟨j1,j2⟩ r hr
       cases r with
       |zero=>simpa using j1
       |succ r=>simpa using j2 r (by omega)
      ·intro j
       exact⟨by simpa using j 0 (by omega),fun r hr=>by simpa using j (r+1) (by omega)⟩
     ·cases h
    ·cases h2
   ·cases h1
theorem denL_ints {ρ:Env} {k:IntKind}:∀ {as:List Int} {l:List Value},DenL ρ (as.map (SV.i k)) l->l=as.map (Value.int k)
 | [],l,h=>by cases l with
  |nil=>rfl
  |cons=>simp[DenL]at h
 |a::as,l,h=>by cases l with
  |nil=>simp[DenL]at h
  |cons v l=>
   rw[List.map_cons,DenL_cons]at h
   have h1:=h.1
   simp only[Den]at h1
   rw[h1,denL_ints h.2,List.map_cons]
theorem eqArrV_sound {T:List (Nat × TI)} (hT:TOk P T) {op:BinOp} {t m e s1 s2:Nat} {s3:List SV} (hti:tget T t=some ⟨.arr m e,s1,s2,s3⟩) {xs ys:List SV} {r:Res} (hr:eqArrV T op m e xs ys=some r) {us vs:Array Value}
  (hx:DenL ρ xs us.toList) (hy:DenL ρ ys vs.toList) (xo yo:Operand):∃ z,(do eqGuard op t xo yo (.agg us) (.agg vs);binOp op t (.agg us) (.agg vs):Sem Value).run P w= .ok z w/\Den ρ r.v z/\r.wr=[]/\r.v.labs=[]:=by
 unfold eqArrV at hr
 split at hr
 ·rename_i k q1 q2 q3 hte
  split at hr
  ·rename_i b he hk1 hk2 hsz1 hlm
   obtain⟨as,bs,i1,i2,i3,i4⟩:=eqCs_ints he hk1 hk2
   subst i1;subst i2
   have en:as.length=m:=by have:=Nat.eq_of_beq_eq_true hlm;rw[lenL_eq]at this;simpa using this
   subst en
   have hTi:=hT _ _ hti
   have hTe:=hT _ _ hte
   obtain⟨dd,hd1,hd2⟩:=hTi.d
   have hu:P.underlying t=some (.array as.length e):=by
    cases dd <;>simp only[tdOk]at hd2 <;>try cases hd2
    rw[Bool.and_eq_true]at hd2
    rw[hd1,Nat.eq_of_beq_eq_true hd2.1,Nat.eq_of_beq_eq_true hd2.2]
   obtain⟨d2,hd3,hd4⟩:=hTe.d
   have hue:P.underlying e=some (.int k):=by
    cases d2 <;>simp only[tdOk]at hd4 <;>try cases hd4
    rw[hd3,IntKind.same_iff.1 hd4]
   have hs:=hTi.s
   unfold structOk at hs
   rw[hu]at hs
   simp only[hue]at hs
   have hg':P.eqGuardType P.depth t=false:=by simpa using hs
   have e1:=denL_ints hx
   have e2:=denL_ints hy
   have cell:∀(zs:Array Value) (l:List Int),zs.toList=l.map (Value.int k)->∀ r,r<l.length->zs[r]? =some (.int k (l.getD r 0)):=by
    intro zs l h r hr
    rw[<- Array.getElem?_toList,h,List.getElem?_map,List.getElem?_eq_getElem hr]
    simp[List.getD_eq_getElem?_getD,hr]
   have hpa:∀(zs:Array Value) (r:Nat) (z:Value),zs[r]? =some z->(part e zs r).run P w= .ok z w:=by
    intro zs r z hz
    have:(TI.mk (.int k) q1 q2 q3).isAgg=false:=rfl
    simp only[part,Sem.run_bind,run_isAgg hTe,Result.andThen_ok,this,Bool.false_eq_true,if_false,hz,Sem.run_pure]
   have hsz:(sizeOf e).run P w= .ok 1 w:=by
    rw[run_sizeOf hTe]
    have:q1=1:=Nat.eq_of_beq_eq_true hsz1
    rw[this]
   have heq:=arr_loop 9998 hue us vs (fun r=>as.getD r 0) (fun r=>bs.getD r 0) as.length hpa (cell us as e1) (fun r hr=>cell vs bs e2 r (by omega)) hu hsz
   rw[<- i4]at heq
   split at hr
   ·cases hr
    exact⟨.bool _,by rw[Sem.run_bind,run_eqGuard_agg _ _ _ _ _ _ _ hg',Result.andThen_ok,run_eql_struct,heq];rfl,by simp[Den],rfl,by simp[SV.labs]⟩
   ·cases hr
    exact⟨.bool _,by rw[Sem.run_bind,run_eqGuard_agg _ _ _ _ _ _ _ hg',Result.andThen_ok,run_neq_struct,heq];rfl,by simp[Den],rfl,by simp[SV.labs]⟩
   ·cases hr
  ·cases hr
 ·cases hr
theorem evBin_sound {T:List (Nat × TI)} (hT:TOk P T) {wr:Bool} {op:BinOp} {t:Nat} {x y:SV} {r:Res} (hr:evBin T wr op t x y=some r) (hp:r.Pre) {u v:Value} (hx:Den ρ x u) (hy:Den ρ y v) (xo yo:Operand):
  ∃ z,(do eqGuard op t xo yo u v;binOp op t u v:Sem Value).run P w= .ok z w/\Den ρ r.v z/\r.wr=[]/\r.v.labs=[]:=by
 have hbool:∀ {s b:Nat} {z:List SV},tget T t=some ⟨.bool,s,b,z⟩->P.underlying t=some .bool:=by
  intro s b z h
  obtain⟨dd,h1,h2⟩:=tdOk_shape hT h
  cases dd <;>simp only[tdOk]at h2 <;>first|exact h1|cases h2
 have hptr:∀ {e s b:Nat} {z:List SV},tget T t=some ⟨.ptr e,s,b,z⟩->P.underlying t=some (.pointer e):=by
  intro e s b z h
  obtain⟨dd,h1,h2⟩:=tdOk_shape hT h
  cases dd <;>simp only[tdOk]at h2 <;>try cases h2
  rw[h1,Nat.eq_of_beq_eq_true h2]
 have hsl:∀ {e s b:Nat} {z:List SV},tget T t=some ⟨.slice e,s,b,z⟩->P.underlying t=some (.slice e):=by
  intro e s b z h
  obtain⟨dd,h1,h2⟩:=tdOk_shape hT h
  cases dd <;>simp only[tdOk]at h2 <;>try cases h2
  rw[h1,Nat.eq_of_beq_eq_true h2]
 have hmap:∀ {k e s b:Nat} {z:List SV},tget T t=some ⟨.map k e,s,b,z⟩->P.underlying t=some (.map k e):=by
  intro k e s b z h
  obtain⟨dd,h1,h2⟩:=tdOk_shape hT h
  cases dd <;>simp only[tdOk]at h2 <;>try cases h2
  rw[Bool.and_eq_true]at h2
  rw[h1,Nat.eq_of_beq_eq_true h2.1,Nat.eq_of_beq_eq_true h2.2]
 unfold evBin at hr
 split at hr
 ·rename_i k1 a1 k2 b1
  simp only[Den]at hx hy
  subst hx;subst hy
  split at hr
  ·rename_i hk
   have:=IntKind.same_iff.1 hk
   subst this
   split at hr
   ·rename_i r' hb
    cases hr
    obtain⟨z,h1,h2,h3,h4⟩:=binI_sound (P:=P) (w:=w) (ρ:=ρ) t hb hp
    exact⟨z,by rw[Sem.run_bind,guard_plain _ _ _ _ ⟨by simp,by simp⟩];exact h1,h2,h3,h4⟩
   ·obtain⟨z,h1,h2,h3,h4⟩:=shiftI_sound (P:=P) (w:=w) (ρ:=ρ) (yk:=k1) t hr hp
    exact⟨z,by rw[Sem.run_bind,guard_plain _ _ _ _ ⟨by simp,by simp⟩];exact h1,h2,h3,h4⟩
  ·obtain⟨z,h1,h2,h3,h4⟩:=shiftI_sound (P:=P) (w:=w) (ρ:=ρ) (yk:=k2) t hr hp
   exact⟨z,by rw[Sem.run_bind,guard_plain _ _ _ _ ⟨by simp,by simp⟩];exact h1,h2,h3,h4⟩
 ·split at hr
  ·simp only[Den]at hx hy
   subst hx;subst hy
   obtain⟨z,h1,h2,h3,h4⟩:=binS_sound (P:=P) (w:=w) (ρ:=ρ) t hr hp
   exact⟨z,by rw[Sem.run_bind,guard_plain _ _ _ _ ⟨by simp,by simp⟩];exact h1,h2,h3,h4⟩
  ·cases hr
 ·rename_i l n
  split at hr
  ·rename_i e s1 s2 s3 hti
   have hu:=hptr hti
   simp only[Den]at hx hy
   subst hy
   rcases hx with⟨rfl,rfl⟩|⟨pl,hn,_,rfl⟩
   ·split at hr
    ·cases hr
     exact⟨.bool true,by rw[Sem.run_bind,guard_plain _ _ _ _ ⟨by simp,by simp⟩];rw[Result.andThen_ok,run_eql_ptr,run_equalIn_nil_nil 9999 hu];rfl,by simp[Den],rfl,by simp[SV.labs]⟩
    ·cases hr
     exact⟨.bool false,by rw[Sem.run_bind,guard_plain _ _ _ _ ⟨by simp,by simp⟩];rw[Result.andThen_ok,run_neq_ptr,run_equalIn_nil_nil 9999 hu];rfl,by simp[Den],rfl,by simp[SV.labs]⟩
    ·cases hr
   ·split at hr
    ·cases hr
     exact⟨.bool false,by rw[Sem.run_bind,guard_plain _ _ _ _ ⟨by simp,by simp⟩];rw[Result.andThen_ok,run_eql_ptr,run_equalIn_ptr_nil 9999 hu];rfl,by simp[Den,hn],rfl,by simp[SV.labs]⟩
    ·cases hr
     exact⟨.bool true,by rw[Sem.run_bind,guard_plain _ _ _ _ ⟨by simp,by simp⟩];rw[Result.andThen_ok,run_neq_ptr,run_equalIn_ptr_nil 9999 hu];rfl,by simp[Den,hn],rfl,by simp[SV.labs]⟩
    ·cases hr
  ·cases hr
 ·rename_i l
  split at hr
  ·rename_i k e s1 s2 s3 hti
   have hu:=hmap hti
   simp only[Den]at hx hy
   obtain⟨pl,_,rfl⟩:=hx
   subst hy
   split at hr
   ·cases hr
    exact⟨.bool false,by rw[Sem.run_bind,guard_plain _ _ _ _ ⟨by simp,by simp⟩];rw[Result.andThen_ok,run_eql_map,run_equalIn_map_nil 9999 hu];rfl,by simp[Den],rfl,by simp[SV.labs]⟩
   ·cases hr
    exact⟨.bool true,by rw[Sem.run_bind,guard_plain _ _ _ _ ⟨by simp,by simp⟩];rw[Result.andThen_ok,run_neq_map,run_equalIn_map_nil 9999 hu];rfl,by simp[Den],rfl,by simp[SV.labs]⟩
   ·cases hr
  ·cases hr
 ·split at hr
  ·rename_i hti
   obtain⟨dd,hd1,hd2⟩:=tdOk_shape hT hti
   simp only[Den]at hx hy
   obtain⟨vs,rfl,_⟩:=hx
   subst hy
   cases dd <;>simp only[tdOk]at hd2 <;>try cases hd2
   split at hr
   ·cases hr
    exact⟨.bool false,by rw[Sem.run_bind,guard_plain _ _ _ _ ⟨by simp,by simp⟩];rw[Result.andThen_ok,run_eql_func,run_equalIn_func_nil 9999 hd1];rfl,by simp[Den],rfl,by simp[SV.labs]⟩
   ·cases hr
    exact⟨.bool true,by rw[Sem.run_bind,guard_plain _ _ _ _ ⟨by simp,by simp⟩];rw[Result.andThen_ok,run_neq_func,run_equalIn_func_nil 9999 hd1];rfl,by simp[Den],rfl,by simp[SV.labs]⟩
   ·cases hr
  ·cases hr
 all_goals try(
  split at hr
  ·rename_i hti
   split at hr
   ·cases hr
    simp only[Den]at hx hy
    subst hx;subst hy
    exact⟨_,by rw[Sem.run_bind,guard_plain _ _ _ _ ⟨by simp,by simp⟩];exact run_eql_bool _ _ _ _ (hbool hti),by simp[Den],rfl,by simp[SV.labs]⟩
   ·cases hr
    simp only[Den]at hx hy
    subst hx;subst hy
    exact⟨_,by rw[Sem.run_bind,guard_plain _ _ _ _ ⟨by simp,by simp⟩];exact run_neq_bool _ _ _ _ (hbool hti),by simp[Den,bne],rfl,by simp[SV.labs]⟩
   ·cases hr
  ·cases hr)
 ·split at hr
  ·rename_i e s1 s2 s3 hti
   have hu:=hptr hti
   simp only[Den]at hx hy
   obtain⟨pl,_,rfl⟩:=hx
   subst hy
   split at hr
   ·cases hr
    exact⟨.bool false,by rw[Sem.run_bind,guard_plain _ _ _ _ ⟨by simp,by simp⟩];rw[Result.andThen_ok,run_eql_ptr,run_equalIn_ptr_nil 9999 hu];rfl,by simp[Den],rfl,by simp[SV.labs]⟩
   ·cases hr
    exact⟨.bool true,by rw[Sem.run_bind,guard_plain _ _ _ _ ⟨by simp,by simp⟩];rw[Result.andThen_ok,run_neq_ptr,run_equalIn_ptr_nil 9999 hu];rfl,by simp[Den],rfl,by simp[SV.labs]⟩
   ·cases hr
  ·cases hr
 ·split at hr
  ·rename_i e s1 s2 s3 hti
   have hu:=hptr hti
   simp only[Den]at hx hy
   subst hx;subst hy
   split at hr
   ·cases hr
    exact⟨.bool true,by rw[Sem.run_bind,guard_plain _ _ _ _ ⟨by simp,by simp⟩];rw[Result.andThen_ok,run_eql_ptr,run_equalIn_nil_nil 9999 hu];rfl,by simp[Den],rfl,by simp[SV.labs]⟩
   ·cases hr
    exact⟨.bool false,by rw[Sem.run_bind,guard_plain _ _ _ _ ⟨by simp,by simp⟩];rw[Result.andThen_ok,run_neq_ptr,run_equalIn_nil_nil 9999 hu];rfl,by simp[Den],rfl,by simp[SV.labs]⟩
   ·cases hr
  ·cases hr
 ·rename_i xs ys
  split at hr
  ·rename_i fs size s2 s3 hti
   split at hr
   ·rename_i e hi he hsz
    have hTi:=hT _ _ hti
    obtain⟨dd,hd1,hd2⟩:=hTi.d
    obtain⟨gs,rfl,hfs⟩:∃ gs,dd= .struct gs/\gs.toList.map (fun f=>(f.offset,f.type))=fs:=by
     cases dd <;>simp only[tdOk]at hd2 <;>try cases hd2
     exact⟨_,rfl,of_decide_eq_true hd2⟩
    have hs:=hTi.s
    unfold structOk at hs
    rw[hd1]at hs
    rw[Bool.and_eq_true]at hs
    replace hs:=hs.2
    simp only[Bool.or_eq_true,Bool.and_eq_true]at hs
    have hall:∀(l:List (Nat × Nat)) n,isAllInt T l n=true->∀ p∈l,∃ k,P.underlying p.2=some (.int k):=by
     intro l
     induction l with
     |nil=>intro n _ p hp;simp at hp
     |cons q l ih=>
      intro n h p hp
      obtain⟨off,ft⟩:=q
      simp only[isAllInt]at h
      split at h
      ·split at h
       ·rename_i k s1 s2 s3 hq
        rcases List.mem_cons.1 hp with rfl|hp
        ·obtain⟨d3,h3,h4⟩:=tdOk_shape hT hq
         cases d3 <;>simp only[tdOk]at h4 <;>try cases h4
         exact⟨_,h3⟩
        ·exact ih (n+1) h p hp
       ·cases h
      ·cases h
    obtain⟨⟨hnames,hg⟩,hst⟩:=hs.resolve_left (by
     intro h
     rw[List.any_eq_true]at h
     obtain⟨f,hf,hf2⟩:=h
     obtain⟨k,hk⟩:=hall fs 0 hi (f.offset,f.type) (by rw[<- hfs];exact List.mem_map.2 ⟨f,hf,rfl⟩)
     simp only at hk
     rw[hk]at hf2
     cases hf2)
    simp only[Den]at hx hy
    obtain⟨us,rfl,hus⟩:=hx
    obtain⟨vs,rfl,hvs⟩:=hy
    have hfo:P.fieldsOf t=gs:=by simp[Program.fieldsOf,hd1]
    have hlen:xs.length=gs.toList.length:=by
     have h1:=Nat.eq_of_beq_eq_true hsz
     rw[lenL_eq,lenP_eq]at h1
     rw[h1,<- hfs]
     simp
    have hrun:=eqFields_run (ρ:=ρ) (w:=w) hT (d:=9998) gs.toList 0 xs ys e (by rw[hfs];exact hi) (fun f hf=>by
     have:=List.all_eq_true.1 hnames f hf
     simpa using this) (by simpa using hus) (by simpa using hvs) he hlen
    have hst':P.stoodInHeld t=false:=by simpa using hst
    have hg':P.eqGuardType P.depth t=false:=by simpa using hg
    have heq:(Op.equalIn 10000 t (.agg us) (.agg vs)).run P w= .ok e w:=by
     rw[show(10000:Nat)=9999+1 from rfl,run_equalIn_agg w 9999 t us vs (by rw[hfo];exact hd1) hst',hfo]
     exact hrun
    split at hr
    ·cases hr
     exact⟨.bool e,by rw[Sem.run_bind,run_eqGuard_agg _ _ _ _ _ _ _ hg',Result.andThen_ok,run_eql_struct,heq];rfl,by simp[Den],rfl,by simp[SV.labs]⟩
    ·cases hr
     exact⟨.bool (!e),by rw[Sem.run_bind,run_eqGuard_agg _ _ _ _ _ _ _ hg',Result.andThen_ok,run_neq_struct,heq];rfl,by simp[Den],rfl,by simp[SV.labs]⟩
    ·cases hr
   ·cases hr
  ·rename_i m e s1 s2 s3 hti
   simp only[Den]at hx hy
   obtain⟨us,rfl,hus⟩:=hx
   obtain⟨vs,rfl,hvs⟩:=hy
   exact eqArrV_sound hT hti hr hus hvs xo yo
  ·cases hr
 ·rename_i xs ks n g
  split at hr
  ·rename_i m e s1 s2 s3 ys hti hc
   have hy':=cells_den (x:=.arr ks n g) hc hy
   simp only[Den]at hx hy
   obtain⟨us,rfl,hus⟩:=hx
   obtain⟨vs,rfl,_,_⟩:=hy
   exact eqArrV_sound hT hti hr hus hy' xo yo
  ·cases hr
 ·rename_i ks n f ys
  split at hr
  ·rename_i m e s1 s2 s3 xs hti hc
   have hx':=cells_den (x:=.arr ks n f) hc hx
   simp only[Den]at hx hy
   obtain⟨us,rfl,_,_⟩:=hx
   obtain⟨vs,rfl,hvs⟩:=hy
   exact eqArrV_sound hT hti hr hx' hvs xo yo
  ·cases hr
 ·rename_i l n l' n'
  split at hr
  ·rename_i e s1 s2 s3 hti
   have hu:=hptr hti
   have fin:∀(a b:Option Addr),u= .pointer a->v= .pointer b->(a=none↔n=0)->(b=none↔n'=0)->(n=0∨n'=0)->(Op.equalIn 10000 t (.pointer a) (.pointer b)).run P w= .ok (decide (n=0/\n'=0)) w:=by
    intro a b _ _ h1 h2 h3
    cases a with
    |none=>
     cases b with
     |none=>
      have e1:=h1.1 rfl
      have e2:=h2.1 rfl
      rw[run_equalIn_nil_nil 9999 hu];simp[e1,e2]
     |some b=>
      have e1:=h1.1 rfl
      have e2:n'≠0:=fun q=>by have:=h2.2 q;cases this
      rw[run_equalIn_nil_ptr 9999 hu];simp[e1,e2]
    |some a=>
     have e1:n≠0:=fun q=>by have:=h1.2 q;cases this
     have e2:=h3.resolve_left e1
     have:=h2.2 e2
     subst this
     rw[run_equalIn_ptr_nil 9999 hu];simp[e1]
   have hxa:∃ a:Option Addr,u= .pointer a/\(a=none↔n=0):=by
    simp only[Den]at hx
    rcases hx with⟨h1,h2⟩|⟨pl,h1,_,h2⟩
    ·exact⟨none,h2,by simp[h1]⟩
    ·exact⟨_,h2,by simp[h1]⟩
   have hya:∃ a:Option Addr,v= .pointer a/\(a=none↔n'=0):=by
    simp only[Den]at hy
    rcases hy with⟨h1,h2⟩|⟨pl,h1,_,h2⟩
    ·exact⟨none,h2,by simp[h1]⟩
    ·exact⟨_,h2,by simp[h1]⟩
   obtain⟨a,rfl,ha⟩:=hxa
   obtain⟨b,rfl,hb⟩:=hya
   split at hr
   ·cases hr
    exact⟨.bool _,by rw[Sem.run_bind,guard_plain _ _ _ _ ⟨by simp,by simp⟩];rw[Result.andThen_ok,run_eql_ptr,fin a b rfl rfl ha hb hp];rfl,by simp[Den],rfl,by simp[SV.labs]⟩
   ·cases hr
    exact⟨.bool _,by rw[Sem.run_bind,guard_plain _ _ _ _ ⟨by simp,by simp⟩];rw[Result.andThen_ok,run_neq_ptr,fin a b rfl rfl ha hb hp];rfl,by simp[Den],rfl,by simp[SV.labs]⟩
   ·cases hr
  ·cases hr
 ·rename_i ks n f ks' n' g
  split at hr
  ·rename_i m e s1 s2 s3 hti
   split at hr
   ·rename_i k q1 q2 q3 k1 k2 hte hnm hnm'
    split at hr
    ·rename_i hk1 hk2 hsz1
     have e1:=IntKind.same_iff.1 hk1
     have e2:=IntKind.same_iff.1 hk2
     subst e1;subst e2
     have en:=Nat.eq_of_beq_eq_true hnm
     have en':=Nat.eq_of_beq_eq_true hnm'
     subst en;subst en'
     have hTi:=hT _ _ hti
     have hTe:=hT _ _ hte
     obtain⟨dd,hd1,hd2⟩:=hTi.d
     have hu:P.underlying t=some (.array n' e):=by
      cases dd <;>simp only[tdOk]at hd2 <;>try cases hd2
      rw[Bool.and_eq_true]at hd2
      rw[hd1,Nat.eq_of_beq_eq_true hd2.1,Nat.eq_of_beq_eq_true hd2.2]
     obtain⟨d2,hd3,hd4⟩:=hTe.d
     have hue:P.underlying e=some (.int k):=by
      cases d2 <;>simp only[tdOk]at hd4 <;>try cases hd4
      rw[hd3,IntKind.same_iff.1 hd4]
     have hs:=hTi.s
     unfold structOk at hs
     rw[hu]at hs
     simp only[hue]at hs
     have hg':P.eqGuardType P.depth t=false:=by simpa using hs
     simp only[Den]at hx hy
     obtain⟨us,rfl,hus,hur⟩:=hx
     obtain⟨vs,rfl,hvs,hvr⟩:=hy
     have cell:∀(zs:Array Value) (h:Nat->Nat->D),(∀ r,r<n'->DenR ρ.z [.int k] (h r) 0 zs (r*1))->∀ r,r<n'->zs[r]? =some (.int k (h r 0).toI):=by
      intro zs h hh r hr
      have:=hh r hr
      simp only[DenR,DenD,Nat.mul_one]at this
      obtain⟨⟨u,h1,h2⟩,_⟩:=this
      rw[h1,h2]
     have hpa:∀(zs:Array Value) (r:Nat) (z:Value),zs[r]? =some z->(part e zs r).run P w= .ok z w:=by
      intro zs r z hz
      have:(TI.mk (.int k) q1 q2 q3).isAgg=false:=rfl
      simp only[part,Sem.run_bind,run_isAgg hTe,Result.andThen_ok,this,Bool.false_eq_true,if_false,hz,Sem.run_pure]
     have hsz:(sizeOf e).run P w= .ok 1 w:=by
      rw[run_sizeOf hTe]
      have:q1=1:=Nat.eq_of_beq_eq_true hsz1
      rw[this]
     have heq:=arr_loop 9998 hue us vs (fun r=>(f r 0).toI) (fun r=>(g r 0).toI) n' hpa (cell us f (by simpa using hur)) (cell vs g (by simpa using hvr)) hu hsz
     split at hr
     ·cases hr
      exact⟨.bool _,by rw[Sem.run_bind,run_eqGuard_agg _ _ _ _ _ _ _ hg',Result.andThen_ok,run_eql_struct,heq];rfl,by simp[Den],rfl,by simp[SV.labs]⟩
     ·cases hr
      exact⟨.bool _,by rw[Sem.run_bind,run_eqGuard_agg _ _ _ _ _ _ _ hg',Result.andThen_ok,run_neq_struct,heq];rfl,by simp[Den],rfl,by simp[SV.labs]⟩
     ·cases hr
    ·cases hr
   ·cases hr
  ·cases hr
 ·rename_i l lo len
  split at hr
  ·rename_i e s1 s2 s3 hti
   have hu:=hsl hti
   simp only[Den]at hx hy
   subst hy
   split at hr
   ·cases hr
    have hp:1<=len:=hp
    obtain⟨pl,a,_,rfl,_⟩:=hx.resolve_left (fun h=>by omega)
    exact⟨.bool false,by rw[Sem.run_bind,guard_plain _ _ _ _ ⟨by simp,by simp⟩,Result.andThen_ok];exact run_eql_sl w t e _ _ _ hu,by simp[Den],rfl,by simp[SV.labs]⟩
   ·cases hr
    have hp:1<=len:=hp
    obtain⟨pl,a,_,rfl,_⟩:=hx.resolve_left (fun h=>by omega)
    exact⟨.bool true,by rw[Sem.run_bind,guard_plain _ _ _ _ ⟨by simp,by simp⟩,Result.andThen_ok];exact run_neq_sl w t e _ _ _ hu,by simp[Den],rfl,by simp[SV.labs]⟩
   ·cases hr
  ·cases hr
 ·split at hr
  ·rename_i e s1 s2 s3 hti
   have hu:=hsl hti
   simp only[Den]at hx hy
   subst hx;subst hy
   split at hr
   ·cases hr
    exact⟨.bool true,by rw[Sem.run_bind,guard_plain _ _ _ _ ⟨by simp,by simp⟩,Result.andThen_ok];exact run_eql_sl w t e _ _ _ hu,by simp[Den],rfl,by simp[SV.labs]⟩
   ·cases hr
    exact⟨.bool false,by rw[Sem.run_bind,guard_plain _ _ _ _ ⟨by simp,by simp⟩,Result.andThen_ok];exact run_neq_sl w t e _ _ _ hu,by simp[Den],rfl,by simp[SV.labs]⟩
   ·cases hr
  ·cases hr
 ·cases hr
end
end Go.Sym
namespace Go.Sym
set_option linter.unusedVariables false
set_option linter.unusedSimpArgs false
theorem foldl_splice (off:Nat):∀(l:List Value) (k:Nat) (cs:Array Value),off+k+l.length<=cs.size->
  ((l.zipIdx k).foldl (fun cs (p:Value × Nat)=>cs.setIfInBounds (off+p.2) p.1) cs).toList=spliceV cs.toList (off+k) l
 | [],k,cs,_=>by simp[spliceV]
 |v::l,k,cs,h=>by
  have hlt:off+k<cs.size:=by simp at h;omega
  rw[List.zipIdx_cons,List.foldl_cons,foldl_splice off l (k+1) _ (by simp at h ⊢;omega)]
  unfold spliceV
  simp only[Array.toList_setIfInBounds,List.length_cons]
  have hl:off+k<cs.toList.length:=by simpa using hlt
  have e1:(cs.toList.set (off+k) v).take (off+(k+1))=cs.toList.take (off+k)++[v]:=by
   rw[show off+(k+1)=off+k+1 from by omega,List.take_succ_eq_append_getElem (by simpa using hl)]
   rw[List.take_set_of_le (Nat.le_refl _)]
   simp
  have e2:(cs.toList.set (off+k) v).drop (off+(k+1)+l.length)=cs.toList.drop (off+k+(l.length+1)):=by
   rw[List.drop_set_of_lt (by omega)]
   congr 1
   omega
  rw[e1,e2]
  simp
section
variable {ρi:Env} {P:Program} {E A:Nat->Prop} {w0:World} {ρ:Env} {F:Fr} {G:Hp} {a:Act} {w:World} {o:Oper}
theorem run_places:∀(gs:List Field),gs.all (fun f=>(P.info? f.type).isSome)=true->
  (gs.mapM fun f=>(do pure (f.offset,<- sizeOf f.type):Sem (Nat × Nat))).run P w= .ok (gs.map fun f=>(f.offset,P.cellsOf f.type)) w
 | [],_=>by simp
 |f::gs,h=>by
  simp only[List.all_cons,Bool.and_eq_true]at h
  obtain⟨i,hi⟩:=Option.isSome_iff_exists.1 h.1
  rw[List.mapM_cons]
  simp only[Sem.run_bind,sizeOf,run_typeInfo hi,Result.andThen_ok,Sem.run_pure]
  have:=run_places gs h.2
  simp only[sizeOf,Sem.run_bind]at this
  rw[this]
  simp[Program.cellsOf,hi]
theorem fillL_sound {T:List (Nat × TI)} {place place':Nat->Option (Nat × Nat)} (hpl:∀ i p,place i=some p->place' i=some p) (hF:FSat ρ F a.tmps) (hS:Scp G F):
  ∀(ps:List (Nat × Operand)) (cs cs':List SV) (arr:Array Value),fillL T place F cs ps=some cs'->DenL ρ cs arr.toList->(∀ l∈labsL cs,G l≠none)->
   ∃ arr',Instr.fill place' arr (ps.map fun p=>(p.1,a.eval p.2))=some arr'/\DenL ρ cs' arr'.toList/\(∀ l∈labsL cs',G l≠none)
 | [],cs,cs',arr,h,hd,hl=>by
  simp only[fillL,Option.some.injEq]at h
  subst h
  exact⟨arr,rfl,hd,hl⟩
 |(i,x)::ps,cs,cs',arr,h,hd,hl=>by
  unfold fillL at h
  split at h
  ·rename_i off size vs h1 h2
   split at h
   ·rename_i h3 h4
    have h3:=Nat.eq_of_beq_eq_true h3
    have h4:=Nat.le_of_ble_eq_true h4
    rw[lenL_eq]at h3 h4
    have hx:=oa_den hF x
    have hvd:=cells_den h2 hx
    have hvs:=cells_size h2 hx
    have hsz:arr.size=cs.length:=by simpa using hd.length
    have hk:=foldl_splice off (a.eval x).cells.toList 0 arr (by simp;omega)
    have hd':DenL ρ (splice cs off vs) ((a.eval x).cells.zipIdx.foldl (fun cs (p:Value × Nat)=>cs.setIfInBounds (off+p.2) p.1) arr).toList:=by
     rw[<- Array.foldl_toList,Array.toList_zipIdx,hk]
     exact DenL_splice hd hvd (by omega)
    have hl':∀ l∈labsL (splice cs off vs),G l≠none:=by
     intro l hm
     rcases labsL_splice (xs:=cs) (ys:=vs) (n:=off) (l:=l) (by omega) hm with h|h
     ·exact hl l h
     ·rw[cells_labs h2]at h;exact oa_scp hS x l h
    obtain⟨arr',g1,g2,g3⟩:=fillL_sound hpl hF hS ps _ cs' _ h hd' hl'
    refine⟨arr',?_,g2,g3⟩
    simp only[List.map_cons,Instr.fill,hpl i _ h1]
    rw[if_neg (by simp;omega)]
    exact g1
   ·cases h
  ·cases h
theorem placeS_real {T:List (Nat × TI)} (hT:TOk P T) {gs:List Field} {fs:List (Nat × Nat)} (hfs:gs.map (fun f=>(f.offset,f.type))=fs) {i:Nat} {p:Nat × Nat} (h:placeS T fs i=some p):
  (gs.map fun f=>(f.offset,P.cellsOf f.type))[i]? =some p/\∃ f ti,gs[i]? =some f/\f.offset=p.1/\tget T f.type=some ti/\ti.size=p.2:=by
 unfold placeS at h
 rw[nthF_eq]at h
 split at h
 ·rename_i off t hn
  split at h
  ·rename_i ti hti
   cases h
   rw[<- hfs,List.getElem?_map]at hn
   cases hg:gs[i]? with
   |none=>rw[hg]at hn;cases hn
   |some f=>
    rw[hg]at hn
    simp only[Option.map_some,Option.some.injEq,Prod.mk.injEq]at hn
    obtain⟨rfl,rfl⟩:=hn
    obtain⟨ii,z,h1,_,h3,_⟩:=(hT _ _ hti).i
    refine⟨?_,f,ti,rfl,rfl,hti,rfl⟩
    rw[List.getElem?_map,hg]
    simp[Program.cellsOf,h1,h3]
  ·cases h
 ·cases h
theorem struct_shape {T:List (Nat × TI)} (hT:TOk P T) {t:Nat} {fs:List (Nat × Nat)} {s b:Nat} {z:List SV} (h:tget T t=some ⟨.struct fs,s,b,z⟩):
  ∃ gs:Array Field,P.underlying t=some (.struct gs)/\gs.toList.map (fun f=>(f.offset,f.type))=fs/\gs.toList.all (fun f=>(P.info? f.type).isSome)=true:=by
 have hTi:=hT _ _ h
 obtain⟨dd,hd1,hd2⟩:=hTi.d
 have hs:=hTi.s
 cases dd <;>simp only[tdOk]at hd2 <;>try cases hd2
 rename_i gs
 refine⟨gs,hd1,of_decide_eq_true hd2,?_⟩
 unfold structOk at hs
 rw[hd1]at hs
 simp only[Bool.and_eq_true]at hs
 exact hs.1
theorem slice_shape {T:List (Nat × TI)} (hT:TOk P T) {t e:Nat} {s b:Nat} {z:List SV} (h:tget T t=some ⟨.slice e,s,b,z⟩):P.underlying t=some (.slice e):=by
 obtain⟨dd,hd1,hd2⟩:=(hT _ _ h).d
 cases dd <;>simp only[tdOk]at hd2 <;>try cases hd2
 rw[hd1,Nat.eq_of_beq_eq_true hd2]
theorem int_shape {T:List (Nat × TI)} (hT:TOk P T) {t:Nat} {k:IntKind} {s b:Nat} {z:List SV} (h:tget T t=some ⟨.int k,s,b,z⟩):P.underlying t=some (.int k):=by
 obtain⟨dd,hd1,hd2⟩:=(hT _ _ h).d
 cases dd <;>simp only[tdOk]at hd2 <;>try cases hd2
 rw[hd1,IntKind.same_iff.1 hd2]
theorem str_shape {T:List (Nat × TI)} (hT:TOk P T) {t:Nat} {s b:Nat} {z:List SV} (h:tget T t=some ⟨.str,s,b,z⟩):P.underlying t=some .string:=by
 obtain⟨dd,hd1,hd2⟩:=(hT _ _ h).d
 cases dd <;>simp only[tdOk]at hd2 <;>first|exact hd1|cases hd2
theorem arr_shape {T:List (Nat × TI)} (hT:TOk P T) {t n e:Nat} {s b:Nat} {z:List SV} (h:tget T t=some ⟨.arr n e,s,b,z⟩):P.underlying t=some (.array n e):=by
 obtain⟨dd,hd1,hd2⟩:=(hT _ _ h).d
 cases dd <;>simp only[tdOk]at hd2 <;>try cases hd2
 rw[Bool.and_eq_true]at hd2
 rw[hd1,Nat.eq_of_beq_eq_true hd2.1,Nat.eq_of_beq_eq_true hd2.2]
theorem run_build {T:List (Nat × TI)} (hT:TOk P T) (S:St ρi E A w0 ρ F G a w) {t:Nat} {fs:List (Nat × Nat)} {s b:Nat} {z:List SV} (ht:tget T t=some ⟨.struct fs,s,b,z⟩) {ps:Array (Nat × Operand)}
  {cs:List SV} (h:fillL T (placeS T fs) F z ps.toList=some cs):
  ∃ arr,(Instr.build t (ps.map fun(i,x)=>(i,a.eval x))).run P w= .ok (.agg arr) w/\DenL ρ cs arr.toList/\(∀ l∈labsL cs,G l≠none):=by
 obtain⟨gs,hu,hfs,hall⟩:=struct_shape hT ht
 obtain⟨zv,z1,z2,z3⟩:=run_zeroValue (w:=w) (hT _ _ ht)
 obtain⟨arr',g1,g2,g3⟩:=fillL_sound (a:=a) (G:=G) (place':=fun i=>(gs.toList.map fun f=>(f.offset,P.cellsOf f.type))[i]?) (fun i p hp=>(placeS_real hT hfs hp).1) S.fr S.scp ps.toList z cs zv.cells h
  (zsOk_den z2) (by rw[zsOk_labs z2];simp)
 refine⟨arr',?_,g2,g3⟩
 unfold Instr.build
 simp only[Sem.run_bind,z1,Result.andThen_ok,run_underlying hu]
 rw[Array.mapM_eq_mapM_toList]
 simp only[Sem.run_bind,Sem.run_map,run_places gs.toList hall,Result.andThen_ok]
 have:(ps.map fun(x:Nat × Operand)=>(x.1,a.eval x.2)).toList=ps.toList.map fun p=>(p.1,a.eval p.2):=by simp
 simp only[Array.toList_map,List.getElem?_toArray]
 simp only[g1]
 rfl
end
end Go.Sym
namespace Go.Sym
set_option linter.unusedVariables false
set_option linter.unusedSimpArgs false
theorem lenR_eq (l:List (List D)):lenR l=l.length:=by induction l with|nil=>rfl|cons x r ih=>simp[lenR,ih]
section
variable {ρi:Env} {P:Program} {E A:Nat->Prop} {w0:World} {ρ:Env} {F:Fr} {G:Hp} {a:Act} {w:World} {o:Oper}
theorem rowsOf_fill (H:HSat ρ G w) {ks:List Kd} {size:Nat} (hks:ks.length=size) (hF:FSat ρ F a.tmps):∀(ps:List (Nat × Operand)) (k:Nat) (rs:List (List D)) (qs:List Prop) (arr:Array Value),rowsOf G ks F ps k=some (rs,qs)->allP qs->
  (k+rs.length)*size<=arr.size->
  ∃ arr',Instr.fill (fun i=>some (i*size,size)) arr (ps.map fun p=>(p.1,a.eval p.2))=some arr'/\arr'.size=arr.size/\(∀ j,j<k*size->arr'[j]? =arr[j]?)/\
   ∀ q,q<rs.length->DenR ρ.z ks (litRows rs q) 0 arr' ((k+q)*size)
 | [],k,rs,qs,arr,h,_,_=>by
  simp only[rowsOf,Option.some.injEq,Prod.mk.injEq]at h
  obtain⟨rfl,rfl⟩:=h
  exact⟨arr,rfl,rfl,fun _ _=>rfl,fun q hq=>by simp at hq⟩
 |(i,x)::ps,k,rs,qs,arr,h,hqs,hsz=>by
  unfold rowsOf at h
  split at h
  ·rename_i cs h1 h2
   split at h
   ·rename_i ds pp rs' qs' h3 h4
    cases h
    have hi:=Nat.eq_of_beq_eq_true h1
    subst hi
    have hx:=oa_den hF x
    have hvd:=cells_den h2 hx
    have hvs:=cells_size h2 hx
    obtain⟨d1,d2,d3⟩:=toDs_den H h3 hqs.1 hvd
    have hcl:cs.length=size:=by rw[<- hvs,<- hks,<- d2];simp
    simp only[List.length_cons]at hsz
    have hsz':(i+1)*size<=arr.size:=Nat.le_trans (Nat.mul_le_mul_right _ (by omega)) hsz
    rw[Nat.add_mul,Nat.one_mul]at hsz'
    have hk:=foldl_splice (i*size) (a.eval x).cells.toList 0 arr (by simp;omega)
    have hcells:(a.eval x).cells.toList.length=size:=by simp;omega
    let arr1:=(a.eval x).cells.zipIdx.foldl (fun cs (p:Value × Nat)=>cs.setIfInBounds (i*size+p.2) p.1) arr
    have h1l:arr1.toList=spliceV arr.toList (i*size) (a.eval x).cells.toList:=by
     show((a.eval x).cells.zipIdx.foldl _ arr).toList=_
     rw[<- Array.foldl_toList,Array.toList_zipIdx,hk]
     rfl
    have h1s:arr1.size=arr.size:=by
     have:=congrArg List.length h1l
     unfold spliceV at this
     simp at this
     have e:(a.eval x).cells.size=size:=by simpa using hcells
     rw[e]at this
     omega
    obtain⟨arr',g1,g2,g3,g4⟩:=rowsOf_fill H hks hF ps (i+1) rs' qs' arr1 h4 hqs.2 (by rw[h1s,show i+1+rs'.length=i+(rs'.length+1)from by omega];exact hsz)
    have get1:∀ j,arr1[j]? =if h:i*size<=j/\j<i*size+(a.eval x).cells.toList.length then some ((a.eval x).cells.toList[j-i*size]'(by omega))else arr[j]? :=by
     intro j
     rw[<- Array.getElem?_toList,h1l,spliceV_get _ _ _ (by simp;omega),Array.getElem?_toList]
    refine⟨arr',?_,g2.trans h1s,fun j hj=>?_,fun q hq=>?_⟩
    ·simp only[List.map_cons,Instr.fill]
     rw[if_neg (by simp;omega)]
     exact g1
    ·rw[g3 j (by rw[Nat.add_mul,Nat.one_mul];omega),get1,dif_neg (by omega)]
    ·cases q with
     |zero=>
      rw[DenR_iff]
      intro c hc
      obtain⟨uu,q1,q2⟩:=d3 c hc (ds[c]'(by omega)) (List.getElem?_eq_getElem _)
      refine⟨uu,?_,?_⟩
      ·rw[Nat.add_zero,g3 _ (by rw[Nat.add_mul,Nat.one_mul];omega),get1,dif_pos (by omega)]
       simp only[Nat.add_sub_cancel_left]
       rw[<- List.getElem?_eq_getElem]
       exact q1
      ·rw[Nat.zero_add]
       have:litRows (ds::rs') 0 c=ds[c]'(by omega):=by
        simp[litRows,List.getElem?_eq_getElem (show c<ds.length by omega)]
       rw[this];exact q2
     |succ q=>
      have:=g4 q (by simpa using hq)
      rw[show i+(q+1)=i+1+q from by omega]
      exact this
   ·cases h
  ·cases h
theorem Left.slice (S:St ρi E A w0 ρ F G a w) {d:Nat} (hd:G d=none) {ks:List Kd} {n cap:Nat} {f:Nat->Nat->D} {arr:Array Value} {e:TypeId} (hn:n<=cap) (hsz:cap*ks.length<=arr.size)
  (hc:∀ r,r<n->DenR ρ.z ks (f r) 0 arr (r*ks.length))
  (hr:(execOp a.eval o).run P w= .ok (.value (.slice (some ⟨w.heap.size,0,none⟩) n cap)) { w with heap:=w.heap.push (.cells arr e)}):
  Left P ρi E A w0 ρ G a w o (.sl d 0 n) [(d,.rows .own ks n f)]:=by
 obtain⟨k1,k2,k3,k4⟩:=pushed (b:=.rows .own ks n f) (w':={ w with heap:=w.heap.push (.cells arr e)}) S.heap S.keep S.mutin hd (by simp[Blk.labs]) rfl rfl rfl rfl rfl
  (grown_ok (ρ:=ρ) (d:=d) (w:=w) (N:=n) (nc:=cap) rfl hn hsz hc)
 refine⟨_,_,_,hr,.inl ⟨_,rfl,?_⟩,k1,k2,k3,k4,updE_z _ _ _,?_⟩
 ·simp only[Den]
  exact .inr ⟨_,⟨w.heap.size,0,none⟩,updE_same _ _ _,by simp,by simpa using hn,fun _=>by simp[ptr]⟩
 ·intro l hl;simp[SV.labs]at hl;subst hl;simp[upds_one_same]
theorem minI_sound:∀(r:List SV) (vs:List Value) (k:IntKind) (x m:Int),minI r k x=some m->DenL ρ r vs->(vs.foldlM Builtin.min2 (.int k x)).run P w= .ok (.int k m) w
 | [],vs,k,x,m,h,hd=>by
  rw[DenL_nil]at hd
  subst hd
  simp only[minI,Option.some.injEq]at h
  subst h
  rfl
 |c::r,[],k,x,m,h,hd=>by simp[DenL]at hd
 |c::r,v::vs,k,x,m,h,hd=>by
  rw[DenL_cons]at hd
  cases c <;>simp only[minI,reduceCtorEq]at h
  rename_i k' y
  split at h
  ·have h1:=hd.1
   simp only[Den]at h1
   subst h1
   have:=minI_sound r vs k (min x y) m h hd.2
   rw[List.foldlM_cons,Sem.run_bind]
   have e:(if y<x then y else x)=min x y:=by omega
   simp only[Builtin.min2,Sem.run_pure,Result.andThen_ok,e]
   exact this
  ·cases h
theorem maxI_sound:∀(r:List SV) (vs:List Value) (k:IntKind) (x m:Int),maxI r k x=some m->DenL ρ r vs->(vs.foldlM Builtin.max2 (.int k x)).run P w= .ok (.int k m) w
 | [],vs,k,x,m,h,hd=>by
  rw[DenL_nil]at hd
  subst hd
  simp only[maxI,Option.some.injEq]at h
  subst h
  rfl
 |c::r,[],k,x,m,h,hd=>by simp[DenL]at hd
 |c::r,v::vs,k,x,m,h,hd=>by
  rw[DenL_cons]at hd
  cases c <;>simp only[maxI,reduceCtorEq]at h
  rename_i k' y
  split at h
  ·have h1:=hd.1
   simp only[Den]at h1
   subst h1
   have:=maxI_sound r vs k (max x y) m h hd.2
   rw[List.foldlM_cons,Sem.run_bind]
   have e:(if y>x then y else x)=max x y:=by omega
   simp only[Builtin.max2,Sem.run_pure,Result.andThen_ok,e]
   exact this
  ·cases h
end
end Go.Sym
namespace Go.Sym
set_option linter.unusedVariables false
set_option linter.unusedSimpArgs false
section
variable {ρi:Env} {P:Program} {E A:Nat->Prop} {w0:World} {ρ:Env} {F:Fr} {G:Hp} {a:Act} {w:World} {o:Oper}
theorem map_den (hF:FSat ρ F a.tmps):∀(xs:List Operand),DenL ρ (xs.map (oa F)) (xs.map a.eval)
 | []=>by simp[DenL]
 |x::xs=>by rw[List.map_cons,List.map_cons];exact DenL_cons.2 ⟨oa_den hF x,map_den hF xs⟩
theorem map_labs (hS:Scp G F) (xs:List Operand):∀ l∈labsL (xs.map (oa F)),G l≠none:=by
 intro l hl
 rw[labsL_mem]at hl
 obtain⟨c,hc,hl⟩:=hl
 obtain⟨x,_,rfl⟩:=List.mem_map.1 hc
 exact oa_scp hS x l hl
theorem TI.mk'_part {ti:TI} {cs:List SV} {v:SV} {off t:Nat} {us:Array Value} (ht:TiOk P t ti) (hd:DenL ρ cs us.toList) (hle:off+ti.size<=cs.length) (h:ti.mk' ((cs.drop off).take ti.size)=some v):
  ∃ u,(part t us off).run P w= .ok u w/\Den ρ v u:=by
 have hsz:us.size=cs.length:=by simpa using hd.length
 have hD:=DenL_take ti.size (DenL_drop off hd)
 rcases TI.mk'_den h with⟨ha,rfl⟩|⟨ha,hcs⟩
 ·refine⟨.agg (us.extract off (off+ti.size)),?_,?_⟩
  ·simp[part,run_isAgg ht,ha,run_sizeOf ht]
  ·simp only[Den]
   refine⟨_,rfl,?_⟩
   have:(us.extract off (off+ti.size)).toList=(us.toList.drop off).take ti.size:=by
    simp[List.extract_eq_take_drop]
   rw[this];exact hD
 ·rw[hcs]at hD
  cases hx:(us.toList.drop off).take ti.size with
  |nil=>rw[hx]at hD;simp[DenL]at hD
  |cons y ys=>
   rw[hx,DenL_cons]at hD
   have hy:us[off]? =some y:=by
    have h0:((us.toList.drop off).take ti.size)[0]? =some y:=by rw[hx];rfl
    rw[List.getElem?_take]at h0
    split at h0
    ·simpa using h0
    ·cases h0
   exact⟨y,by simp[part,run_isAgg ht,ha,hy],hD.1⟩
theorem madeCells_get {z:Array Value} {k n:Nat} (hz:z.size=k) {r c:Nat} (hr:r<n) (hc:c<k):(madeCells z (n*k))[r*k+c]? =z[c]? :=by
 have hb:=row_bound (k:=k) hr hc
 unfold madeCells
 rw[Array.getElem?_map,Array.getElem?_range,if_pos hb]
 simp only[Option.map_some]
 have:(r*k+c)%z.size=c:=by rw[hz,Nat.mul_comm,Nat.mul_add_mod,Nat.mod_eq_of_lt hc]
 rw[this,Array.getElem?_eq_getElem (by omega)]
 simp[show c<z.size by omega]
end
end Go.Sym
namespace Go.Sym
open MapKept
set_option linter.unusedVariables false
set_option linter.unusedSimpArgs false
section
variable {wraps:List Nat} {ρi:Env} {P:Program} {E A:Nat->Prop} {w0:World} {ρ:Env} {F:Fr} {G:Hp} {a:Act} {w:World} {dst:Option Nat} {ty:TypeId} {pos:String} {af:Array Edge} {gd:Option (Nat × Bool)}
theorem run_v {z:Sem Value} {u:Value} {w':World} (h:z.run P w= .ok u w'):(do pure (.value (<- z)):Sem Next).run P w= .ok (.value u) w':=by
 simp[h]
theorem run_u {z:Sem Unit} {w':World} (h:z.run P w= .ok () w'):(do z;pure .skip:Sem Next).run P w= .ok .skip w':=by
 simp[h]
theorem run_bounds (hF:FSat ρ F a.tmps) {lo hi:Option Operand} {p q:Int} {len:Nat} (bs:Bool) (hlo:optI F 0 lo=some p) (hhi:optI F len hi=some q) (p1:0<=p) (p2:p<=q) (p3:q<=len) (cap:Nat) (hcap:len<=cap):
  (Instr.sliceBounds bs len cap (lo.map a.eval) (hi.map a.eval) none).run P w= .ok (p.toNat,q.toNat,cap) w:=by
 have bnd:∀(y:Operand) (v:Int) (bound:Nat) (code:BoundsCode),optI F 0 (some y)=some v->0<=v->v<=bound->(Instr.sliceBound (a.eval y) bound code).run P w= .ok v.toNat w:=by
  intro y v bound code h1 h2 h3
  have hdy:=oa_den hF y
  unfold optI at h1
  simp only at h1
  split at h1
  ·rename_i k n hy
   cases h1
   rw[hy]at hdy
   simp only[Den]at hdy
   rw[hdy]
   simp only[Instr.sliceBound,asIntOf,Sem.run_bind,Sem.run_pure,Result.andThen_ok]
   rw[if_pos ⟨h2,h3⟩]
   rfl
  ·cases h1
 have hq:(match hi.map a.eval with|some v=>Instr.sliceBound v cap (if bs then .sliceAcap else .sliceAlen)|none=>(pure len:Sem Nat)).run P w= .ok q.toNat w:=by
  cases hi with
  |none=>
   simp only[optI,Option.some.injEq]at hhi
   subst hhi
   simp
  |some y=>exact bnd y q cap _ (by simpa[optI]using hhi) (by omega) (by omega)
 have hp':(match lo.map a.eval with|some v=>Instr.sliceBound v q.toNat .sliceB|none=>(pure 0:Sem Nat)).run P w= .ok p.toNat w:=by
  cases lo with
  |none=>
   simp only[optI,Option.some.injEq]at hlo
   subst hlo
   simp
  |some y=>exact bnd y p q.toNat _ (by simpa[optI]using hlo) (by omega) (by omega)
 simp only[Instr.sliceBounds,Sem.run_bind,Sem.run_pure,Result.andThen_ok,Option.isSome_none,Bool.false_eq_true,if_false]
 cases hi with
 |none=>
  simp only[Option.map_none]at hq ⊢
  cases lo with
  |none=>
   simp only[Option.map_none]at hp' ⊢
   simp only[Sem.run_pure,Result.ok.injEq]at hq hp'
   simp[hq.1,<- hp'.1]
  |some y=>
   simp only[Option.map_some,Option.map_none]at hp' ⊢
   simp only[Sem.run_pure,Result.ok.injEq]at hq
   simp only[Sem.run_pure,Result.andThen_ok,hq.1,hp',Sem.run_bind]
 |some z=>
  simp only[Option.map_some]at hq ⊢
  cases lo with
  |none=>
   simp only[Option.map_none]at hp' ⊢
   simp only[Sem.run_pure,Result.ok.injEq]at hp'
   simp only[hq,Result.andThen_ok,Sem.run_pure,Sem.run_bind,<- hp'.1]
  |some y=>
   simp only[Option.map_some]at hp' ⊢
   simp only[hq,Result.andThen_ok,hp',Sem.run_bind,Sem.run_pure]
theorem strSlice_sound {T:List (Nat × TI)} (hT:TOk P T) (S:St ρi E A w0 ρ F G a w) {t:Nat} {x:Operand} {lo hi:Option Operand} {sz by':Nat} {ze:List SV} (ht:tget T t=some ⟨.str,sz,by',ze⟩) {r:Res}
  (hr:(match oa F x with
   | .s x=>match optI F 0 lo,optI F x.size hi with
    |some p,some q=>some { v:=.s (x.extract p.toNat q.toNat),pre:=some (0<=p/\p<=q/\q<=x.size)}
    |_,_=>none
   |_=>none:Option Res)=some r) (hp:r.Pre):
  Left P ρi E A w0 ρ G a w ⟨dst,.slice t x lo hi none,ty,pos,af,gd⟩ r.v r.wr:=by
 split at hr
 ·rename_i s hx
  split at hr
  ·rename_i p q hlo hhi
   cases hr
   obtain⟨p1,p2,p3⟩:0<=p/\p<=q/\q<=s.size:=hp
   have hd:=oa_den S.fr x
   rw[hx]at hd
   simp only[Den]at hd
   refine Left.pure S (u:=.string (s.extract p.toNat q.toNat)) ?_ (by simp only[Den]) (by simp[SV.labs])
   simp only[execOp]
   refine run_v ?_
   rw[hd]
   have hb:=run_bounds (P:=P) (w:=w) S.fr (lo:=lo) (hi:=hi) false hlo hhi p1 p2 p3 s.size (Nat.le_refl _)
   simp only[Instr.sliceAt,Instr.slice,Sem.run_bind,run_underlying (str_shape hT ht),Result.andThen_ok,Option.map_none,Option.isSome_none,Bool.false_eq_true,if_false,hb,Sem.run_pure]
  ·cases hr
 ·cases hr
theorem index_sound {T:List (Nat × TI)} (hT:TOk P T) (S:St ρi E A w0 ρ F G a w) {t:Nat} {x i:Operand} {r:Res} (hr:ev T wraps F G ⟨dst,.index t x i,ty,pos,af,gd⟩=some r) (hp:r.Pre):
  Left P ρi E A w0 ρ G a w ⟨dst,.index t x i,ty,pos,af,gd⟩ r.v r.wr:=by
 simp only[ev]at hr
 have hdx:=oa_den S.fr x
 have hdi:=oa_den S.fr i
 split at hr
 ·rename_i s1 s2 s3 s k n hti hx hi
  cases hr
  obtain⟨p1,p2⟩:0<=n/\n<s.size:=hp
  rw[hx]at hdx
  rw[hi]at hdi
  simp only[Den]at hdx hdi
  refine Left.pure S (u:=.int .u8 (s.data.getD n.toNat 0).toNat) ?_ (by simp only[Den]) (by simp[SV.labs])
  simp only[execOp]
  refine run_v ?_
  rw[hdx,hdi]
  have hlt:n.toNat<s.size:=by omega
  have hget:s[n.toNat]? =some (s.data.getD n.toNat 0):=by
   rw[getElem?_pos s n.toNat hlt]
   have:n.toNat<s.data.size:=hlt
   simp only[Array.getD,this,dite_true,Option.some.injEq]
   rfl
  simp only[Instr.index,asIntOf,Sem.run_bind,Sem.run_pure,Result.andThen_ok,run_underlying (str_shape hT hti),if_pos p1,hget]
 ·rename_i m e s1 s2 s3 ks m' f k n hti hx hi
  split at hr
  ·rename_i ti d hte
   split at hr
   ·rename_i h1 h2 h3
    have h1:=Nat.eq_of_beq_eq_true h1
    have h2:=Nat.eq_of_beq_eq_true h2
    rw[lenK_eq]at h1
    have hpre:r.pre=some (0<=n/\n<m):=by
     unfold evRow at hr
     dsimp only at hr
     split at hr <;>cases hr
     rfl
    obtain⟨p1,p2⟩:0<=n/\n<m:=by simpa[Res.Pre,hpre]using hp
    rw[hx]at hdx
    rw[hi]at hdi
    simp only[Den]at hdx hdi
    obtain⟨vs,hv,hsz,hrow⟩:=hdx
    obtain⟨ρ',hL,hl,_,hval⟩:=evRow_sound S.heap S.mutin hr (hrow n.toNat (by omega))
    have hoff:n.toNat*ti.size=n.toNat*ks.length:=by rw[h1]
    have key:∀ u,(part e vs (n.toNat*ti.size)).run P w= .ok u w->Den ρ' r.v u->Left P ρi E A w0 ρ G a w ⟨some d,.index t x i,ty,pos,af,gd⟩ r.v r.wr:=by
     intro u h5 h6
     refine⟨.value u,w,ρ',?_,.inl ⟨u,rfl,h6⟩,hL.heap,S.keep,hL.mutin,hL.keep,hL.z,hl⟩
     simp only[execOp]
     refine run_v ?_
     rw[hv,hdi]
     simp only[Instr.index,asIntOf,Sem.run_bind,Sem.run_pure,Result.andThen_ok,run_underlying (arr_shape hT hti),if_pos (show 0<=n/\n<(m:Int)from⟨p1,p2⟩),run_sizeOf (hT _ _ hte)]
     exact h5
    rcases hval with⟨ha,cs,hcs,hD⟩|⟨ha,y,hy,hD⟩
    ·refine key (.agg (vs.extract (n.toNat*ti.size) (n.toNat*ti.size+ti.size))) ?_ ?_
     ·simp[part,run_isAgg (hT _ _ hte),ha,run_sizeOf (hT _ _ hte)]
     ·rw[hcs]
      simp only[Den]
      refine⟨_,rfl,?_⟩
      have:(vs.extract (n.toNat*ti.size) (n.toNat*ti.size+ti.size)).toList=(vs.toList.drop (n.toNat*ti.size)).take ti.size:=by
       simp[List.extract_eq_take_drop]
      rw[this,h1];exact hD
    ·refine key y ?_ hD
     have:=arr_of_take hy
     simp[part,run_isAgg (hT _ _ hte),ha,h1,this]
   ·cases hr
  ·cases hr
 ·cases hr
theorem map_shape {T:List (Nat × TI)} (hT:TOk P T) {t k e:Nat} {s b:Nat} {z:List SV} (h:tget T t=some ⟨.map k e,s,b,z⟩):P.underlying t=some (.map k e):=by
 obtain⟨dd,hd1,hd2⟩:=(hT _ _ h).d
 cases dd <;>simp only[tdOk]at hd2 <;>try cases hd2
 rw[Bool.and_eq_true]at hd2
 rw[hd1,Nat.eq_of_beq_eq_true hd2.1,Nat.eq_of_beq_eq_true hd2.2]
theorem keyK_spec {T:List (Nat × TI)} (hT:TOk P T) {k:Nat} {kk:IntKind} (h:keyK T k kk=true):P.underlying k=some (.int kk):=by
 unfold keyK at h
 split at h
 ·rename_i hk
  rw[IntKind.same_iff.1 h]
  exact int_shape hT hk
 ·cases h
theorem MapOk.nil {z:Nat->Option Obj} {kk:IntKind} {ks:List Kd} {agg:Bool} {f:Int->Nat->D}:MapOk z kk ks agg [] f #[] 0:=
 ⟨List.nodup_nil,⟨[],List.Perm.refl _,rfl⟩,by simp,by simp,by simp⟩
theorem Left.newMap (S:St ρi E A w0 ρ F G a w) {d:Nat} (hd:G d=none) {kk:IntKind} {ks:List Kd} {agg:Bool} {f:Int->Nat->D} {o:Oper}
  (hr:(execOp a.eval o).run P w= .ok (.value (.map (some w.heap.size))) { w with heap:=w.heap.push (.map #[] 0)}):
  Left P ρi E A w0 ρ G a w o (.mp d) [(d,.map .own kk ks agg [] f)]:=by
 obtain⟨h1,h2,h3,h4⟩:=pushed (w':={ w with heap:=w.heap.push (.map #[] 0)}) (pl:=⟨w.heap.size,0,1,1⟩) (b:=.map .own kk ks agg [] f) S.heap S.keep S.mutin hd (by simp[Blk.labs]) rfl rfl rfl rfl rfl
  ⟨⟨w.heap.size,0,1,1⟩,#[],0,updE_same _ _ _,by simp,MapOk.nil⟩
 refine⟨_,_,_,hr,.inl ⟨.map (some w.heap.size),rfl,?_⟩,h1,h2,h3,h4,updE_z _ _ _,?_⟩
 ·simp only[Den]
  exact⟨_,updE_same _ _ _,rfl⟩
 ·intro l hh
  simp[SV.labs]at hh
  subst hh
  simp[upds_one_same]
theorem makeMap_sound {T:List (Nat × TI)} (hT:TOk P T) (S:St ρi E A w0 ρ F G a w) {t:Nat} {x:Option Operand} {r:Res} (hr:ev T wraps F G ⟨dst,.makeMap t x,ty,pos,af,gd⟩=some r):
  Left P ρi E A w0 ρ G a w ⟨dst,.makeMap t x,ty,pos,af,gd⟩ r.v r.wr:=by
 simp only[ev]at hr
 split at hr
 ·split at hr
  ·split at hr
   ·rename_i hop
    cases hop
    obtain⟨d,hd,hGd,rfl⟩:=newAt_spec hr
    refine Left.newMap S hGd ?_
    simp only[execOp]
    refine run_v ?_
    simp[Instr.makeMap,newObj,Result.andThen]
    rfl
   ·cases hr
  ·cases hr
 ·cases hr
theorem find_map {z:Nat->Option Obj} {kk:IntKind} {ks:List Kd} {agg:Bool} {keys:List Int} {f:Int->Nat->D} {es:Array MapEntry} {clk:Nat} (h:MapOk z kk ks agg keys f es clk) {kt:TypeId} (hk:P.underlying kt=some (.int kk)) (n:Int):
  (n∉keys/\(Instr.findKey kt (.int kk n) es.toList).run P w= .ok none w/\∀ e∈es.toList,e.key≠ .int kk n)∨
  (n∈keys/\∃ i e,(Instr.findKey kt (.int kk n) es.toList).run P w= .ok (some (i,e.val)) w/\es[i]? =some e/\e.key= .int kk n):=by
 obtain⟨h1,⟨ls,h2,h2'⟩,h3,h4,h5⟩:=h
 have hkeys:∀ e∈es.toList,∃ k∈keys,e.key= .int kk k:=by
  intro e he
  have:e.key∈ls.map (Value.int kk):=by rw[<- h2'];exact List.mem_map.2 ⟨e,he,rfl⟩
  obtain⟨k,hk,e'⟩:=List.mem_map.1 this
  exact⟨k,h2.mem_iff.1 hk,e'.symm⟩
 have hIs:∀ e∈es.toList,IsKey (.int kk) e.key:=by
  intro e he
  obtain⟨k,_,e'⟩:=hkeys e he
  rw[e'];rfl
 rcases findNow_spec (d:=.int kk) (k:=.int kk n) rfl es.toList 0 hIs with⟨g1,g2⟩|⟨j,e,g1,g2,g3⟩
 ·refine .inl ⟨fun hn=>?_,run_findKey hk g1,g2⟩
  have:Value.int kk n∈es.toList.map (·.key):=by rw[h2'];exact List.mem_map.2 ⟨n,h2.mem_iff.2 hn,rfl⟩
  obtain⟨e,he,e'⟩:=List.mem_map.1 this
  exact g2 e he e'
 ·have he:e∈es.toList:=List.mem_of_getElem? g2
  obtain⟨k,hkk,e'⟩:=hkeys e he
  rw[g3]at e'
  cases e'
  refine .inr ⟨hkk,j,e,?_,by simpa using g2,g3⟩
  have:=run_findKey (P:=P) (w:=w) hk g1
  rwa [Nat.zero_add]at this
theorem isVal_den {ρ':Env} {ti:TI} {ks:List Kd} {v:Value} {x:SV} (hi:isVal ti.isAgg v) (hs:v.cells.size=ks.length)
  (h:(ti.isAgg=true/\∃ cs,x= .agg cs/\DenL ρ' cs ((v.cells.toList.drop 0).take ks.length))∨(ti.isAgg=false/\∃ y,(v.cells.toList.drop 0).take ks.length=[y]/\Den ρ' x y)):Den ρ' x v:=by
 have ht:(v.cells.toList.drop 0).take ks.length=v.cells.toList:=by
  rw[List.drop_zero,<- hs,<- Array.length_toList,List.take_length]
 rw[ht]at h
 rcases h with⟨ha,cs,rfl,hD⟩|⟨ha,y,hy,hD⟩
 ·rw[ha]at hi
  simp only[isVal]at hi
  rw[hi]
  simp only[Den]
  exact⟨_,rfl,hD⟩
 ·rw[ha]at hi
  simp only[isVal]at hi
  rw[hi]at hy
  simp at hy
  rw[hy];exact hD
theorem lookup_sound {T:List (Nat × TI)} (hT:TOk P T) (S:St ρi E A w0 ρ F G a w) {t:Nat} {x i:Operand} {cm:Bool} {r:Res} (hr:ev T wraps F G ⟨dst,.lookup t x i cm,ty,pos,af,gd⟩=some r):
  Left P ρi E A w0 ρ G a w ⟨dst,.lookup t x i cm,ty,pos,af,gd⟩ r.v r.wr:=by
 simp only[ev]at hr
 have hdx:=oa_den S.fr x
 have hdi:=oa_den S.fr i
 split at hr
 ·rename_i k e s1 s2 s3 l kk n hti hx hi
  split at hr
  ·rename_i ti m kk' ks agg keys f d hte hG
   split at hr
   ·rename_i ks' hs hk
    split at hr
    ·rename_i r1 h1 h2 h3
     rw[Bool.and_eq_true]at hs
     have hkt:=keyK_spec hT hs.1
     have:=IntKind.same_iff.1 hs.2
     subst this
     have:=kdsSame_iff.1 h1
     subst this
     have hag:ti.isAgg=agg:=eq_of_beq h2
     subst hag
     rw[hx]at hdx
     rw[hi]at hdi
     simp only[Den]at hdx hdi
     obtain⟨pl,hpl,hv⟩:=hdx
     obtain⟨pl',es,clk,e1,e2,hM⟩:=S.heap.blk _ _ hG
     rw[hpl]at e1;cases e1
     have hum:=map_shape hT hti
     obtain⟨hkl,hz⟩:=kdsE_spec hk (hT _ _ hte)
     have fin:∀(val:Value),isVal ti.isAgg val->val.cells.size=ks.length->DenR ρ.z ks (mget1 keys f (zRow ks) n) 0 val.cells 0->
       (Instr.lookup t (.map (some pl.b)) (.int kk n) cm).run P w= .ok (if cm then .tuple #[val,.bool (decide (n∈keys))]else val) w->
       Left P ρi E A w0 ρ G a w ⟨some d,.lookup t x i cm,ty,pos,af,gd⟩ r.v r.wr:=by
      intro val q1 q2 q3 q4
      obtain⟨ρ',hL,hl,_,hval⟩:=evRow_sound S.heap S.mutin h3 q3
      have hD:=isVal_den (ρ':=ρ') q1 q2 hval
      have hrun:(execOp a.eval ⟨some d,.lookup t x i cm,ty,pos,af,gd⟩).run P w= .ok (.value (if cm then .tuple #[val,.bool (decide (n∈keys))]else val)) w:=by
       simp only[execOp]
       refine run_v ?_
       rw[hv,hdi]
       exact q4
      cases cm with
      |true=>
       cases hr
       refine⟨_,w,ρ',hrun,.inl ⟨_,rfl,?_⟩,hL.heap,S.keep,hL.mutin,hL.keep,hL.z,?_⟩
       ·simp only[Den]
        exact⟨_,rfl,DenL_cons.2 ⟨hD,DenL_cons.2 ⟨by simp only[Den],by simp[DenL]⟩⟩⟩
       ·intro l hll
        simp[SV.labs,labsL]at hll
        exact hl l hll
      |false=>
       cases hr
       exact⟨_,w,ρ',hrun,.inl ⟨_,rfl,hD⟩,hL.heap,S.keep,hL.mutin,hL.keep,hL.z,hl⟩
     have hik:IsKey (.int kk) (.int kk n):=rfl
     rcases find_map (w:=w) hM hkt n with⟨g1,g2,g3⟩|⟨g1,j,e',g2,g3,g4⟩
     ·obtain⟨i',z,hi1,hi2,hi3,hi4,hi5,hi6,hi7,hi8⟩:=(hT _ _ hte).i
      refine fin z ?_ (by rw[hi6,hkl]) ?_ ?_
      ·cases ha:ti.isAgg with
       |true=>exact hi7 ha
       |false=>exact hi8 ha
      ·have:mget1 keys f (zRow ks) n=zRow ks:=by funext c;simp[mget1,g1]
       rw[this]
       exact hz z.cells hi5 _ _ _ (fun j _=>by simp)
      ·have hzr:(zeroValue e).run P w= .ok z w:=by simp[zeroValue,run_typeInfo hi1,hi2]
       simp only[Instr.lookup,Sem.run_bind,run_underlying hum,Result.andThen_ok,MapKept.run_getObj_map e2,Sem.run_pure,run_checkKey hkt hik,g2,hzr,g1]
       simp
     ·obtain⟨p1,p2,p3⟩:=hM.2.2.1 e' (List.mem_of_getElem? (by simpa using g3)) n g4
      refine fin e'.val p1 p2 ?_ ?_
      ·have:mget1 keys f (zRow ks) n=f n:=by funext c;simp[mget1,g1]
       rw[this]
       exact p3
      ·simp only[Instr.lookup,Sem.run_bind,run_underlying hum,Result.andThen_ok,MapKept.run_getObj_map e2,Sem.run_pure,run_checkKey hkt hik,g2,g1]
       simp
    ·cases hr
   ·cases hr
  ·cases hr
 ·cases hr
theorem cells_isVal {x:SV} {cs:List SV} {v:Value} (h:x.cells=some cs) (hd:Den ρ x v):isVal (aggV x) v:=by
 cases x <;>simp only[SV.cells,reduceCtorEq]at h <;>simp only[aggV,isVal]
 case agg cs'=>
  simp only[Den]at hd
  obtain⟨vs,rfl,hd⟩:=hd
  rfl
 case arr ks n f=>
  simp only[Den]at hd
  obtain⟨vs,rfl,_⟩:=hd
  rfl
 case sl l a b=>
  simp only[Den]at hd
  rcases hd with⟨_,e,_⟩|⟨_,_,_,e,_⟩ <;>rw[e] <;>rfl
 case q l n=>
  simp only[Den]at hd
  rcases hd with⟨_,e⟩|⟨_,_,_,e⟩ <;>rw[e] <;>rfl
 all_goals
  simp only[Den]at hd
  first
   |(rw[hd];rfl)
   |(obtain⟨_,e⟩:=hd;rw[e.2];rfl)
   |(obtain⟨_,e,_⟩:=hd;rw[e];rfl)
theorem MapOk.stamped {z:Nat->Option Obj} {kk:IntKind} {ks:List Kd} {agg:Bool} {keys:List Int} {f:Int->Nat->D} {es:Array MapEntry} {clk:Nat} (h:MapOk z kk ks agg keys f es clk):Stamped es clk:=by
 obtain⟨h1,⟨ls,h2,h2'⟩,h3,h4,h5⟩:=h
 refine⟨h5,h4,?_⟩
 rw[h2']
 exact List.Pairwise.map _ (fun a b e e'=>e (by injection e')) (show List.Pairwise (· ≠·) ls from h2.nodup_iff.2 h1)
theorem MapOk.key {z:Nat->Option Obj} {kk:IntKind} {ks:List Kd} {agg:Bool} {keys:List Int} {f:Int->Nat->D} {es:Array MapEntry} {clk:Nat} (h:MapOk z kk ks agg keys f es clk):∀ e∈es.toList,∃ k∈keys,e.key= .int kk k:=by
 obtain⟨h1,⟨ls,h2,h2'⟩,h3,h4,h5⟩:=h
 intro e he
 have:e.key∈ls.map (Value.int kk):=by rw[<- h2'];exact List.mem_map.2 ⟨e,he,rfl⟩
 obtain⟨k,hk,e'⟩:=List.mem_map.1 this
 exact⟨k,h2.mem_iff.1 hk,e'.symm⟩
theorem MapOk.push {z:Nat->Option Obj} {kk:IntKind} {ks:List Kd} {agg:Bool} {keys:List Int} {f:Int->Nat->D} {es:Array MapEntry} {clk:Nat} (h:MapOk z kk ks agg keys f es clk) {n:Int} (hn:n∉keys) {v:Value} {g:Nat->D}
  (h1:isVal agg v) (h2:v.cells.size=ks.length) (h3:DenR z ks g 0 v.cells 0):MapOk z kk ks agg (madd1 keys n) (mset f n g) (es.push { key:=.int kk n,val:=v,born:=clk }) (clk+1):=by
 have hS:=h.stamped
 have hK:=h.key
 obtain⟨k1,⟨ls,k2,k2'⟩,k3,k4,k5⟩:=h
 have hne:∀ e∈es.toList,e.key≠ .int kk n:=by
  intro e he e'
  obtain⟨k,hk,e2⟩:=hK e he
  rw[e2]at e'
  cases e'
  exact hn hk
 have hS':=stamped_push (key:=.int kk n) (val:=v) hS hne
 have hadd:madd1 keys n=keys++[n]:=by simp[madd1,hn]
 refine⟨?_,⟨ls++[n],?_,?_⟩,fun e he k hk=>?_,hS'.2.1,hS'.1⟩
 ·rw[hadd,List.nodup_append]
  exact⟨k1,by simp,fun a ha b hb e=>hn (by simp at hb;rw[<- hb,<- e];exact ha)⟩
 ·rw[hadd];exact k2.append (List.Perm.refl _)
 ·simp[k2']
 ·simp only[Array.toList_push,List.mem_append,List.mem_singleton]at he
  rcases he with he|rfl
  ·have hkn:k≠n:=fun e'=>hne e he (by rw[hk,e'])
   have:mset f n g k=f k:=by simp[mset,hkn]
   rw[this]
   exact k3 e he k hk
  ·cases hk
   have:mset f n g n=g:=by simp[mset]
   rw[this]
   exact⟨h1,h2,h3⟩
theorem MapOk.modify {z:Nat->Option Obj} {kk:IntKind} {ks:List Kd} {agg:Bool} {keys:List Int} {f:Int->Nat->D} {es:Array MapEntry} {clk:Nat} (h:MapOk z kk ks agg keys f es clk) {n:Int} {j:Nat} {e0:MapEntry} (hj:es[j]? =some e0) (h0:e0.key= .int kk n) {v:Value} {g:Nat->D}
  (h1:isVal agg v) (h2:v.cells.size=ks.length) (h3:DenR z ks g 0 v.cells 0):MapOk z kk ks agg (madd1 keys n) (mset f n g) (es.modify j fun e=>{ e with key:=.int kk n,val:=v }) clk:=by
 have hS:=h.stamped
 have hK:=h.key
 obtain⟨k1,⟨ls,k2,k2'⟩,k3,k4,k5⟩:=h
 have hkey:∀ e',es[j]? =some e'->({ e' with key:=.int kk n,val:=v }:MapEntry).key=e'.key:=fun e' he'=>by rw[hj]at he';cases he';exact h0.symm
 have hS':=stamped_modify hS j (fun e=>{ e with key:=.int kk n,val:=v }) (fun _ _=>rfl) (fun e' _ he'=>hkey e' he')
 have hmem:e0∈es.toList:=List.mem_of_getElem? (by simpa using hj)
 have hn:n∈keys:=by
  obtain⟨k,hk,e⟩:=hK e0 hmem
  rw[h0]at e;cases e;exact hk
 have hadd:madd1 keys n=keys:=by simp[madd1,hn]
 rw[hadd]
 refine⟨k1,⟨ls,k2,(modify_keys j _ hkey).trans k2'⟩,fun e he k hk=>?_,hS'.2.1,hS'.1⟩
 obtain⟨i,hi⟩:=List.getElem?_of_mem he
 rw[Array.getElem?_toList,Array.getElem?_modify]at hi
 by_cases hij:j=i
 ·subst hij
  rw[if_pos rfl,hj]at hi
  simp only[Option.map_some,Option.some.injEq]at hi
  subst hi
  cases hk
  have:mset f n g n=g:=by simp[mset]
  rw[this]
  exact⟨h1,h2,h3⟩
 ·rw[if_neg hij]at hi
  have hem:e∈es.toList:=List.mem_of_getElem? (by simpa using hi)
  have hkn:k≠n:=by
   intro e'
   subst e'
   have hnd:=hS.2.2
   have a1:(es.toList.map (·.key))[i]? =some (.int kk k):=by simp[hi,hk]
   have a2:(es.toList.map (·.key))[j]? =some (.int kk k):=by simp[hj,h0]
   exact hij ((List.getElem?_inj (by simpa using(Array.getElem?_eq_some_iff.1 hj).1) hnd).1 (a2.trans a1.symm))
  have:mset f n g k=f k:=by simp[mset,hkn]
  rw[this]
  exact k3 e hem k hk
theorem MapOk.erase {z:Nat->Option Obj} {kk:IntKind} {ks:List Kd} {agg:Bool} {keys:List Int} {f:Int->Nat->D} {es:Array MapEntry} {clk:Nat} (h:MapOk z kk ks agg keys f es clk) {n:Int} {j:Nat} {e0:MapEntry} (hj:es[j]? =some e0) (h0:e0.key= .int kk n):
  MapOk z kk ks agg (mdel keys n) f (es.eraseIdxIfInBounds j) clk:=by
 have hS:=h.stamped
 have hK:=h.key
 obtain⟨k1,⟨ls,k2,k2'⟩,k3,k4,k5⟩:=h
 have hS':=stamped_erase hS j
 have hjl:j<es.size:=(Array.getElem?_eq_some_iff.1 hj).1
 have het:(es.eraseIdxIfInBounds j).toList=es.toList.eraseIdx j:=by
  unfold Array.eraseIdxIfInBounds
  rw[dif_pos hjl,Array.toList_eraseIdx]
 have hlen:ls.length=es.size:=by
  have:=congrArg List.length k2'
  simpa using this.symm
 have hlj:ls[j]? =some n:=by
  have a1:(es.toList.map (·.key))[j]? =some (.int kk n):=by simp[hj,h0]
  rw[k2',List.getElem?_map]at a1
  cases hl:ls[j]? with
  |none=>rw[hl]at a1;cases a1
  |some x=>rw[hl]at a1;simp only[Option.map_some,Option.some.injEq,Value.int.injEq,true_and]at a1;rw[a1]
 obtain⟨hjl2,hln⟩:=List.getElem?_eq_some_iff.1 hlj
 refine⟨k1.erase n,⟨ls.eraseIdx j,?_,?_⟩,fun e he k hk=>?_,hS'.2.1,hS'.1⟩
 ·have p1:(n::ls.eraseIdx j).Perm ls:=by
   rw[List.eraseIdx_eq_take_drop_succ]
   refine List.perm_middle.symm.trans ?_
   rw[<- hln,List.getElem_cons_drop,List.take_append_drop]
  have hn:n∈keys:=k2.mem_iff.1 (List.mem_of_getElem? hlj)
  have p2:keys.Perm (n::keys.erase n):=List.perm_cons_erase hn
  exact(List.perm_cons n).1 ((p1.trans k2).trans p2)
 ·rw[het,List.eraseIdx_eq_take_drop_succ,List.eraseIdx_eq_take_drop_succ,List.map_append,List.map_append,List.map_take,List.map_drop,k2',List.map_take,List.map_drop]
 ·rw[het]at he
  exact k3 e (List.mem_of_mem_eraseIdx he) k hk
theorem delete_sound {T:List (Nat × TI)} (hT:TOk P T) (S:St ρi E A w0 ρ F G a w) {t k e s1 s2:Nat} {s3:List SV} {tys:Array TypeId} {ty:TypeId} {args:Array Value} {l:Nat} {kk:IntKind} {n:Int} {o:Oper} {v u:Value} {us:List Value}
  (hti:tget T t=some ⟨.map k e,s1,s2,s3⟩) (hty:tys[0]? =some t) (hav:args.toList=v::u::us) (hv:Den ρ (.mp l) v) (hu:Den ρ (.i kk n) u)
  {kk':IntKind} {ks:List Kd} {agg:Bool} {keys:List Int} {f:Int->Nat->D} (hG:G l=some (.map .own kk' ks agg keys f)) (hs:(keyK T k kk&&IntKind.same kk kk')=true)
  (hrun:∀ x w',(Builtin.delete_ tys ty args).run P w= .ok x w'->(execOp a.eval o).run P w= .ok (.value x) w'):
  Left P ρi E A w0 ρ G a w o (.tup []) [(l,.map .own kk' ks agg (mdel keys n) f)]:=by
 rw[Bool.and_eq_true]at hs
 have hkt:=keyK_spec hT hs.1
 have:=IntKind.same_iff.1 hs.2
 subst this
 simp only[Den]at hv hu
 obtain⟨pl,hpl,rfl⟩:=hv
 subst hu
 obtain⟨pl',es,clk,e1,e2,hM⟩:=S.heap.blk _ _ hG
 rw[hpl]at e1;cases e1
 have hum:=map_shape hT hti
 have hik:IsKey (.int kk) (.int kk n):=rfl
 have a0:args[0]? =some (.map (some pl.b)):=by rw[<- Array.getElem?_toList,hav];rfl
 have a1:args[1]? =some (.int kk n):=by rw[<- Array.getElem?_toList,hav];rfl
 have fin:∀(es':Array MapEntry),MapOk ρ.z kk ks agg (mdel keys n) f es' clk->
   (Builtin.delete_ tys ty args).run P w= .ok (.tuple #[]) { w with heap:=w.heap.setIfInBounds pl.b (.map es' clk)}->
   Left P ρi E A w0 ρ G a w o (.tup []) [(l,.map .own kk ks agg (mdel keys n) f)]:=by
  intro es' q1 q2
  obtain⟨k1,k2,k3⟩:=stored S.heap S.keep S.mutin (b':=.map .own kk ks agg (mdel keys n) f) (obj:=.map es' clk) hG rfl rfl hpl (by simp[Blk.labs])
   ⟨pl,es',clk,hpl,getElem_set_self (heap_lt e2) _,q1⟩
  exact⟨.value (.tuple #[]),_,ρ,hrun _ _ q2,.inl ⟨_,rfl,by simp[Den,DenL]⟩,k1,k2,k3,fun _ _=>rfl,ZLe.refl _,by simp[SV.labs,labsL]⟩
 rcases find_map (w:=w) hM hkt n with⟨g1,g2,g3⟩|⟨g1,j,e',g2,g3,g4⟩
 ·refine fin es ?_ ?_
  ·rw[mdel,List.erase_of_not_mem g1];exact hM
  ·simp[Builtin.delete_,hty,a0,a1,run_underlying hum,MapKept.run_getObj_map e2,run_checkKey hkt hik,g2,MapKept.run_setObj_map _ e2,Result.andThen]
 ·refine fin _ (hM.erase g3 g4) ?_
  simp[Builtin.delete_,hty,a0,a1,run_underlying hum,MapKept.run_getObj_map e2,run_checkKey hkt hik,g2,MapKept.run_setObj_map _ e2,Result.andThen]
theorem builtin_sound {T:List (Nat × TI)} (hT:TOk P T) (S:St ρi E A w0 ρ F G a w) {b:Builtin} {args:Array Operand} {tys:Array TypeId} {ty:TypeId} {r:Res} {dst:Option Nat} {pos:String} {af:Array Edge} {gd:Option (Nat × Bool)}
  (hr:evBuiltin T G dst b tys.toList (args.toList.map (oa F))=some r) (hp:r.Pre):
  Left P ρi E A w0 ρ G a w ⟨dst,.call ⟨.builtin b,args,tys⟩,ty,pos,af,gd⟩ r.v r.wr:=by
 obtain⟨cc,hrun⟩:∃ cc:Array Bool,(execOp a.eval ⟨dst,.call ⟨.builtin b,args,tys⟩,ty,pos,af,gd⟩).run P w=(builtin b tys ty cc (args.map a.eval)).run P w:=
  ⟨_,by simp[execOp,resolve,invoke];rfl⟩
 have hd:=map_den S.fr args.toList
 have hm:(args.map a.eval).toList=args.toList.map a.eval:=by simp
 have hla:=map_labs S.scp args.toList
 unfold evBuiltin at hr
 split at hr
 ·rename_i t tl x hts hxs
  have hty:tys[0]? =some t:=by rw[<- Array.getElem?_toList,hts];rfl
  rw[hxs]at hd hla
  cases hav:args.toList.map a.eval with
  |nil=>rw[hav]at hd;simp[DenL]at hd
  |cons v vs=>
   rw[hav,DenL_cons]at hd
   have harg:(args.map a.eval)[0]? =some v:=by rw[<- Array.getElem?_toList,hm,hav];rfl
   have hlen:∀(u:Value),(Builtin.len_ tys ty (args.map a.eval)).run P w= .ok u w->(execOp a.eval ⟨dst,.call ⟨.builtin .len,args,tys⟩,ty,pos,af,gd⟩).run P w= .ok (.value u) w:=by
    intro u hu
    rw[hrun]
    simp[builtin,hu]
   split at hr
   ·rename_i e s1 s2 s3 l lo len hti
    cases hr
    have hu:=slice_shape hT hti
    have hx:=hd.1
    have:∃ q c,v= .slice q len c:=by
     simp only[Den]at hx
     rcases hx with⟨_,rfl,rfl,_⟩|⟨_,_,_,rfl,_⟩ <;>exact⟨_,_,rfl⟩
    obtain⟨q,c,rfl⟩:=this
    exact Left.pure S (hlen (.int .i64 len) (by simp[Builtin.len_,hty,harg,run_underlying hu,goInt])) (by simp[Den]) (by simp[SV.labs])
   ·rename_i e s1 s2 s3 hti
    cases hr
    have hu:=slice_shape hT hti
    have hx:=hd.1
    simp only[Den]at hx
    subst hx
    exact Left.pure S (hlen (.int .i64 0) (by simp[Builtin.len_,hty,harg,run_underlying hu,goInt])) (by simp[Den]) (by simp[SV.labs])
   ·rename_i s1 s2 s3 z hti
    cases hr
    have hu:=str_shape hT hti
    have hx:=hd.1
    simp only[Den]at hx
    subst hx
    exact Left.pure S (hlen (.int .i64 z.size) (by simp[Builtin.len_,hty,harg,run_underlying hu,goInt])) (by simp[Den]) (by simp[SV.labs])
   ·rename_i n e s1 s2 s3 hti
    cases hr
    have hu:=arr_shape hT hti
    exact Left.pure S (hlen (.int .i64 n) (by simp[Builtin.len_,hty,harg,run_underlying hu,goInt])) (by simp[Den]) (by simp[SV.labs])
   ·rename_i kt e s1 s2 s3 l hti
    split at hr
    ·rename_i m kk ks ag keys f hG
     cases hr
     obtain⟨dd,h1,h2⟩:=tdOk_shape hT hti
     have hu:P.underlying t=some (.map kt e):=by
      cases dd <;>simp only[tdOk]at h2 <;>try cases h2
      rw[Bool.and_eq_true]at h2
      rw[h1,Nat.eq_of_beq_eq_true h2.1,Nat.eq_of_beq_eq_true h2.2]
     have hx:=hd.1
     simp only[Den]at hx
     obtain⟨pl,hpl,rfl⟩:=hx
     obtain⟨pl',es,clk,e1,e2,h3,⟨ls,h4,h5⟩,_⟩:=S.heap.blk _ _ hG
     rw[hpl]at e1;cases e1
     have hsz:es.size=keys.length:=by
      have:=congrArg List.length h5
      simp at this
      rw[this,h4.length_eq]
     refine Left.pure S (hlen (.int .i64 keys.length) ?_) (by simp[Den]) (by simp[SV.labs])
     have hob:(getObj pl.b).run P w= .ok (.map es clk) w:=by
      simp[getObj,Sem.run,e2]
     simp[Builtin.len_,hty,harg,run_underlying hu,hob,goInt,hsz]
    ·cases hr
   ·cases hr
 ·rename_i k x r' hxs
  rw[hxs]at hd
  split at hr
  ·rename_i m hm'
   cases hr
   cases hav:args.toList.map a.eval with
   |nil=>rw[hav]at hd;simp[DenL]at hd
   |cons v vs=>
    rw[hav,DenL_cons]at hd
    have h1:=hd.1
    simp only[Den]at h1
    subst h1
    refine Left.pure S (u:=.int k m) ?_ (by simp[Den]) (by simp[SV.labs])
    rw[hrun]
    have:(Builtin.min_ tys ty (args.map a.eval)).run P w= .ok (.int k m) w:=by
     unfold Builtin.min_
     rw[hm,hav]
     exact minI_sound r' vs k x m hm' hd.2
    simp[builtin,this]
  ·cases hr
 ·rename_i k x r' hxs
  rw[hxs]at hd
  split at hr
  ·rename_i m hm'
   cases hr
   cases hav:args.toList.map a.eval with
   |nil=>rw[hav]at hd;simp[DenL]at hd
   |cons v vs=>
    rw[hav,DenL_cons]at hd
    have h1:=hd.1
    simp only[Den]at h1
    subst h1
    refine Left.pure S (u:=.int k m) ?_ (by simp[Den]) (by simp[SV.labs])
    rw[hrun]
    have:(Builtin.max_ tys ty (args.map a.eval)).run P w= .ok (.int k m) w:=by
     unfold Builtin.max_
     rw[hm,hav]
     exact maxI_sound r' vs k x m hm' hd.2
    simp[builtin,this]
  ·cases hr
 ·rename_i t t2 x y hts hxs
  rw[hxs]at hd
  cases hav:args.toList.map a.eval with
  |nil=>rw[hav]at hd;simp[DenL]at hd
  |cons v vs=>cases vs with
   |nil=>rw[hav]at hd;have:=hd.length;simp at this
   |cons u us=>
    rw[hav,DenL_cons,DenL_cons]at hd
    have hus:us=[]:=DenL_nil.1 hd.2.2
    subst hus
    have htys:tys= #[t,t2]:=by apply Array.ext';simpa using hts
    have hargs:args.map a.eval= #[v,u]:=by apply Array.ext';rw[hm];simpa using hav
    obtain⟨z,w',ρ',g1,g2,g3,g4,g5,g6,g7,g8⟩:=append_sound (ty:=ty) hT S.heap S.keep S.mutin (d:=dst) (x:=x) (y:=y) (r:=r) (t:=t) (t2:=t2) (by simpa[evBuiltin]using hr) hp hd.1 hd.2.1
    refine⟨.value z,w',ρ',?_,.inl ⟨z,rfl,g2⟩,g3,g4,g5,g6,g7,g8⟩
    rw[hrun,htys,hargs]
    simp[builtin,g1]
 ·rename_i t tl l kk n hts hxs
  rw[hxs]at hd
  have hty:tys[0]? =some t:=by rw[<- Array.getElem?_toList,hts];rfl
  split at hr
  ·rename_i k e s1 s2 s3 kk' ks agg keys f hti hG
   split at hr
   ·rename_i hs
    cases hr
    cases hav:args.toList.map a.eval with
    |nil=>rw[hav]at hd;simp[DenL]at hd
    |cons v vs=>cases vs with
     |nil=>rw[hav]at hd;have:=hd.length;simp at this
     |cons u us=>
      rw[hav,DenL_cons,DenL_cons]at hd
      refine delete_sound (ty:=ty) hT S hti hty (hm.trans hav) hd.1 hd.2.1 hG hs ?_
      intro x w' hx
      rw[hrun]
      simp[builtin,hx]
   ·cases hr
  ·cases hr
 ·cases hr
theorem mapUpdate_sound {T:List (Nat × TI)} (hT:TOk P T) (S:St ρi E A w0 ρ F G a w) {t:Nat} {x i v:Operand} {r:Res} (hr:ev T wraps F G ⟨dst,.mapUpdate t x i v,ty,pos,af,gd⟩=some r) (hp:r.Pre):
  Left P ρi E A w0 ρ G a w ⟨dst,.mapUpdate t x i v,ty,pos,af,gd⟩ r.v r.wr:=by
 simp only[ev]at hr
 have hdx:=oa_den S.fr x
 have hdi:=oa_den S.fr i
 have hdv:=oa_den S.fr v
 split at hr
 ·rename_i k e s1 s2 s3 l kk n vs hti hx hi hvs
  split at hr
  ·rename_i ti kk' ks agg keys f hte hG
   split at hr
   ·rename_i ds ps h1 h2 h3 h4 h5
    cases hr
    rw[Bool.and_eq_true]at h1
    have hkt:=keyK_spec hT h1.1
    have:=IntKind.same_iff.1 h1.2
    subst this
    have hag:aggV (oa F v)=agg:=eq_of_beq h5
    have h2:=Nat.eq_of_beq_eq_true h2
    rw[lenL_eq,lenK_eq]at h2
    rw[hx]at hdx
    rw[hi]at hdi
    simp only[Den]at hdx hdi
    obtain⟨pl,hpl,hv⟩:=hdx
    obtain⟨pl',es,clk,e1,e2,hM⟩:=S.heap.blk _ _ hG
    rw[hpl]at e1;cases e1
    have hum:=map_shape hT hti
    have hcd:=cells_den hvs hdv
    obtain⟨d1,d2,d3⟩:=toDs_den S.heap h4 (by simpa[Res.Pre]using hp) hcd
    have hval:isVal agg (a.eval v):=hag▸cells_isVal hvs hdv
    have hsz:(a.eval v).cells.size=ks.length:=by simpa using d2
    have hrow:DenR ρ.z ks (fun j=>ds.getD j (.i 0)) 0 (a.eval v).cells 0:=by
     rw[DenR_iff]
     intro j hj
     obtain⟨d,hd⟩:∃ d,ds[j]? =some d:=⟨_,List.getElem?_eq_getElem (by omega)⟩
     obtain⟨u,g1,g2⟩:=d3 j hj d hd
     refine⟨u,by simpa using g1,?_⟩
     rw[Nat.zero_add,List.getD_eq_getElem?_getD,hd]
     exact g2
    have hik:IsKey (.int kk) (.int kk n):=rfl
    have fin:∀(es':Array MapEntry) (clk':Nat),MapOk ρ.z kk ks agg (madd1 keys n) (mset f n (fun j=>ds.getD j (.i 0))) es' clk'->
      (Instr.mapUpdate t (.map (some pl.b)) (.int kk n) (a.eval v)).run P w= .ok () { w with heap:=w.heap.setIfInBounds pl.b (.map es' clk')}->
      Left P ρi E A w0 ρ G a w ⟨dst,.mapUpdate t x i v,ty,pos,af,gd⟩ .u [(l,.map .own kk ks agg (madd1 keys n) (mset f n (fun j=>ds.getD j (.i 0))))]:=by
     intro es' clk' q1 q2
     obtain⟨k1,k2,k3⟩:=stored S.heap S.keep S.mutin (b':=.map .own kk ks agg (madd1 keys n) (mset f n (fun j=>ds.getD j (.i 0)))) (obj:=.map es' clk') hG rfl rfl hpl (by simp[Blk.labs])
      ⟨pl,es',clk',hpl,getElem_set_self (heap_lt e2) _,q1⟩
     refine⟨.skip,_,ρ,?_,.inr ⟨rfl,rfl⟩,k1,k2,k3,fun _ _=>rfl,ZLe.refl _,by simp[SV.labs]⟩
     simp only[execOp]
     refine run_u ?_
     rw[hv,hdi]
     exact q2
    rcases find_map (w:=w) hM hkt n with⟨g1,g2,g3⟩|⟨g1,j,e',g2,g3,g4⟩
    ·refine fin _ _ (hM.push g1 hval hsz hrow) ?_
     simp[Instr.mapUpdate,run_underlying hum,MapKept.run_getObj_map e2,run_checkKey hkt hik,g2,MapKept.run_setObj_map _ e2,Result.andThen]
    ·refine fin _ _ (hM.modify g3 g4 hval hsz hrow) ?_
     simp[Instr.mapUpdate,run_underlying hum,MapKept.run_getObj_map e2,run_checkKey hkt hik,g2,g3,g4,run_keyThatStays hik,MapKept.run_setObj_map _ e2,Result.andThen]
   ·cases hr
  ·cases hr
 ·cases hr
end
end Go.Sym
namespace Go.Sym
open MapKept
set_option linter.unusedVariables false
set_option linter.unusedSimpArgs false
section
variable {wraps:List Nat} {ρi:Env} {P:Program} {E A:Nat->Prop} {w0:World} {ρ:Env} {F:Fr} {G:Hp} {a:Act} {w:World} {dst:Option Nat} {ty:TypeId} {pos:String} {af:Array Edge} {gd:Option (Nat × Bool)}
theorem appendS_sound {T:List (Nat × TI)} (hT:TOk P T) {t t2:Nat} {ty:TypeId} {d:Option Nat} (H:HSat ρ G w) (K:Keep E w0 w) (M:MutIn E A ρi w0.heap.size ρ G) {x:SV} {y:ByteArray} {r:Res}
  (hr:evAppS T G d t t2 x y=some r) (hp:r.Pre) {v:Value} (hd:Den ρ x v):
  ∃ z w' ρ',(Builtin.append_ #[t,t2] ty #[v,.string y]).run P w= .ok z w'/\Den ρ' r.v z/\HSat ρ' (upds G r.wr) w'/\Keep E w0 w'/\MutIn E A ρi w0.heap.size ρ' (upds G r.wr)/\
   (∀ l,G l≠none->ρ' l=ρ l)/\ZLe ρ ρ'/\(∀ l∈r.v.labs,upds G r.wr l≠none):=by
 cases hr
theorem convertS_sound {T:List (Nat × TI)} (hT:TOk P T) (S:St ρi E A w0 ρ F G a w) {s t:Nat} {x:Operand} {r:Res} (hr:evCv T G s t (oa F x)=some r) (hp:r.Pre):
  Left P ρi E A w0 ρ G a w ⟨dst,.convert s t x,ty,pos,af,gd⟩ r.v r.wr:=by
 cases hr
end
end Go.Sym
namespace Go.Sym
open MapKept
set_option linter.unusedVariables false
set_option linter.unusedSimpArgs false
section
variable {wraps:List Nat} {ρi:Env} {P:Program} {E A:Nat->Prop} {w0:World} {ρ:Env} {F:Fr} {G:Hp} {a:Act} {w:World} {dst:Option Nat} {ty:TypeId} {pos:String} {af:Array Edge} {gd:Option (Nat × Bool)}
theorem upds_same {l:Nat} {b:Blk} (hG:G l=some b):upds G [(l,b)]=G:=by
 funext x
 by_cases e:l=x
 ·subst e;rw[upds_one_same,hG]
 ·rw[upds_one_other _ _ e]
theorem cpyRows_zero (f:Nat->Nat->D) (lo:Nat) (g:Nat->Nat->D) (lo2:Nat):cpyRows f lo 0 g lo2=f:=by
 funext i j
 unfold cpyRows
 rw[if_neg (by omega)]
theorem put_rows (S:St ρi E A w0 ρ F G a w) {l lo m n lo2:Nat} {ks:List Kd} {f g:Nat->Nat->D} {pl:Place} (hG:G l=some (.rows .own ks n f)) (hpl:ρ l=some pl) {vs:Array Value}
  (hsz:vs.size=m*ks.length) (hv:∀ r,r<m->DenR ρ.z ks (g (lo2+r)) 0 vs (r*ks.length)) (hlo:lo+m<=n):
  ∃ w',(storeCells (ptr pl lo 0) vs.toList).run P w= .ok () w'/\HSat ρ (upds G [(l,.rows .own ks n (cpyRows f lo m g lo2))]) w'/\Keep E w0 w'/\
   MutIn E A ρi w0.heap.size ρ (upds G [(l,.rows .own ks n (cpyRows f lo m g lo2))]):=by
 rcases S.heap.blk _ _ hG with⟨h5,_⟩|⟨pl',_,_,e3,_⟩|⟨pl',arr,TT,fz,e1,e2,e3,_,e4,e5,e6,e7⟩
 ·rw[hpl]at h5;cases h5
 ·cases e3
 rw[hpl]at e1;cases e1
 have hf:=e3 rfl
 subst hf
 have hk:pl.k=ks.length:=e4
 have hcm:(lo+m)*pl.k<=pl.cap*pl.k:=Nat.mul_le_mul_right _ (by omega)
 rw[Nat.add_mul]at hcm
 have hcellable:∀ v∈vs.toList,cellable v=true:=by
  intro z hz
  obtain⟨i,hi,rfl⟩:=List.mem_iff_getElem.1 hz
  have hi':i<m*ks.length:=by simpa[hsz]using hi
  have hk0:0<ks.length:=by
   rcases Nat.eq_zero_or_pos ks.length with h|h
   ·rw[h]at hi';omega
   ·exact h
  have h8:=hv (i / ks.length) (by rw[Nat.div_lt_iff_lt_mul hk0];exact hi')
  rw[DenR_iff]at h8
  obtain⟨uu,q1,q2⟩:=h8 (i%ks.length) (Nat.mod_lt _ hk0)
  rw[Nat.mul_comm,Nat.div_add_mod,<- Array.getElem?_toList,List.getElem?_eq_getElem hi]at q1
  cases q1
  exact DenD_cellable q2
 obtain⟨arr',g1,g2⟩:=run_storeCells (P:=P) vs.toList w arr (pl.off+lo*pl.k) 0 e2 (by simp;rw[hsz,<- hk];omega) hcellable
 have hsize:arr'.size=arr.size:=by
  have:=congrArg List.length g2
  unfold spliceV at this
  simp at this
  rw[hsz]at this
  rw[<- hk]at this
  omega
 have hb:pl.b<w.heap.size:=heap_lt e2
 obtain⟨k1,k2,k3⟩:=stored S.heap S.keep S.mutin (b':=.rows .own ks n (cpyRows f lo m g lo2)) (obj:=.cells arr' TT (0,0)) hG rfl rfl hpl (by simp[Blk.labs])
  (.inr (.inr ⟨pl,arr',TT,(0,0),hpl,getElem_set_self hb _,fun _=>rfl,fun h=>(by cases h),e4,e5,by omega,fun r hr=>by
   have hrk:r*pl.k+pl.k<=pl.cap*pl.k:=by rw[<- Nat.succ_mul];exact Nat.mul_le_mul_right _ (by omega)
   have hlen:vs.toList.length=m*pl.k:=by simp[hsz,hk]
   by_cases hc:lo<=r/\r<lo+m
   ·have e:cpyRows f lo m g lo2 r=g (lo2+(r-lo)):=by funext c;simp[cpyRows,hc]
    rw[e]
    refine DenR_congr (hv (r-lo) (by omega)) fun c hcc=>?_
    have h10:lo*pl.k<=r*pl.k:=Nat.mul_le_mul_right _ hc.1
    have h11:r*pl.k+pl.k<=(lo+m)*pl.k:=by rw[<- Nat.succ_mul];exact Nat.mul_le_mul_right _ (by omega)
    rw[Nat.add_mul]at h11
    rw[<- Array.getElem?_toList,g2,Nat.add_zero,spliceV_get _ _ _ (by simp;rw[hsz,<- hk];omega),dif_pos ⟨by omega,by rw[hlen];omega⟩,<- Array.getElem?_toList,<- List.getElem?_eq_getElem]
    congr 1
    rw[Nat.sub_mul,<- hk]
    omega
   ·have e:cpyRows f lo m g lo2 r=f r:=by funext c;simp only[cpyRows,if_neg hc]
    rw[e]
    refine DenR_congr (e7 r hr) fun c hcc=>?_
    have h12:r<lo∨lo+m<=r:=by omega
    have h13:r*pl.k+pl.k<=lo*pl.k∨lo*pl.k+m*pl.k<=r*pl.k:=by
     rcases h12 with h|h
     ·left;rw[<- Nat.succ_mul];exact Nat.mul_le_mul_right _ h
     ·right;rw[<- Nat.add_mul];exact Nat.mul_le_mul_right _ h
    rw[<- Array.getElem?_toList,g2,Nat.add_zero,spliceV_get _ _ _ (by simp;rw[hsz,<- hk];omega),dif_neg (by rw[hlen];omega),Array.getElem?_toList]⟩))
 refine⟨_,?_,k1,k2,k3⟩
 simp only[ptr,Nat.add_zero]
 exact g1
theorem zeroCells_get {z:Array Value} {n r j:Nat} (hr:r<n) (hj:j<z.size):(Builtin.zeroCells z n)[r*z.size+j]? =z[j]? :=by
 have h1:r*z.size+z.size<=n*z.size:=by rw[<- Nat.succ_mul];exact Nat.mul_le_mul_right _ hr
 unfold Builtin.zeroCells
 rw[Array.getElem?_map,Array.getElem?_range,if_pos (by omega)]
 simp only[Option.map_some]
 rw[Nat.mul_comm,Nat.mul_add_mod,Nat.mod_eq_of_lt hj,getElem!_pos z j hj,Array.getElem?_eq_getElem hj]
theorem zeroCells_size (z:Array Value) (n:Nat):(Builtin.zeroCells z n).size=n*z.size:=by simp[Builtin.zeroCells]
theorem run_appendZ {t t2 e:Nat} {k:IntKind} {ty:TypeId} {ti:TI} (h1:P.underlying t=some (.slice e)) (h2:P.underlying t2=some (.int k)) (he:TiOk P e ti) (hb:ti.bytes<=1024) (hs:1<=ti.size) {k':IntKind} {m:Int} (hm0:0<=m) (hm:m<=1048576):
  (m=0/\(Builtin.append_ #[t,t2] ty #[.slice none 0 0,.int k' m]).run P w= .ok (.slice none 0 0) w)∨
  (0<m/\∃ nc rest z,m.toNat<=nc/\(zeroValue e).run P w.drew= .ok z w.drew/\zsOk ti.zero z.cells.toList=true/\z.cells.size=ti.size/\(rest:Array Value).size=(nc-m.toNat)*ti.size/\(Builtin.append_ #[t,t2] ty #[.slice none 0 0,.int k' m]).run P w=
   .ok (.slice (some ⟨w.heap.size,0,none⟩) m.toNat nc) { w.drew with heap:=w.heap.push (.cells (#[]++Builtin.zeroCells z.cells m.toNat++rest) e)}):=by
 obtain⟨iB,hB1,hB2⟩:∃ i,P.info? e=some i/\i.bytes=ti.bytes:=by
  obtain⟨i,z,hi,_,_,hbb,_⟩:=he.i
  exact⟨i,hi,hbb⟩
 have hw:IntKind.i64.wrap m=m:=wrap_inR (k:=.i64) (by simp only[inR];omega)
 have hbig:¬ (m*(ti.bytes:Int)>2 ^ 48):=by
  have:m*(ti.bytes:Int)<=1048576*1024:=Int.mul_le_mul hm (by omega) (by omega) (by omega)
  omega
 rcases(show m=0∨0<m by omega)with rfl|hp
 ·left
  refine⟨rfl,?_⟩
  unfold Builtin.append_
  simp only[List.getElem?_toArray,List.getElem?_cons_zero,List.getElem?_cons_succ]
  simp[run_underlying h1,run_underlying h2,run_sizeOf he,asInt,asIntOf,hw,run_typeInfo hB1,hB2]
 ·right
  obtain⟨z,hz1,hz2,hz3⟩:=run_zeroValue (w:=w.drew) he
  have hc:¬ (0+m.toNat<=0):=by omega
  have hsmall:¬ (Builtin.nextslicecap (0+m.toNat) 0*ti.bytes>2 ^ 48):=by
   have h5:=nextcap_le (show 0<0+m.toNat by omega)
   have:Builtin.nextslicecap (0+m.toNat) 0*ti.bytes<=((0+m.toNat)+(0+m.toNat) / 4+1000)*1024:=Nat.mul_le_mul h5 hb
   omega
  refine⟨hp,(0+m.toNat)+w.tape w.drawn (.appendCap (0+m.toNat) 0 e)%(2 ^ 63-(0+m.toNat)),Builtin.zeroCells z.cells ((0+m.toNat)+w.tape w.drawn (.appendCap (0+m.toNat) 0 e)%(2 ^ 63-(0+m.toNat))-(0+m.toNat)),z,by omega,hz1,hz2,hz3,
   by simp[Builtin.zeroCells,hz3],?_⟩
  have hlim:(IntKind.i64.max:Int)=9223372036854775807:=rfl
  have hmax:¬ (((0+m.toNat:Nat):Int)>IntKind.i64.max/\(True∨ti.bytes=0)):=by
   rintro⟨h,_⟩
   omega
  have hask:∀(k:Nat) (w:World),(askRoom k).run P w= .ok () w:=by
   intro k w
   unfold askRoom
   split
   ·rfl
   ·rfl
  have hnz:¬ (m.toNat*ti.size=0):=by
   have:=Nat.mul_le_mul (show 1<=m.toNat by omega) hs
   omega
  have hneg:¬ m<0:=by omega
  unfold Builtin.append_
  simp only[List.getElem?_toArray,List.getElem?_cons_zero,List.getElem?_cons_succ]
  simp only[Sem.run_bind,run_underlying h1,run_underlying h2,Result.andThen_ok,run_sizeOf he,Sem.run_pure,if_true,asInt,asIntOf,hw,if_neg hneg,run_typeInfo hB1,hB2,if_neg hbig,if_neg hc]
  rw[if_neg (by simpa using hmax)]
  simp only[Sem.run_bind,run_typeInfo hB1,hB2,Result.andThen_ok,Sem.run_pure]
  rw[if_neg hsmall]
  simp only[Sem.run_bind,choose,Sem.run,Question.forced,Question.cut,Bool.false_eq_true,if_false,Result.andThen_ok,hask,Sem.run_pure,run_typeInfo hB1]
  simp only[World.drew_eq,Builtin.firstCells,Result.andThen_ok,Bool.not_true,Bool.false_eq_true,if_false,if_neg hnz,Sem.run_bind,hz1,newRow,run_newObj,Sem.run_pure]
  simp
  rfl
theorem evB2_sound {T:List (Nat × TI)} (hT:TOk P T) (S:St ρi E A w0 ρ F G a w) {b:Builtin} {args:Array Operand} {tys:Array TypeId} {ty:TypeId} {r:Res} {dst:Option Nat} {pos:String} {af:Array Edge} {gd:Option (Nat × Bool)}
  (hr:evB2 T G dst b tys.toList (args.toList.map (oa F))=some r) (hp:r.Pre):
  Left P ρi E A w0 ρ G a w ⟨dst,.call ⟨.builtin b,args,tys⟩,ty,pos,af,gd⟩ r.v r.wr:=by
 obtain⟨cc,hrun⟩:∃ cc:Array Bool,(execOp a.eval ⟨dst,.call ⟨.builtin b,args,tys⟩,ty,pos,af,gd⟩).run P w=(builtin b tys ty cc (args.map a.eval)).run P w:=
  ⟨_,by simp[execOp,resolve,invoke];rfl⟩
 have hd:=map_den S.fr args.toList
 have hm:(args.map a.eval).toList=args.toList.map a.eval:=by simp
 have one:∀ {x:SV},args.toList.map (oa F)=[x]->∃ v,args.map a.eval= #[v]/\Den ρ x v:=by
  intro x hxs
  rw[hxs]at hd
  cases hav:args.toList.map a.eval with
  |nil=>rw[hav]at hd;simp[DenL]at hd
  |cons v vs=>cases vs with
   |cons u us=>rw[hav]at hd;have:=hd.length;simp at this
   |nil=>rw[hav,DenL_cons]at hd;exact⟨v,by apply Array.ext';rw[hm];simpa using hav,hd.1⟩
 have two:∀ {x y:SV},args.toList.map (oa F)=[x,y]->∃ v u,args.map a.eval= #[v,u]/\Den ρ x v/\Den ρ y u:=by
  intro x y hxs
  rw[hxs]at hd
  cases hav:args.toList.map a.eval with
  |nil=>rw[hav]at hd;simp[DenL]at hd
  |cons v vs=>cases vs with
   |nil=>rw[hav]at hd;have:=hd.length;simp at this
   |cons u us=>
    rw[hav,DenL_cons,DenL_cons]at hd
    have hus:us=[]:=DenL_nil.1 hd.2.2
    subst hus
    exact⟨v,u,by apply Array.ext';rw[hm];simpa using hav,hd.1,hd.2.1⟩
 unfold evB2 at hr
 split at hr
 ·
  rename_i t hts hxs
  obtain⟨v,hav,hv⟩:=one hxs
  have htys:tys= #[t]:=by apply Array.ext';simpa using hts
  split at hr
  ·rename_i e s1 s2 s3 hti
   cases hr
   have hu:=slice_shape hT hti
   simp only[Den]at hv
   subst hv
   refine Left.pure S (u:=.int .i64 0) ?_ (by simp[Den]) (by simp[SV.labs])
   rw[hrun,htys,hav]
   simp[builtin,Builtin.cap_,run_underlying hu,goInt]
  ·cases hr
 ·
  rename_i t l lo len hts hxs
  obtain⟨v,hav,hv⟩:=one hxs
  have htys:tys= #[t]:=by apply Array.ext';simpa using hts
  split at hr
  ·rename_i e s1 s2 s3 hti
   split at hr
   ·rename_i ti hte
    split at hr
    ·rename_i ks ks' n f hks hG
     split at hr
     ·rename_i hsame
      cases hr
      rw[<- kdsSame_iff.1 hsame]at hG
      have hpre:lo+len<=n:=hp
      have hu:=slice_shape hT hti
      have he:=hT _ _ hte
      obtain⟨hkl,hz⟩:=kdsE_spec hks he
      have fin:∀ w',(Builtin.clear_ #[t] ty #[v]).run P w= .ok (.tuple #[]) w'->HSat ρ (upds G [(l,.rows .own ks n (cpyRows f lo len (fun _ j=>zRow ks j) 0))]) w'->Keep E w0 w'->
        MutIn E A ρi w0.heap.size ρ (upds G [(l,.rows .own ks n (cpyRows f lo len (fun _ j=>zRow ks j) 0))])->Left P ρi E A w0 ρ G a w ⟨dst,.call ⟨.builtin .clear,args,tys⟩,ty,pos,af,gd⟩ (.tup []) [(l,.rows .own ks n (cpyRows f lo len (fun _ j=>zRow ks j) 0))]:=by
       intro w' q1 q2 q3 q4
       refine⟨.value (.tuple #[]),w',ρ,?_,.inl ⟨_,rfl,by simp[Den,DenL]⟩,q2,q3,q4,fun _ _=>rfl,ZLe.refl _,by simp[SV.labs,labsL]⟩
       rw[hrun,htys,hav]
       simp[builtin,q1]
      by_cases h0:len=0
      ·subst h0
       have hsame':upds G [(l,Blk.rows .own ks n (cpyRows f lo 0 (fun _ j=>zRow ks j) 0))]=G:=by rw[cpyRows_zero];exact upds_same hG
       refine fin w ?_ (by rw[hsame'];exact S.heap) S.keep (by rw[hsame'];exact S.mutin)
       obtain⟨q,c,rfl⟩:∃ q c,v= .slice q 0 c:=by
        simp only[Den]at hv
        rcases hv with⟨_,rfl,_⟩|⟨_,_,_,rfl,_⟩ <;>exact⟨_,_,rfl⟩
       cases q <;>simp[Builtin.clear_,run_underlying hu]
      ·simp only[Den]at hv
       rcases hv with⟨_,rfl,h1,_⟩|⟨pl,ad,hpl,rfl,h1,h2⟩
       ·exact absurd h1 h0
       ·have had:=h2 (by omega)
        subst had
        obtain⟨z,hz1,hz2,hz3⟩:=run_zeroValue (w:=w) he
        obtain⟨w',q1,q2,q3,q4⟩:=put_rows (P:=P) (lo:=lo) (m:=len) (lo2:=0) (g:=fun _ j=>zRow ks j) (vs:=Builtin.zeroCells z.cells len) S hG hpl (by rw[zeroCells_size,hz3,hkl])
         (fun r hr=>hz z.cells hz2 _ _ _ fun j hj=>by rw[show ks.length=z.cells.size by rw[hz3,hkl]];exact zeroCells_get hr (by rw[hz3,<- hkl];exact hj)) hpre
        refine fin w' ?_ q2 q3 q4
        cases len with
        |zero=>exact absurd rfl h0
        |succ k=>simp[Builtin.clear_,run_underlying hu,hz1,q1]
     ·cases hr
    ·cases hr
   ·cases hr
  ·cases hr
 ·
  rename_i t t2 l lo len y hts hxs
  obtain⟨v,u,hav,hv,hy⟩:=two hxs
  have htys:tys= #[t,t2]:=by apply Array.ext';simpa using hts
  split at hr
  ·rename_i e s1 s2 s3 hti
   split at hr
   ·rename_i ti hte
    split at hr
    ·rename_i ks ks' n f hks hG
     split at hr
     ·rename_i rd lo2 m n2 g hsame hsrc
      cases hr
      rw[<- kdsSame_iff.1 hsame]at hG
      obtain⟨p1,p2⟩:lo+len<=n/\lo2+m<=n2:=hp
      have hu:=slice_shape hT hti
      have he:=hT _ _ hte
      obtain⟨hkl,_⟩:=kdsE_spec hks he
      have src:∃ b2 c2,u= .slice b2 m c2/\∀ k,k<=m->∃ vs,Reads P ρ.z w ks k (.slice b2 m c2) g lo2 vs:=by
       unfold appSrc at hsrc
       split at hsrc
       ·rename_i l2 lo' len'
        split at hsrc
        ·rename_i mm ks2 n' f' hG2
         split at hsrc
         ·rename_i hsame2
          cases hsrc
          rw[<- kdsSame_iff.1 hsame2]at hG2
          have hy0:=hy
          simp only[Den]at hy
          rcases hy with⟨_,rfl,rfl,rfl⟩|⟨pl2,ad2,hpl2,rfl,i1,i2⟩
          ·exact ⟨_, _, rfl, fun k hk => ⟨#[], by obtain rfl : k = 0 := by omega
                                                  exact Reads.none⟩⟩
          ·refine⟨_,_,rfl,fun k hk=>?_⟩
           obtain⟨b3,c3,e3,vs,hvs⟩:=Reads.sl (P:=P) S.heap hG2 (show lo2+k<=n2 by omega) (v:=.slice (some ad2) k (pl2.cap-lo2)) (by simp only[Den];exact .inr ⟨pl2,ad2,hpl2,rfl,by omega,i2⟩)
           cases e3
           exact⟨vs,fun w' hw'=>by have:=hvs.1 w' hw';simpa[Builtin.firstCells]using this,hvs.2⟩
         ·cases hsrc
        ·cases hsrc
       ·cases hsrc
        simp only[Den]at hy
        subst hy
        exact ⟨_, _, rfl, fun k hk => ⟨#[], by obtain rfl : k = 0 := by omega
                                               exact Reads.none⟩⟩
       ·cases hsrc
      obtain⟨b2,c2,rfl,hvs⟩:=src
      obtain⟨vs,r1,r2,r3⟩:=hvs (min m len) (by omega)
      have fin:∀ w',(Builtin.copy_ #[t,t2] ty #[v,.slice b2 m c2]).run P w= .ok (.int .i64 (min m len:Nat)) w'->HSat ρ (upds G [(l,.rows .own ks n (cpyRows f lo (min m len) g lo2))]) w'->Keep E w0 w'->
        MutIn E A ρi w0.heap.size ρ (upds G [(l,.rows .own ks n (cpyRows f lo (min m len) g lo2))])->Left P ρi E A w0 ρ G a w ⟨dst,.call ⟨.builtin .copy,args,tys⟩,ty,pos,af,gd⟩ (.i .i64 (min m len:Nat)) [(l,.rows .own ks n (cpyRows f lo (min m len) g lo2))]:=by
       intro w' q1 q2 q3 q4
       refine⟨.value (.int .i64 (min m len:Nat)),w',ρ,?_,.inl ⟨_,rfl,by simp[Den]⟩,q2,q3,q4,fun _ _=>rfl,ZLe.refl _,by simp[SV.labs]⟩
       rw[hrun,htys,hav]
       simp[builtin,q1]
      have hfc:=r1 w rfl
      rw[hkl]at hfc
      by_cases h0:min m len=0
      ·have hsame':upds G [(l,Blk.rows .own ks n (cpyRows f lo (min m len) g lo2))]=G:=by rw[h0,cpyRows_zero];exact upds_same hG
       have hvs0:vs.toList=[]:=by
        rw[h0]at r2
        simp at r2
        simp[r2]
       obtain⟨q,c,rfl⟩:∃ q c,v= .slice q len c:=by
        simp only[Den]at hv
        rcases hv with⟨_,rfl,rfl,_⟩|⟨_,_,_,rfl,_⟩ <;>exact⟨_,_,rfl⟩
       refine fin w ?_ (by rw[hsame'];exact S.heap) S.keep (by rw[hsame'];exact S.mutin)
       have e1:Nat.min m len=min m len:=rfl
       cases q <;>simp[Builtin.copy_,run_underlying hu,Builtin.lenOf,run_sizeOf he,e1,hfc,hvs0,storeCells,goInt]
      ·simp only[Den]at hv
       rcases hv with⟨_,rfl,h1,_⟩|⟨pl,ad,hpl,rfl,h1,h2⟩
       ·omega
       ·have had:=h2 (by omega)
        subst had
        obtain⟨w',q1,q2,q3,q4⟩:=put_rows (P:=P) (lo:=lo) (m:=min m len) (lo2:=lo2) (g:=g) (vs:=vs) S hG hpl r2 r3 (by omega)
        refine fin w' ?_ q2 q3 q4
        have e1:Nat.min m len=min m len:=rfl
        simp[Builtin.copy_,run_underlying hu,Builtin.lenOf,run_sizeOf he,e1,hfc,q1,goInt]
     ·cases hr
    ·cases hr
   ·cases hr
  ·cases hr
 ·
  rename_i t t2 kk m hts hxs
  obtain⟨v,u,hav,hv,hy⟩:=two hxs
  have htys:tys= #[t,t2]:=by apply Array.ext';simpa using hts
  split at hr
  ·rename_i e s1 s2 s3 k q1 q2 q3 hti hti2
   split at hr
   ·rename_i ti hte
    split at hr
    ·rename_i ks hks hby hsz
     obtain⟨d',rfl,hGd,rfl⟩:=newAt_spec hr
     obtain⟨p1,p2⟩:0<=m/\m<=1048576:=hp
     have hu:=slice_shape hT hti
     have hu2:=int_shape hT hti2
     have he:=hT _ _ hte
     obtain⟨hkl,hz⟩:=kdsE_spec hks he
     simp only[Den]at hv hy
     subst hv
     subst hy
     rcases run_appendZ (P:=P) (w:=w) (ty:=ty) hu hu2 he (Nat.le_of_ble_eq_true hby) (Nat.le_of_ble_eq_true hsz) (k':=kk) p1 p2 with⟨h0,h2⟩|⟨h0,nc,rest,z,h2,h3,h4,h5,h6,h7⟩
     ·subst h0
      refine⟨.value (.slice none 0 0),w,updE ρ d' none,?_,.inl ⟨_,rfl,?_⟩,?_,S.keep,S.mutin.add (fun q e _=>by cases e) (fun q e _=>by cases e),updE_keep hGd,updE_z _ _ _,?_⟩
      ·rw[hrun,htys,hav];simp[builtin,h2]
      ·simp only[Den]
       exact .inl ⟨updE_same _ _ _,by simp⟩
      ·exact S.heap.add hGd (by simp[Blk.labs]) (fun _ _ _ _ _ _=>rfl) S.heap.zok (fun _ _ _ _ _ _ _ e=>by cases e) (fun _ e=>by cases e) (.inl ⟨updE_same _ _ _,rfl⟩)
      ·intro l hl;simp[SV.labs]at hl;subst hl;simp[upds_one_same]
     ·have hsz1:z.cells.size=ks.length:=by rw[h5,hkl]
      have hcells:∀ r,r<m.toNat->DenR ρ.z ks (zRow ks) 0 (#[]++Builtin.zeroCells z.cells m.toNat++rest) (r*ks.length):=fun r hr=>hz z.cells h4 _ _ _ fun j hj=>by
       have h8:=zeroCells_get (z:=z.cells) hr (by rw[hsz1];exact hj)
       rw[hsz1]at h8
       have h9:r*ks.length+ks.length<=m.toNat*ks.length:=by rw[<- Nat.succ_mul];exact Nat.mul_le_mul_right _ hr
       rw[Array.empty_append,Array.getElem?_append_left (by rw[zeroCells_size,hsz1];omega),h8]
      have hsz2:nc*ks.length<=(#[]++Builtin.zeroCells z.cells m.toNat++rest).size:=by
       have h9:(nc-m.toNat)*ti.size+m.toNat*ti.size=nc*ti.size:=by rw[<- Nat.add_mul];congr 1;omega
       simp only[Array.size_append,zeroCells_size,hsz1,h6]
       rw[hkl]
       simp
       omega
      obtain⟨k1,k2,k3,k4⟩:=pushed (b:=.rows .own ks m.toNat (fun _ j=>zRow ks j)) (w':={ w.drew with heap:=w.heap.push (.cells (#[]++Builtin.zeroCells z.cells m.toNat++rest) e)}) S.heap S.keep S.mutin hGd (by simp[Blk.labs]) rfl rfl rfl rfl rfl
       (grown_ok (ρ:=ρ) (d:=d') (w:=w) (nc:=nc) rfl h2 hsz2 hcells)
      refine⟨.value (.slice (some ⟨w.heap.size,0,none⟩) m.toNat nc),_,_,?_,.inl ⟨_,rfl,?_⟩,k1,k2,k3,k4,updE_z _ _ _,?_⟩
      ·rw[hrun,htys,hav]
       simp only[builtin,Sem.run_bind,h7,Result.andThen_ok,Sem.run_pure]
      ·simp only[Den]
       exact .inr ⟨_,⟨w.heap.size,0,none⟩,updE_same _ _ _,by simp,by simpa using h2,fun _=>by simp[ptr]⟩
      ·intro l hl;simp[SV.labs]at hl;subst hl;simp[upds_one_same]
    ·cases hr
   ·cases hr
  ·cases hr
 ·
  rename_i t t2 x y hts hxs
  obtain⟨v,u,hav,hv,hy⟩:=two hxs
  have htys:tys= #[t,t2]:=by apply Array.ext';simpa using hts
  simp only[Den]at hy
  subst hy
  obtain⟨z,w',ρ',h1,h2,h3,h4,h5,h6,h7,h8⟩:=appendS_sound (P:=P) (ty:=ty) hT S.heap S.keep S.mutin hr hp hv
  refine⟨.value z,w',ρ',?_,.inl ⟨_,rfl,h2⟩,h3,h4,h5,h6,h7,h8⟩
  rw[hrun,htys,hav]
  simp[builtin,h1]
 ·cases hr
end
end Go.Sym
namespace Go.Sym
set_option linter.unusedVariables false
set_option linter.unusedSimpArgs false
section
variable {ρi:Env} {P:Program} {E A:Nat->Prop} {w0:World} {ρ:Env} {F:Fr} {G:Hp} {a:Act} {w:World}
theorem apK_eq (a b:List Kd):apK a b=a++b:=by induction a with|nil=>rfl|cons x r ih=>simp[apK,ih]
theorem kdsOk_get:∀ {ks:List Kd} {xs:List SV},kdsOk ks xs=true->∀ j (h:j<ks.length),∃ x,xs[j]? =some x/\kdOk (ks[j]'h) x=true
 | [],_,_,j,h=>by simp at h
 |k::ks,[],h,_,_=>by simp[kdsOk]at h
 |k::ks,x::xs,h,j,hj=>by
  simp only[kdsOk]at h
  split at h
  ·rename_i hk
   cases j with
   |zero=>exact⟨x,rfl,hk⟩
   |succ j=>simpa using kdsOk_get h j (by simpa using hj)
  ·cases h
theorem zsOk_get:∀ {xs:List SV} {vs:List Value},zsOk xs vs=true->∀(j:Nat) (x:SV),xs[j]? =some x->∃ v,vs[j]? =some v/\zOk x v=true
 | [],_,_,j,x,h=>by simp at h
 |x::xs,[],h,_,_,_=>by simp[zsOk]at h
 |x::xs,v::vs,h,j,y,hj=>by
  simp only[zsOk,Bool.and_eq_true]at h
  cases j with
  |zero=>simp at hj;subst hj;exact⟨v,rfl,h.1⟩
  |succ j=>simpa using zsOk_get h.2 j y (by simpa using hj)
theorem repK_length (n:Nat) (ks:List Kd):(repK n ks).length=n*ks.length:=by
 induction n with
 |zero=>simp[repK]
 |succ n ih=>simp[repK,apK_eq,ih,Nat.add_mul,Nat.add_comm]
theorem repK_get (ks:List Kd):∀(n r j:Nat) (hj:j<ks.length) (h:r*ks.length+j<(repK n ks).length),(repK n ks)[r*ks.length+j]'h=ks[j]'hj
 |0,r,j,hj,h=>by simp[repK]at h
 |n+1,0,j,hj,h=>by simp[repK,apK_eq,List.getElem_append,hj]
 |n+1,r+1,j,hj,h=>by
  have h':r*ks.length+j<(repK n ks).length:=by
   rw[repK_length]at h ⊢
   rw[Nat.add_mul,Nat.add_mul]at h;omega
  have:=repK_get ks n r j hj h'
  simp only[repK,apK_eq]
  rw[List.getElem_append_right (by rw[Nat.add_mul];omega)]
  rw[<- this]
  congr 1
  rw[Nat.add_mul];omega
theorem arr_zero {T:List (Nat × TI)} {e n:Nat} {te:TI} {ks:List Kd} {zs:List SV} {z:Array Value} {zf:Nat->Option Obj} (h:kdsZero T e n zs=true) (hk:kdsE T e te=some ks) (hz:zsOk zs z.toList=true):
  ∀ r,r<n->DenR zf ks (zRow ks) 0 z (r*ks.length):=by
 intro r hr
 have hT:kdsT T 12 e=some ks:=by
  unfold kdsE at hk
  split at hk
  ·rename_i ks' hks
   split at hk
   ·cases hk;exact hks
   ·cases hk
  ·cases hk
 unfold kdsZero at h
 rw[hT]at h
 simp only at h
 rw[DenR_iff]
 intro j hj
 have hlt:r*ks.length+j<(repK n ks).length:=by rw[repK_length];exact row_bound hr hj
 obtain⟨x,h1,h2⟩:=kdsOk_get h _ hlt
 obtain⟨v,h3,h4⟩:=zsOk_get hz _ _ h1
 rw[repK_get ks n r j hj hlt]at h2
 refine⟨v,by simpa using h3,?_⟩
 rw[Nat.zero_add,zRow_get ks j hj]
 exact zD_den h2 h4
set_option maxHeartbeats 2000000 in
theorem ev_sound {T:List (Nat × TI)} (hT:TOk P T) (S:St ρi E A w0 ρ F G a w) {wraps:List Nat} {o:Oper} {r:Res} (hr:ev T wraps F G o=some r) (hp:r.Pre):
  Left P ρi E A w0 ρ G a w o r.v r.wr:=by
 obtain⟨dst,op,ty,pos,af,gd⟩:=o
 unfold ev at hr
 cases op <;>simp only[]at hr <;>try cases hr
 case move x=>exact Left.pure S rfl (oa_den S.fr x) (oa_scp S.scp x)
 case assign x=>exact Left.pure S rfl (oa_den S.fr x) (oa_scp S.scp x)
 case alloc t=>
  split at hr
  ·rename_i ti hti
   obtain⟨z,z1,z2,z3⟩:=run_zeroValue (w:=w) (hT _ _ hti)
   have hrun:(execOp a.eval ⟨dst,.alloc t,ty,pos,af,gd⟩).run P w= .ok (.value (.pointer (some ⟨w.heap.size,0,none⟩))) { w with heap:=w.heap.push (.cells z.cells t)}:=by
    simp only[execOp]
    refine run_v ?_
    simp[Instr.alloc,z1,newVar,newRow]
   have plain:newAt G dst (.one .own ti.zero) (fun d=>.p d 0 0) [] none=some r->Left P ρi E A w0 ρ G a w ⟨dst,.alloc t,ty,pos,af,gd⟩ r.v r.wr:=by
    intro hr
    obtain⟨d,hd,hGd,rfl⟩:=newAt_spec hr
    exact Left.box S hGd (zsOk_den z2) (by rw[zsOk_labs z2];simp) (T:=t) (vs:=z.cells) hrun
   split at hr
   ·rename_i n e htd
    split at hr
    ·rename_i te hte
     split at hr
     ·rename_i ks hks hsz hn hzero
      obtain⟨d,hd,hGd,rfl⟩:=newAt_spec hr
      have hn:=Nat.le_of_ble_eq_true hn
      have hsz:=Nat.eq_of_beq_eq_true hsz
      obtain⟨hkl,hz⟩:=kdsE_spec hks (hT _ _ hte)
      exact Left.boxRows S hGd hn (by rw[z3,hsz,hkl]) (arr_zero hzero hks z2) hrun
     ·cases hr
    ·cases hr
   ·exact plain hr
  ·cases hr
 case box t x=>
  have hd:=oa_den S.fr x
  have hl:=oa_scp S.scp x
  have hrun:(execOp a.eval ⟨dst,.box t x,ty,pos,af,gd⟩).run P w= .ok (.value (.pointer (some ⟨w.heap.size,0,none⟩))) { w with heap:=w.heap.push (.cells (a.eval x).cells t)}:=by
   simp only[execOp]
   refine run_v ?_
   simp[Instr.box,newVar,newRow]
  split at hr
  ·rename_i ks n f hx
   split at hr
   ·rename_i hn
    obtain⟨d,hdd,hGd,rfl⟩:=newAt_spec hr
    rw[hx]at hd
    simp only[Den]at hd
    obtain⟨vs,hv,hs,hc⟩:=hd
    rw[hv]at hrun
    exact Left.boxRows S hGd (Nat.le_of_ble_eq_true hn) hs hc hrun
   ·cases hr
  ·rename_i x' hx
   split at hr
   ·rename_i cs hcs
    obtain⟨d,hdd,hGd,rfl⟩:=newAt_spec hr
    exact Left.box S hGd (cells_den hcs hd) (by rw[cells_labs hcs];exact hl) (T:=t) (vs:=(a.eval x).cells) hrun
   ·cases hr
 case build t ps=>
  split at hr
  ·rename_i fs s b z hti
   split at hr
   ·rename_i cs hcs
    cases hr
    obtain⟨arr,g1,g2,g3⟩:=run_build hT S hti hcs
    refine Left.pure S (u:=.agg arr) ?_ (by simp only[Den];exact⟨arr,rfl,g2⟩) (by simpa[SV.labs]using g3)
    simp only[execOp]
    exact run_v g1
   ·cases hr
  ·rename_i n e size b z hti
   split at hr
   ·rename_i te hte
    split at hr
    ·rename_i ks hks hsz h1 hzero
     have he:=hT _ _ hte
     have hu:=arr_shape hT hti
     have h1:=Nat.le_of_ble_eq_true h1
     have hsz:=Nat.eq_of_beq_eq_true hsz
     obtain⟨hkl,hz⟩:=kdsE_spec hks he
     obtain⟨zv,z1,z2,z3⟩:=run_zeroValue (w:=w) (hT _ _ hti)
     have hps:(ps.map fun(x:Nat × Operand)=>(x.1,a.eval x.2)).toList=ps.toList.map fun p=>(p.1,a.eval p.2):=by simp
     have hbuild:∀ arr',Instr.fill (fun i=>some (i*te.size,te.size)) zv.cells (ps.toList.map fun p=>(p.1,a.eval p.2))=some arr'->(Instr.build t (ps.map fun(i,x)=>(i,a.eval x))).run P w= .ok (.agg arr') w:=by
      intro arr' hf
      unfold Instr.build
      simp only[Sem.run_bind,z1,Result.andThen_ok,run_underlying hu,run_sizeOf he,Sem.run_pure]
      simp only[Array.toList_map]
      rw[hf]
      rfl
     split at hr
     ·rename_i hnil
      cases hr
      refine Left.pure S (u:=.agg zv.cells) ?_ ?_ (by simp[SV.labs])
      ·simp only[execOp]
       refine run_v (hbuild _ ?_)
       rw[hnil];rfl
      ·simp only[Den]
       exact⟨_,rfl,by rw[z3,hsz,hkl],arr_zero hzero hks z2⟩
     ·split at hr
      ·rename_i rs qs hrs
       split at hr
       ·rename_i hlen
        cases hr
        have hlen:=Nat.eq_of_beq_eq_true hlen
        rw[lenR_eq]at hlen
        obtain⟨arr',g1,g2,g3,g4⟩:=rowsOf_fill (a:=a) S.heap hkl S.fr ps.toList 0 rs qs zv.cells hrs hp (by rw[Nat.zero_add,hlen,z3,hsz];exact Nat.le_refl _)
        refine Left.pure S (u:=.agg arr') ?_ ?_ (by simp[SV.labs])
        ·simp only[execOp]
         exact run_v (hbuild _ g1)
        ·simp only[Den]
         refine⟨_,rfl,by rw[g2,z3,hsz,hkl],fun r hr=>?_⟩
         have:=g4 r (by omega)
         rw[Nat.zero_add]at this
         rw[hkl];exact this
       ·cases hr
      ·cases hr
    ·cases hr
   ·cases hr
  ·cases hr
 case buildSlice t n ps=>
  split at hr
  ·rename_i e s1 s2 s3 hti
   split at hr
   ·rename_i ti htie
    split at hr
    ·rename_i ks hks
     split at hr
     ·rename_i rs qs hrs h1 h2
      split at hr
      ·rename_i hlen
       obtain⟨d,hd,hGd,rfl⟩:=newAt_spec hr
       have he:=hT _ _ htie
       have hu:=slice_shape hT hti
       have hlen:=Nat.eq_of_beq_eq_true hlen
       rw[lenR_eq]at hlen
       have h2:=Nat.le_of_ble_eq_true h2
       have h1:=Nat.le_of_ble_eq_true h1
       obtain⟨z,z1,z2,z3⟩:=run_zeroValue (w:=w) he
       obtain⟨hkl,_⟩:=kdsE_spec hks he
       obtain⟨arr',g1,g2,g3,g4⟩:=rowsOf_fill (a:=a) S.heap hkl S.fr ps.toList 0 rs qs ((Array.range (n*ti.size)).map ((if n*ti.size=0 then #[]else z.cells)[· %(if n*ti.size=0 then #[]else z.cells).size]!)) hrs hp (by simp[hlen])
       have hsz:arr'.size=n*ti.size:=by rw[g2];simp
       refine Left.slice S hGd (arr:=arr') (e:=e) (cap:=n) (Nat.le_refl _) (by rw[hsz,hkl];exact Nat.le_refl _) (fun r hr=>by
        have:=g4 r (by omega)
        rw[Nat.zero_add]at this
        rw[hkl];exact this) ?_
       simp only[execOp]
       refine run_v ?_
       have hps:(ps.map fun(x:Nat × Operand)=>(x.1,a.eval x.2)).toList=ps.toList.map fun p=>(p.1,a.eval p.2):=by simp
       have hn:¬ (n*ti.size>2 ^ 24):=by omega
       simp only[Instr.buildSlice,Sem.run_bind,run_underlying hu,Result.andThen_ok,run_sizeOf he,if_neg hn,Sem.run_pure]
       by_cases h0:n*ti.size=0
       ·simp only[if_pos h0]at g1
        simp only[if_pos h0,Sem.run_pure,Result.andThen_ok,Array.toList_map,g1,newRow,Sem.run_bind,run_newObj]
       ·simp only[if_neg h0]at g1
        simp only[if_neg h0,Sem.run_bind,z1,Sem.run_pure,Result.andThen_ok,Array.toList_map,g1,newRow,run_newObj]
      ·cases hr
     ·cases hr
    ·cases hr
   ·cases hr
  ·cases hr
 case load t x=>
  split at hr
  ·rename_i ti hti
   obtain⟨u,ρ',g1,g2,g3,g4⟩:=evLoad_sound hT (hT _ _ hti) S.heap S.mutin hr hp (oa_den S.fr x)
   refine⟨.value u,w,ρ',?_,.inl ⟨u,rfl,g2⟩,g3.heap,S.keep,g3.mutin,g3.keep,g3.z,g4⟩
   simp only[execOp]
   exact run_v g1
  ·cases hr
 case store t x y=>
  split at hr
  ·rename_i ti hti
   obtain⟨w',g1,g2,g3,g4,g5⟩:=evStore_sound hT (hT _ _ hti) S.heap S.keep S.mutin hr hp (oa_den S.fr x) (oa_den S.fr y) (oa_scp S.scp y)
   refine⟨.skip,w',ρ,?_,.inr ⟨rfl,g2⟩,g3,g4,g5,fun _ _=>rfl,ZLe.refl _,by rw[g2];simp[SV.labs]⟩
   simp only[execOp]
   exact run_u g1
  ·cases hr
 case nilCheck x=>
  have hd:=oa_den S.fr x
  have hl:=oa_scp S.scp x
  split at hr
  ·rename_i l r' c hx
   cases hr
   rw[hx]at hd hl
   have hd':=hd
   simp only[Den]at hd'
   obtain⟨pl,_,hv⟩:=hd'
   exact Left.pure S (u:=a.eval x) (by simp only[execOp,hv];rfl) hd hl
  ·rename_i f cs hx
   cases hr
   rw[hx]at hd hl
   have hd':=hd
   simp only[Den]at hd'
   obtain⟨vs,hv,_⟩:=hd'
   exact Left.pure S (u:=a.eval x) (by simp only[execOp,hv];rfl) hd hl
  ·rename_i l n hx
   cases hr
   have hn:n≠0:=hp
   rw[hx]at hd hl
   simp only[Den]at hd
   rcases hd with⟨h0,_⟩|⟨pl,_,hpl,hv⟩
   ·exact absurd h0 hn
   ·exact Left.pure S (u:=a.eval x) (by simp only[execOp,hv];rfl) (by simp only[Den];exact⟨pl,hpl,hv⟩) (by simpa[SV.labs]using hl)
  ·cases hr
 case binOp op t x y u=>
  have hl:=evBin_sound (P:=P) (w:=w) hT hr hp (oa_den S.fr x) (oa_den S.fr y) x y
  obtain⟨z,g1,g2,g3,g4⟩:=hl
  rw[g3]
  refine Left.pure S (u:=z) ?_ g2 (by rw[g4];simp)
  simp only[execOp]
  exact run_v g1
 case unOp op t x=>
  have hd:=oa_den S.fr x
  split at hr
  ·rename_i v hx
   cases hr
   rw[hx]at hd
   simp only[Den]at hd
   exact Left.pure S (u:=.bool (!v)) (by simp only[execOp,hd];rfl) (by simp[Den]) (by simp[SV.labs])
  ·rename_i v hx
   cases hr
   rw[hx]at hd
   simp only[Den]at hd
   exact Left.pure S (u:=.bool (!v)) (by simp only[execOp,hd];rfl) (by simp[Den]) (by simp[SV.labs])
  ·rename_i k n hx
   cases hr
   rw[hx]at hd
   simp only[Den]at hd
   obtain⟨g1,g2,g3⟩:=arith_den (ρ:=ρ) hp
   rw[g2]
   exact Left.pure S (u:=.int k (k.wrap (0-n))) (by simp only[execOp,hd];rfl) g1 (by rw[g3];simp)
  ·cases hr
 case convert s t x=>
  have hd:=oa_den S.fr x
  split at hr
  ·rename_i tis k s1 s2 s3 k' n hts hti hx
   cases hr
   have hu:=int_shape hT hti
   obtain⟨ds,hds,_⟩:=(hT _ _ hts).d
   rw[hx]at hd
   simp only[Den]at hd
   obtain⟨g1,g2,g3⟩:=arith_den (ρ:=ρ) hp
   rw[g2]
   refine Left.pure S (u:=.int k (k.wrap n)) ?_ g1 (by rw[g3];simp)
   simp only[execOp]
   refine run_v ?_
   rw[hd]
   simp only[convert,Sem.run_bind,run_underlying hds,run_underlying hu,Result.andThen_ok]
   rfl
  ·exact convertS_sound hT S hr hp
 case makeFunc fn first caps=>
  cases fn <;>simp only[]at hr <;>try cases hr
  rename_i f
  ·split at hr
   ·rename_i hfirst
    cases hr
    have hf:first= #[]:=by simpa using hfirst
    subst hf
    refine Left.pure S (u:=.func (.func f) #[] (caps.map a.eval)) (by simp[execOp,Instr.makeFunc]) ?_ (by simpa[SV.labs]using map_labs S.scp caps.toList)
    simp only[Den]
    refine⟨caps.map a.eval,rfl,?_⟩
    have:(caps.map a.eval).toList=caps.toList.map a.eval:=by simp
    rw[this]
    exact map_den S.fr caps.toList
   ·split at hr
    ·rename_i hcaps
     cases hr
     have hf:caps= #[]:=by simpa using hcaps
     subst hf
     refine Left.pure S (u:=.func (.func f) (first.map a.eval) #[]) (by simp[execOp,Instr.makeFunc]) ?_ (by simpa[SV.labs]using map_labs S.scp first.toList)
     simp only[Den]
     refine⟨first.map a.eval,rfl,?_⟩
     have:(first.map a.eval).toList=first.toList.map a.eval:=by simp
     rw[this]
     exact map_den S.fr first.toList
    ·cases hr
 case makeSlice t x y=>
  have hx:=oa_den S.fr x
  have hy:=oa_den S.fr y
  split at hr
  ·rename_i e s1 s2 s3 k1 n k2 c hti hxx hyy
   split at hr
   ·rename_i ti htie
    split at hr
    ·rename_i ks hks hb hs1
     obtain⟨d,hd,hGd,rfl⟩:=newAt_spec hr
     obtain⟨p1,p2,p3⟩:0<=n/\n<=c/\c<=maxRows:=hp
     have hm:(maxRows:Int)=1073741824:=rfl
     rw[hxx]at hx
     rw[hyy]at hy
     simp only[Den]at hx hy
     have he:=hT _ _ htie
     have hu:=slice_shape hT hti
     obtain⟨i,z,i1,i2,i3,i4,i5,i6,_⟩:=he.i
     have hb:=Nat.le_of_ble_eq_true hb
     have hbytes:(i.bytes:Int)*c<=281474976710656:=by
      rw[i4]
      have h1:(ti.bytes:Int)<=1024:=by omega
      have h2:(ti.bytes:Int)*c<=1024*1073741824:=Int.mul_le_mul h1 (by omega) (by omega) (by omega)
      omega
     have hrun:=run_make (P:=P) w t e i z hu i1 i2 k1 k2 n c p1 p2 hbytes (by omega)
     obtain⟨hkl,hz⟩:=kdsE_spec hks he
     refine Left.slice S hGd (cap:=c.toNat) (by omega) (arr:=madeCells z.cells (c.toNat*i.size)) (e:=e) (by rw[size_madeCells,i3,hkl];exact Nat.le_refl _) (fun r hr=>?_) ?_
     ·refine hz z.cells i5 _ _ _ fun j hj=>?_
      rw[i3,<- hkl,madeCells_get (by rw[i6,hkl]) (show r<c.toNat by omega) hj]
     ·simp only[execOp,hx,hy]
      exact run_v hrun
    ·cases hr
   ·cases hr
  ·cases hr
 case slice t x lo hi mx=>
  split at hr
  ·rename_i e s1 s2 s3 hti
   split at hr
   ·rename_i l b len hx
    split at hr
    ·rename_i ti m ks n' f hte hG
     split at hr
     ·rename_i p q hlo hhi hsz
      cases hr
      obtain⟨p1,p2,p3⟩:0<=p/\p<=q/\q<=len:=hp
      have hsz:=Nat.eq_of_beq_eq_true hsz
      rw[lenK_eq]at hsz
      have hu:=slice_shape hT hti
      have hd:=oa_den S.fr x
      have hl:=oa_scp S.scp x
      rw[hx]at hd hl
      simp only[Den]at hd
      have bnd:∀(y:Operand) (v:Int) (bound:Nat) (code:BoundsCode),optI F 0 (some y)=some v->0<=v->v<=bound->(Instr.sliceBound (a.eval y) bound code).run P w= .ok v.toNat w:=by
       intro y v bound code h1 h2 h3
       have hdy:=oa_den S.fr y
       unfold optI at h1
       simp only at h1
       split at h1
       ·rename_i k n hy
        cases h1
        rw[hy]at hdy
        simp only[Den]at hdy
        rw[hdy]
        simp only[Instr.sliceBound,asIntOf,Sem.run_bind,Sem.run_pure,Result.andThen_ok]
        rw[if_pos ⟨h2,h3⟩]
        rfl
       ·cases h1
      have bounds:∀(cap:Nat),len<=cap->(Instr.sliceBounds true len cap (lo.map a.eval) (hi.map a.eval) none).run P w= .ok (p.toNat,q.toNat,cap) w:=by
       intro cap hcap
       have hq:(match hi.map a.eval with|some v=>Instr.sliceBound v cap .sliceAcap|none=>(pure len:Sem Nat)).run P w= .ok q.toNat w:=by
        cases hi with
        |none=>
         simp only[optI,Option.some.injEq]at hhi
         subst hhi
         simp
        |some y=>exact bnd y q cap _ (by simpa[optI]using hhi) (by omega) (by omega)
       have hp':(match lo.map a.eval with|some v=>Instr.sliceBound v q.toNat .sliceB|none=>(pure 0:Sem Nat)).run P w= .ok p.toNat w:=by
        cases lo with
        |none=>
         simp only[optI,Option.some.injEq]at hlo
         subst hlo
         simp
        |some y=>exact bnd y p q.toNat _ (by simpa[optI]using hlo) (by omega) (by omega)
       simp only[Instr.sliceBounds,Sem.run_bind,Sem.run_pure,Result.andThen_ok,if_true,Option.isSome_none,Bool.false_eq_true,if_false]
       cases hi with
       |none=>
        simp only[Option.map_none]at hq ⊢
        cases lo with
        |none=>
         simp only[Option.map_none]at hp' ⊢
         simp only[Sem.run_pure,Result.ok.injEq]at hq hp'
         simp[hq.1,<- hp'.1]
        |some y=>
         simp only[Option.map_some,Option.map_none]at hp' ⊢
         simp only[Sem.run_pure,Result.ok.injEq]at hq
         simp only[Sem.run_pure,Result.andThen_ok,hq.1,hp',Sem.run_bind]
       |some z=>
        simp only[Option.map_some]at hq ⊢
        cases lo with
        |none=>
         simp only[Option.map_none]at hp' ⊢
         simp only[Sem.run_pure,Result.ok.injEq]at hp'
         simp only[hq,Result.andThen_ok,Sem.run_pure,Sem.run_bind,<- hp'.1]
        |some y=>
         simp only[Option.map_some]at hp' ⊢
         simp only[hq,Result.andThen_ok,hp',Sem.run_bind,Sem.run_pure]
      have run:∀(ao:Option Addr) (cap:Nat),len<=cap->a.eval x= .slice ao len cap->
        (execOp a.eval ⟨dst,.slice t x lo hi none,ty,pos,af,gd⟩).run P w= .ok (.value (.slice (if cap=p.toNat then ao else ao.map (·.add (p.toNat*ti.size))) (q.toNat-p.toNat) (cap-p.toNat))) w:=by
       intro ao cap hcap hv
       simp only[execOp]
       refine run_v ?_
       rw[hv]
       simp only[Instr.sliceAt,Instr.slice,Sem.run_bind,run_underlying hu,Result.andThen_ok,Option.map_none,bounds cap hcap,run_sizeOf (hT _ _ hte),Sem.run_pure]
      have hlab:∀ l'∈(SV.sl l (b+p.toNat) (q.toNat-p.toNat)).labs,G l'≠none:=by simpa[SV.labs]using hl
      rcases hd with⟨h1,h2,h3,h4⟩|⟨pl,ad,hpl,hv,hcap,had⟩
      ·subst h3;subst h4
       refine Left.pure S (run none 0 (by omega) h2) ?_ hlab
       simp only[Den]
       left
       refine⟨h1,?_,by omega,by omega⟩
       rw[if_pos (by omega)]
       congr 1 <;>omega
      ·refine Left.pure S (run (some ad) (pl.cap-b) (by omega) hv) ?_ hlab
       simp only[Den]
       right
       have hk:pl.k=ti.size:=by
        rcases S.heap.blk _ _ hG with⟨h3,_⟩|⟨pl',e1,_,_,e4⟩|⟨pl',arr,TT,fz,e1,e2,e3,_,e4,_⟩
        ·rw[hpl]at h3;cases h3
        ·rw[hpl]at e1;cases e1;omega
        ·rw[hpl]at e1;cases e1;omega
       by_cases hc:pl.cap-b=p.toNat
       ·rw[if_pos hc]
        exact⟨pl,ad,hpl,by congr 1;omega,by omega,fun h=>by omega⟩
       ·rw[if_neg hc]
        refine⟨pl,ad.add (p.toNat*ti.size),hpl,by simp only[Option.map_some];congr 1;omega,by omega,fun h=>?_⟩
        rw[had (by omega),ptr,ptr,add_none,<- hk,Nat.add_mul]
        congr 1
        omega
     ·cases hr
    ·cases hr
   ·rename_i hx
    split at hr
    ·rename_i te p q hte hlo hhi
     cases hr
     obtain⟨rfl,rfl⟩:p=0/\q=0:=hp
     have hu:=slice_shape hT hti
     have hd:=oa_den S.fr x
     rw[hx]at hd
     simp only[Den]at hd
     refine Left.pure S (u:=.slice none 0 0) ?_ (by simp only[Den]) (by simp[SV.labs])
     simp only[execOp]
     refine run_v ?_
     rw[hd]
     have hb:=run_bounds (P:=P) (w:=w) S.fr (lo:=lo) (hi:=hi) true hlo hhi (Int.le_refl _) (Int.le_refl _) (len:=0) (by omega) 0 (Nat.le_refl _)
     simp only[Instr.sliceAt,Instr.slice,Sem.run_bind,run_underlying hu,Result.andThen_ok,Option.map_none,hb,run_sizeOf (hT _ _ hte),Sem.run_pure]
     simp
    ·cases hr
   ·cases hr
  ·exact strSlice_sound hT S (by assumption) hr hp
  ·cases hr
 case fieldAddr t x i=>
  split at hr
  ·rename_i fs s b z l r' c hti hx
   split at hr
   ·rename_i off sz hpl
    cases hr
    obtain⟨gs,hu,hfs,hall⟩:=struct_shape hT hti
    obtain⟨_,f,ti,hgi,hoff,htf,hsz⟩:=placeS_real hT hfs hpl
    have hd:=oa_den S.fr x
    have hl:=oa_scp S.scp x
    rw[hx]at hd hl
    simp only[Den]at hd
    obtain⟨pl,hpl',hv⟩:=hd
    refine Left.pure S (u:=.pointer (some (ptr pl r' (c+off)))) ?_ (by simp only[Den];exact⟨pl,hpl',rfl⟩) (by simpa[SV.labs]using hl)
    simp only[execOp]
    refine run_v ?_
    rw[hv]
    have hgi':gs[i]? =some f:=by simpa using hgi
    have hne:¬ ti.size=0:=by rw[hsz];simp
    simp only[Instr.fieldAt,Sem.run_bind,run_underlying hu,Result.andThen_ok,hgi',Instr.sureAddr,Sem.run_pure,fieldPlace,run_sizeOf (hT _ _ htf),if_neg hne,ptr,add_none,hoff]
    rw[Nat.add_assoc]
   ·cases hr
  ·cases hr
 case field t x i=>
  split at hr
  ·rename_i fs s b z cs hti hx
   split at hr
   ·rename_i off ft hn
    split at hr
    ·rename_i ti htf
     split at hr
     ·rename_i v hle hmk
      cases hr
      obtain⟨gs,hu,hfs,hall⟩:=struct_shape hT hti
      rw[nthF_eq,<- hfs,List.getElem?_map]at hn
      cases hg:gs.toList[i]? with
      |none=>rw[hg]at hn;cases hn
      |some f=>
       rw[hg]at hn
       simp only[Option.map_some,Option.some.injEq,Prod.mk.injEq]at hn
       obtain⟨rfl,rfl⟩:=hn
       have hd:=oa_den S.fr x
       have hl:=oa_scp S.scp x
       rw[hx]at hd hl
       simp only[Den]at hd
       obtain⟨us,hv,hus⟩:=hd
       rw[takeL_eq,dropL_eq]at hmk
       have hle:=Nat.le_of_ble_eq_true hle
       rw[lenL_eq]at hle
       obtain⟨u,g1,g2⟩:=TI.mk'_part (hT _ _ htf) hus hle hmk
       refine Left.pure S (u:=u) ?_ g2 ?_
       ·simp only[execOp]
        refine run_v ?_
        have hg':gs[i]? =some f:=by simpa using hg
        rw[hv]
        simp only[Instr.field,Sem.run_bind,run_underlying hu,Result.andThen_ok,hg',asAgg,Sem.run_pure]
        exact g1
       ·intro l hll
        refine hl l ?_
        simp only[SV.labs]
        rcases TI.mk'_den hmk with⟨_,rfl⟩|⟨_,hcs⟩
        ·simp only[SV.labs]at hll
         exact labsL_drop _ (labsL_take _ hll)
        ·have:l∈labsL ((cs.drop f.offset).take ti.size):=by rw[hcs];simpa[labsL]using hll
         exact labsL_drop _ (labsL_take _ this)
     ·cases hr
    ·cases hr
   ·cases hr
  ·cases hr
 case indexAddr t x i=>
  split at hr
  ·rename_i e s1 s2 s3 l lo len k n hti hx hi
   split at hr
   ·rename_i ti m ks n' f hte hG
    split at hr
    ·rename_i hsz
     cases hr
     obtain⟨p1,p2⟩:0<=n/\n<(len:Int):=hp
     have hsz:=Nat.eq_of_beq_eq_true hsz
     rw[lenK_eq]at hsz
     have hu:=slice_shape hT hti
     have hd:=oa_den S.fr x
     have hl:=oa_scp S.scp x
     have hdi:=oa_den S.fr i
     rw[hx]at hd hl
     rw[hi]at hdi
     simp only[Den]at hd hdi
     rcases hd with⟨_,_,h0,_⟩|⟨pl,ad,hpl,hv,hcap,had⟩
     ·omega
     have had:=had (by omega)
     subst had
     have hk:pl.k=ti.size:=by
      rcases S.heap.blk _ _ hG with⟨h3,_⟩|⟨pl',e1,_,_,e4⟩|⟨pl',arr,TT,fz,e1,e2,e3,_,e4,_⟩
      ·rw[hpl]at h3;cases h3
      ·rw[hpl]at e1;cases e1;omega
      ·rw[hpl]at e1;cases e1;omega
     refine Left.pure S (u:=.pointer (some (ptr pl (lo+n.toNat) 0))) ?_ (by simp only[Den];exact⟨pl,hpl,rfl⟩) (by simpa[SV.labs]using hl)
     simp only[execOp]
     refine run_v ?_
     rw[hv,hdi]
     simp only[Instr.indexAt,asIntOf,Sem.run_bind,Sem.run_pure,Result.andThen_ok,run_underlying hu]
     rw[if_pos ⟨p1,p2⟩]
     simp only[Sem.run_bind,run_sizeOf (hT _ _ hte),Result.andThen_ok,Sem.run_pure,ptr,add_none,hk]
     rw[Nat.add_mul]
     simp[Nat.add_assoc]
    ·cases hr
   ·cases hr
  ·rename_i m e s1 s2 s3 l r' c k n hti hx hi
   split at hr
   ·rename_i ti mm ks n' f hte hG
    split at hr
    ·rename_i hsz hc hm
     cases hr
     obtain⟨p1,p2⟩:0<=n/\n<(m:Int):=hp
     have hsz:=Nat.eq_of_beq_eq_true hsz
     have hc:=Nat.eq_of_beq_eq_true hc
     have hm:=Nat.le_of_ble_eq_true hm
     subst hc
     rw[lenK_eq]at hsz
     have hu:=arr_shape hT hti
     have hd:=oa_den S.fr x
     have hl:=oa_scp S.scp x
     have hdi:=oa_den S.fr i
     rw[hx]at hd hl
     rw[hi]at hdi
     simp only[Den]at hd hdi
     obtain⟨pl,hpl,hv⟩:=hd
     have hk:pl.k=ti.size:=by
      rcases S.heap.blk _ _ hG with⟨h3,_⟩|⟨pl',e1,_,_,e4⟩|⟨pl',arr,TT,fz,e1,e2,e3,_,e4,_⟩
      ·rw[hpl]at h3;cases h3
      ·rw[hpl]at e1;cases e1;omega
      ·rw[hpl]at e1;cases e1;omega
     refine Left.pure S (u:=.pointer (some (ptr pl (r'+n.toNat) 0))) ?_ (by simp only[Den];exact⟨pl,hpl,rfl⟩) (by simpa[SV.labs]using hl)
     simp only[execOp]
     refine run_v ?_
     rw[hv,hdi]
     simp only[Instr.indexAt,asIntOf,Sem.run_bind,Sem.run_pure,Result.andThen_ok,run_underlying hu,Instr.sureAddr]
     rw[if_pos ⟨p1,p2⟩]
     simp only[Sem.run_bind,run_sizeOf (hT _ _ hte),Result.andThen_ok,Sem.run_pure,ptr,add_none,hk]
     rw[Nat.add_mul]
     simp[Nat.add_assoc]
    ·cases hr
   ·cases hr
  ·cases hr
 case index t x i=>exact index_sound (wraps:=wraps) hT S hr hp
 case makeMap t x=>exact makeMap_sound (wraps:=wraps) hT S hr
 case lookup t x i b=>exact lookup_sound (wraps:=wraps) hT S hr
 case mapUpdate t x i v=>exact mapUpdate_sound (wraps:=wraps) hT S hr hp
 case extract x i=>
  split at hr
  ·rename_i cs hx
   split at hr
   ·rename_i v hn
    cases hr
    have hd:=oa_den S.fr x
    have hl:=oa_scp S.scp x
    rw[hx]at hd hl
    simp only[Den]at hd
    obtain⟨vs,hv,hvs⟩:=hd
    rw[nthL_eq]at hn
    obtain⟨u,g1,g2⟩:=DenL_get hvs hn
    refine Left.pure S (u:=u) ?_ g2 ?_
    ·simp only[execOp]
     refine run_v ?_
     rw[hv]
     have:vs[i]? =some u:=by simpa using g1
     simp[Instr.extract,this]
    ·intro l hll
     refine hl l ?_
     simp only[SV.labs]
     exact labsL_mem.2 ⟨v,List.mem_of_getElem? hn,hll⟩
   ·cases hr
  ·cases hr
 case call c=>
  obtain⟨callee,args,argTypes⟩:=c
  cases callee <;>simp only[]at hr <;>try cases hr
  split at hr
  ·rename_i r' h1
   cases hr
   exact builtin_sound hT S h1 hp
  ·exact evB2_sound hT S hr hp
end
end Go.Sym
