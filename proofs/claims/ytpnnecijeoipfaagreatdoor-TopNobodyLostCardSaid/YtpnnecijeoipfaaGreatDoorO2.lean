import Derived.Test.YtpnnecijeoipfaaGreatDoorO1
namespace Go.Sym
set_option linter.unusedVariables false
set_option linter.unusedSimpArgs false
theorem swoC:Sort.SWO ltC:=⟨fun x=>by simp[ltC],fun x y z h1 h2=>by simp[ltC]at *;omega,fun x y z h1 h2=>by simp[ltC]at *;omega⟩
theorem ext_all {α:Type} {d:Array α} {n:Nat} (h:d.size=n):d.extract 0 n=d:=by subst h;simp
theorem srtC_raw (l:List CR):Sort.PermIn 0 l.length l.toArray (Sort.insertionSort ltC l.toArray 0 l.length)/\Sort.SortedIn ltC 0 l.length (Sort.insertionSort ltC l.toArray 0 l.length):=
 Sort.insertionSort_holds swoC l.toArray 0 l.length (Nat.zero_le _) (by simp)
theorem srtC_len (l:List CR):(srtC l).length=l.length:=by
 have:=(srtC_raw l).1.1
 unfold srtC;rw[Array.length_toList,this];simp
theorem srtC_perm (l:List CR):(srtC l).Perm l:=by
 have h:=(srtC_raw l).1
 have e:=h.2.2
 have s:(Sort.insertionSort ltC l.toArray 0 l.length).size=l.length:=by rw[h.1];simp
 rw[show(Sort.insertionSort ltC l.toArray 0 l.length).extract 0 l.length=Sort.insertionSort ltC l.toArray 0 l.length from ext_all s,
  show l.toArray.extract 0 l.length=l.toArray by simp]at e
 exact e
theorem arr_get {α:Type} [Inhabited α] (d:Array α) (i:Nat) (h:i<d.toList.length):d[i]! =d.toList[i]:=by
 have h':i<d.size:=by simpa using h
 rw[getElem!_pos d i h'];simp
theorem srtC_sorted (l:List CR):(srtC l).Pairwise fun a b=>¬ b.call<a.call:=by
 have h:=(srtC_raw l).2
 rw[List.pairwise_iff_getElem]
 intro i j hi hj hij
 have hj':j<l.length:=by rw[<- srtC_len l];exact hj
 have:=h i j (Nat.zero_le _) hij hj'
 rw[arr_get _ i hi,arr_get _ j hj]at this
 exact of_decide_eq_false this
theorem srtC_strict {l:List CR} (hn:(l.map (·.call)).Nodup):(srtC l).Pairwise fun a b=>a.call<b.call:=by
 have h1:=srtC_sorted l
 have h2:((srtC l).map (·.call)).Nodup:=((srtC_perm l).map _).nodup_iff.2 hn
 rw[List.nodup_iff_pairwise_ne,List.pairwise_map]at h2
 exact(h1.and h2).imp fun⟨a,b⟩=>by omega
theorem srtC_uniq {l l':List CR} (hp:l.Perm l') (hn:(l.map (·.call)).Nodup):srtC l=srtC l':=by
 have hn':(l'.map (·.call)).Nodup:=(hp.map _).nodup_iff.1 hn
 refine List.Perm.eq_of_pairwise (le:=fun a b=>a.call<b.call) (fun a b _ _ h1 h2=>absurd h1 (by omega)) (srtC_strict hn) (srtC_strict hn') (((srtC_perm l).trans hp).trans (srtC_perm l').symm)
theorem srtC_id {l:List CR} (h:l.Pairwise fun a b=>a.call<b.call):srtC l=l:=by
 have hn:(l.map (·.call)).Nodup:=by rw[List.nodup_iff_pairwise_ne,List.pairwise_map];exact h.imp fun q=>by omega
 exact List.Perm.eq_of_pairwise (le:=fun a b=>a.call<b.call) (fun a b _ _ h1 h2=>absurd h1 (by omega)) (srtC_strict hn) h (srtC_perm l)
theorem srtC_ne {l:List CR} (h:l≠[]):srtC l≠[]:=fun e=>h (by have:=srtC_len l;rw[e]at this;exact List.eq_nil_of_length_eq_zero this.symm)
theorem fold_calls (l:List CR):∀ x:Ic,(l.foldl furI x).calls=x.calls++l.map (·.call):=by
 induction l with
 |nil=>intro x;simp
 |cons c l ih=>intro x;rw[List.foldl_cons,ih];simp[furI]
theorem fold_core (l:List CR):∀ x:Ic,(l.foldl furI x).id=x.id/\(l.foldl furI x).units=x.units/\(l.foldl furI x).merged=x.merged/\(l.foldl furI x).closed=x.closed:=by
 induction l with
 |nil=>intro x;exact⟨rfl,rfl,rfl,rfl⟩
 |cons c l ih=>intro x;rw[List.foldl_cons];obtain⟨a,b,d,e⟩:=ih (furI x c);exact⟨a,b,d,e⟩
theorem derI_calls {x:Ic} {l:List CR} (h:l≠[]):(derI x l).calls=l.map (·.call):=by
 cases l with
 |nil=>exact absurd rfl h
 |cons c l=>show(l.foldl furI (fstI x c)).calls=_;rw[fold_calls];rfl
theorem rebI_calls {x:Ic} {l:List CR} (h:l≠[]):(rebI x l).calls=(srtC l).map (·.call):=derI_calls (srtC_ne h)
theorem derI_core (x:Ic) (l:List CR):(derI x l).id=x.id/\(derI x l).units=x.units/\(derI x l).merged=x.merged/\(derI x l).closed=x.closed:=by
 obtain⟨a,b,c,d⟩:=fold_core l.tail (fstI x (l.getD 0 default));exact⟨a,b,c,d⟩
theorem rebI_core (x:Ic) (l:List CR):(rebI x l).id=x.id/\(rebI x l).units=x.units/\(rebI x l).merged=x.merged/\(rebI x l).closed=x.closed:=derI_core x _
theorem rebI_same {x y:Ic} (l:List CR) (h1:x.id=y.id) (h2:x.units=y.units) (h3:x.merged=y.merged) (h4:x.closed=y.closed):rebI x l=rebI y l:=by
 unfold rebI derI
 rw[show fstI x ((srtC l).getD 0 default)=fstI y ((srtC l).getD 0 default) by unfold fstI;rw[h1,h2,h3,h4]]
theorem rebI_perm {x:Ic} {l l':List CR} (hp:l.Perm l') (hn:(l.map (·.call)).Nodup):rebI x l=rebI x l':=by unfold rebI;rw[srtC_uniq hp hn]
theorem comN_ok {a b:List Int} (h:0<(comN a b).length):NOk (comN a b)/\(comN a b).length<=4096:=by
 unfold comN at*
 refine⟨⟨fun e=>by rw[e]at h;simp at h,elemsZ_sorted _,fun n hn=>?_⟩,?_⟩
 ·have:=elemsZ_mem.1 hn;omega
 ·rw[elemsZ_len];exact elemsW_len _
theorem furI_ok {x:Ic} {c:CR} (h:IOk x) (hc:COk c) (hl:x.calls.length<=11) (hn:∀ k∈x.calls,k<c.call):IOk (furI x c):=by
 refine⟨h.id,?_,?_,?_,?_,?_,?_,?_,h.units,h.unitr,h.ulen⟩
 ·show 1<=(if c.urg<x.urg then c.urg else x.urg)/\_;have:=h.urg;have:=hc.urg;show _/\(if c.urg<x.urg then c.urg else x.urg)<=5;split <;>omega
 ·show(if c.urg<x.urg then c.code else x.code)=_;split;exact hc.code;exact h.code
 ·show NOk (if _ then _ else _);split;rename_i q;exact(comN_ok q).1;exact h.nodes
 ·show(if 0<(comN x.nodes c.nodes).length then comN x.nodes c.nodes else x.nodes).length<=4096;split;rename_i q;exact(comN_ok q).2;exact h.len
 ·show(x.calls++[c.call]).Pairwise _;rw[List.pairwise_append];exact⟨h.calls,List.pairwise_singleton _ _,fun a ha b hb=>by rw[List.mem_singleton.1 hb];exact hn a ha⟩
 ·intro k hk;rcases List.mem_append.1 hk with q|q;exact h.callr k q;rw[List.mem_singleton.1 q];exact hc.call
 ·show(x.calls++[c.call]).length<=12;simp;omega
theorem fstI_ok {x:Ic} {c:CR} (h:IOk x) (hc:COk c):IOk (fstI x c):=
 ⟨h.id,hc.urg,hc.code,hc.nodes,hc.len,List.pairwise_singleton _ _,fun k hk=>by rw[List.mem_singleton.1 hk];exact hc.call,by show 1<=12;omega,h.units,h.unitr,h.ulen⟩
def derAt (x:Ic) (s:List CR) (k:Nat):Ic:=(s.tail.take k).foldl furI (fstI x (s.getD 0 default))
theorem derAt_zero (x:Ic) (s:List CR):derAt x s 0=fstI x (s.getD 0 default):=by simp[derAt]
theorem tail_getD (s:List CR) (k:Nat):s.tail.getD k default=s.getD (k+1) default:=by cases s <;>simp
theorem derAt_succ {x:Ic} {s:List CR} {k:Nat} (hk:k+1<s.length):derAt x s (k+1)=furI (derAt x s k) (s.getD (k+1) default):=by
 have h:k<s.tail.length:=by rw[List.length_tail];omega
 unfold derAt
 rw[List.take_succ_eq_append_getElem h,List.foldl_append]
 show furI _ _=_
 rw[<- tail_getD,show s.tail.getD k default=s.tail[k] by rw[List.getD_eq_getElem?_getD,List.getElem?_eq_getElem h];rfl]
theorem derAt_all (x:Ic) {s:List CR} {k:Nat} (h:s.length<=k+1):derAt x s k=derI x s:=by
 unfold derAt derI
 rw[List.take_of_length_le (by rw[List.length_tail];omega)]
theorem derAt_calls (x:Ic) {s:List CR} (hne:s≠[]):∀ k,k+1<=s.length->(derAt x s k).calls=(s.take (k+1)).map (·.call)
 |0,h=>by
  rw[derAt_zero]
  cases s with
  |nil=>exact absurd rfl hne
  |cons c r=>rfl
 |k+1,h=>by
  rw[derAt_succ (by omega)]
  show(derAt x s k).calls++[_]=_
  rw[derAt_calls x hne k (by omega),List.take_succ_eq_append_getElem (show k+1<s.length by omega),List.map_append]
  simp[List.getD_eq_getElem?_getD,show k+1<s.length by omega]
theorem getC_mem' {s:List CR} {k:Nat} (h:k<s.length):s.getD k default∈s:=by rw[List.getD_eq_getElem?_getD,List.getElem?_eq_getElem h];exact List.getElem_mem _
structure SOk (s:List CR):Prop where
 ne:s≠[]
 len:s.length<=12
 ok:∀ c∈s,COk c
 inc:s.Pairwise fun a b=>a.call<b.call
theorem SOk.pos {s:List CR} (h:SOk s):0<s.length:=by cases s with|nil=>exact absurd rfl h.ne|cons=>simp
theorem derAt_ok {x:Ic} {s:List CR} (hx:IOk x) (hs:SOk s):∀ k,k+1<=s.length->IOk (derAt x s k)
 |0,h=>by rw[derAt_zero];exact fstI_ok hx (hs.ok _ (getC_mem' (by omega)))
 |k+1,h=>by
  rw[derAt_succ (by omega)]
  have e:=derAt_calls x hs.ne k (by omega)
  refine furI_ok (derAt_ok hx hs k (by omega)) (hs.ok _ (getC_mem' (by omega))) ?_ fun q hq=>?_
  ·rw[e];have:=hs.len;simp;omega
  ·rw[e]at hq
   obtain⟨c,hc,rfl⟩:=List.mem_map.1 hq
   obtain⟨j,hj,rfl⟩:=List.mem_iff_getElem.1 hc
   have hj':j<k+1:=by simp at hj;omega
   have:=List.pairwise_iff_getElem.1 hs.inc j (k+1) (by omega) (by omega) hj'
   simpa[List.getD_eq_getElem?_getD,show k+1<s.length by omega]using this
structure LOk (l:List CR):Prop where
 ne:l≠[]
 len:l.length<=12
 ok:∀ c∈l,COk c
 nd:(l.map (·.call)).Nodup
theorem LOk.srt {l:List CR} (h:LOk l):SOk (srtC l):=⟨srtC_ne h.ne,by rw[srtC_len];exact h.len,fun c hc=>h.ok c ((srtC_perm l).mem_iff.1 hc),srtC_strict h.nd⟩
theorem rebI_ok {x:Ic} {l:List CR} (hx:IOk x) (h:LOk l):IOk (rebI x l):=by
 have:=derAt_ok hx h.srt ((srtC l).length-1) (by have:=h.srt.pos;omega)
 rwa [derAt_all x (by omega)]at this
end Go.Sym