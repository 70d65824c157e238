import Derived.Test.YtlldhkhmhgcpaaaGreatDoorP7
import Derived.Test.YtlldhkhmhgcpaaaGreatDoorS3
import Derived.Test.YtlldhkhmhgcpaaaGreatDoorXD
namespace Go.Sym
set_option linter.unusedVariables false
set_option linter.unusedSimpArgs false
open Go.Proofs
set_option maxRecDepth 100000
theorem filter_yes {α:Type} {d:α} {p:α->Bool} {l:List α} {k:Nat} (hk:k<l.length) (h:p (l.getD k d)=true):(l.take (k+1)).filter p=(l.take k).filter p++[l.getD k d]:=by
 rw[take_succ_getD (d:=d) hk,List.filter_append,List.filter_cons,if_pos h,List.filter_nil]
theorem filter_no {α:Type} {d:α} {p:α->Bool} {l:List α} {k:Nat} (hk:k<l.length) (h:¬ p (l.getD k d)=true):(l.take (k+1)).filter p=(l.take k).filter p:=by
 rw[take_succ_getD (d:=d) hk,List.filter_append,List.filter_cons,if_neg h,List.filter_nil,List.append_nil]
theorem filter_len {α:Type} {p:α->Bool} {l:List α} {k c:Nat} (h:l.length<=c):((l.take k).filter p).length<=c:=by
 have:=List.length_filter_le p (l.take k)
 have h2:(l.take k).length<=l.length:=by rw[List.length_take];omega
 omega
theorem pushR_rows {l:List Int} {c:Int}:RowsEq k1 (l++[c]).length (appRows l.length (encL encI l) 0 (litRows [[.i c]])) (encL encI (l++[c])):=
 rowsEq_push rfl (by simp) (by simp only[rowEq,Kd.eqv,k1];exact⟨rfl,trivial⟩)
def freeAt (us:List Un) (k:Nat):List Int:=((us.take k).filter fun u=>decide (u.st=1)).map fun u=>u.nd
def freeL (us:List Un):List Int:=(us.filter fun u=>decide (u.st=1)).map fun u=>u.nd
theorem free_yes {us:List Un} {k:Nat} (hk:(k:Int)<us.length) (h:(us.getD k default).st=1):freeAt us (k+1)=freeAt us k++[(us.getD k default).nd]:=by
 unfold freeAt;rw[filter_yes (d:=default) (p:=fun u:Un=>decide (u.st=1)) (l:=us) (k:=k) (by omega) (decide_eq_true h),List.map_append];rfl
theorem free_no {us:List Un} {k:Nat} (hk:(k:Int)<us.length) (h:¬ (us.getD k default).st=1):freeAt us (k+1)=freeAt us k:=by
 unfold freeAt;rw[filter_no (d:=default) (p:=fun u:Un=>decide (u.st=1)) (l:=us) (k:=k) (by omega) (by rw[decide_eq_false h];decide)]
theorem free_end {us:List Un} {k:Nat} (hle:k<=us.length) (hk:¬ (k:Int)<us.length):freeAt us k=freeL us:=by unfold freeAt freeL;rw[List.take_of_length_le (by omega)]
theorem freeAt_len {us:List Un} {k c:Nat} (h:us.length<=c):(freeAt us k).length<=c:=by unfold freeAt;rw[List.length_map];exact filter_len h
theorem freeL_len (us:List Un):(freeL us).length<=us.length:=by unfold freeL;rw[List.length_map];exact List.length_filter_le _ _
def worstS (D:List Int) (s:Int × Int) (v:Int):Int × Int:=if s.2<0∨s.1<D.getD v.toNat default then(D.getD v.toNat default,v)else s
def worstAt (D l:List Int) (k:Nat):Int × Int:=(l.take k).foldl (worstS D) (0,-1)
def worstF (D l:List Int):Int × Int:=l.foldl (worstS D) (0,-1)
theorem worstAt_succ {D l:List Int} {k:Nat} (h:k<l.length):worstAt D l (k+1)=worstS D (worstAt D l k) (l.getD k default):=by
 unfold worstAt;rw[take_succ_getD (d:=default) h,List.foldl_append];rfl
theorem worst_neg {D l:List Int} {k:Nat} (h:(k:Int)<l.length) (h2:(worstAt D l k).2<0):worstAt D l (k+1)=(D.getD (l.getD k default).toNat default,l.getD k default):=by
 rw[worstAt_succ (by omega)];exact if_pos (.inl h2)
theorem worst_up {D l:List Int} {k:Nat} (h:(k:Int)<l.length) (h2:(worstAt D l k).1<D.getD (l.getD k default).toNat default):worstAt D l (k+1)=(D.getD (l.getD k default).toNat default,l.getD k default):=by
 rw[worstAt_succ (by omega)];exact if_pos (.inr h2)
theorem worst_no {D l:List Int} {k:Nat} (h:(k:Int)<l.length) (h1:¬ (worstAt D l k).2<0) (h2:¬ (worstAt D l k).1<D.getD (l.getD k default).toNat default):worstAt D l (k+1)=worstAt D l k:=by
 rw[worstAt_succ (by omega)];exact if_neg (fun q=>q.elim h1 h2)
theorem worst_end {D l:List Int} {k:Nat} (hle:k<=l.length) (h:¬ (k:Int)<l.length):worstAt D l k=worstF D l:=by unfold worstAt worstF;rw[List.take_of_length_le (by omega)]
structure UX where
 g:Gr
 ts:List Int
 us:List Un
 of:List Int
structure UXok (x:UX):Prop where
 g:GOk x.g
 n:x.g.n<=12
 us:x.us.length<=1048576
 of:x.of.length<=1048576
theorem UXok.f {x:UX} (h:UXok x):FXok ⟨x.g,x.ts,freeL x.us⟩:=⟨h.g,h.n,Nat.le_trans (freeL_len _) h.us⟩
end Go.Sym
namespace Go.Sym
set_option linter.unusedVariables false
set_option linter.unusedSimpArgs false
open Go.Proofs
set_option maxRecDepth 100000
set_option maxHeartbeats 4000000
def neverC:CT where
 X:=Unit
 pre:=fun _=>True
 args:=fun _=>[]
 g0:=fun _=>[]
 res:=fun _=>.i .i64 4611686018427387904
 g1:=fun _=>[]
set_option maxRecDepth 100000 in
theorem never_keeps:Keeps cfgN0 Tryz.f49 neverC noIv:=Eq.mp (show(∀ x1:Unit,(True->(((4611686018427387904:Int)=4611686018427387904)/\True)))=(Keeps cfgN0 Tryz.f49 neverC noIv) by kernel_rfl) (fun x1=>fun h2=>⟨rfl,trivial⟩)
theorem never_good:Good Tryz.prog 49 neverC/\FnOk Tryz.prog 49:=good_of tok conN0 (fn:=Tryz.f49) rfl (by decide+kernel) (fun _=>rfl) never_keeps
def cfgNv:Cfg:=⟨T,[],[(49,.one neverC)],noInv,20,{}⟩
theorem conNv:ConOk Tryz.prog cfgNv:=ConL.ok (.cons (ConL.one never_good) .nil)
end Go.Sym