import Derived.Test.YtpommejalaechaaGreatDoorJ1
import Derived.Test.YtpommejalaechaaGreatDoorS3
namespace Go.Sym
set_option linter.unusedVariables false
structure MS where
 g:Gr
 ts:List Int
 src:List Bool
 dist:List Int
 so:List Int
 od:Bool
def kB:List Kd:=[.bool]
def encBo (b:Bool):Nat->D:=encN [.b b]
def srcL (src:List Bool):List Int:=((List.range src.length).filter fun i=>src.getD i default).map fun(i:Nat)=>(i:Int)
def srcAt (src:List Bool) (k:Nat):List Int:=((List.range k).filter fun i=>src.getD i default).map fun(i:Nat)=>(i:Int)
theorem srcAt_yes {src:List Bool} {k:Nat} (h:src.getD k default=true):srcAt src (k+1)=srcAt src k++[(k:Int)]:=by
 unfold srcAt;rw[List.range_succ,List.filter_append,List.filter_cons,if_pos h,List.map_append];rfl
theorem srcAt_no {src:List Bool} {k:Nat} (h:src.getD k default=false):srcAt src (k+1)=srcAt src k:=by
 unfold srcAt;rw[List.range_succ,List.filter_append,List.filter_cons,if_neg (by rw[h];decide)];simp
theorem srcAt_full {src:List Bool} {k:Nat} (h:k<=src.length) (h2:¬ (k:Int)<src.length):srcAt src k=srcL src:=by rw[show k=src.length by omega];rfl
theorem srcAt_len (src:List Bool) (k:Nat):(srcAt src k).length<=k:=by
 unfold srcAt;rw[List.length_map]
 have:=List.length_filter_le (fun i=>src.getD i default) (List.range k);simpa using this
theorem srcL_len (src:List Bool):(srcL src).length<=src.length:=srcAt_len src _
def MS.dI (x:MS):List Int:=distG x.g x.ts (srcL x.src) true
def ndAt (d:List Int) (k:Nat):List Int:=((List.range k).filter fun i=>decide (d.getD i default≠4611686018427387904)).map fun(i:Nat)=>(i:Int)
def ndL (d:List Int):List Int:=ndAt d d.length
theorem ndAt_yes {d:List Int} {k:Nat} (h:d.getD k default≠4611686018427387904):ndAt d (k+1)=ndAt d k++[(k:Int)]:=by
 unfold ndAt;rw[List.range_succ,List.filter_append,List.filter_cons,if_pos (decide_eq_true h),List.map_append];rfl
theorem ndAt_no {d:List Int} {k:Nat} (h:¬ d.getD k default≠4611686018427387904):ndAt d (k+1)=ndAt d k:=by
 unfold ndAt;rw[List.range_succ,List.filter_append,List.filter_cons,if_neg (by rw[decide_eq_false h];decide)];simp
theorem ndAt_len (d:List Int) (k:Nat):(ndAt d k).length<=k:=by
 unfold ndAt;rw[List.length_map]
 have:=List.length_filter_le (fun i=>decide (d.getD i default≠4611686018427387904)) (List.range k);simpa using this
theorem ndAt_mem {d:List Int} {k:Nat} {x:Int} (h:x∈ndAt d k):0<=x/\x<k:=by
 unfold ndAt at h
 obtain⟨i,hi,rfl⟩:=List.mem_map.1 h
 have:=List.mem_range.1 (List.mem_filter.1 hi).1
 omega
def ltD (d:List Int) (a b:Int):Bool:=decide (d.getD a.toNat default<d.getD b.toNat default)
def ordL (d:List Int):List Int:=insF (ltD d) (ndL d)
theorem ordL_mem {d:List Int} {x:Int} (h:x∈ordL d):0<=x/\x<d.length:=ndAt_mem (insF_mem h)
theorem ordL_len (d:List Int):(ordL d).length<=d.length:=by unfold ordL;rw[insF_len];exact ndAt_len d _
def stepSo (x:MS) (d so:List Int) (v:Nat) (s:Int) (i:Nat):Int:=
 if x.ts.getD i default=4611686018427387904∨d.getD (x.g.es.getD i default).f.toNat default=4611686018427387904 then s
 else if d.getD (x.g.es.getD i default).f.toNat default+x.ts.getD i default≠d.getD v default then s
 else if s<0∨so.getD (x.g.es.getD i default).f.toNat default<s then so.getD (x.g.es.getD i default).f.toNat default else s
def inN (g:Gr) (v:Nat):List Nat:=adjN g false v
def findAt (x:MS) (d so:List Int) (v k:Nat):Int:=((inN x.g v).take k).foldl (stepSo x d so v) (-1)
def findF (x:MS) (d so:List Int) (v:Nat):Int:=if x.src.getD v default=true then v else(inN x.g v).foldl (stepSo x d so v) (-1)
def soAt (x:MS) (d:List Int) (k:Nat):List Int:=((ordL d).take k).foldl (fun so v=>so.set v.toNat (findF x d so v.toNat)) (List.replicate d.length (-1))
def soF (x:MS) (d:List Int):List Int:=(ordL d).foldl (fun so v=>so.set v.toNat (findF x d so v.toNat)) (List.replicate d.length (-1))
theorem soAt_len (x:MS) (d:List Int) (k:Nat):(soAt x d k).length=d.length:=
 foldl_keep (fun s:List Int=>s.length=d.length) (fun b a h=>by rw[List.length_set];exact h) _ _ (by simp)
theorem soF_len (x:MS) (d:List Int):(soF x d).length=d.length:=
 foldl_keep (fun s:List Int=>s.length=d.length) (fun b a h=>by rw[List.length_set];exact h) _ _ (by simp)
theorem soAt_succ {x:MS} {d:List Int} {k:Nat} (h:k<(ordL d).length):soAt x d (k+1)=(soAt x d k).set ((ordL d).getD k default).toNat (findF x d (soAt x d k) ((ordL d).getD k default).toNat):=by
 unfold soAt;rw[take_succ_getD (d:=default) h,List.foldl_append];rfl
theorem soAt_full {x:MS} {d:List Int} {k:Nat} (h:k<=(ordL d).length) (h2:¬ (k:Int)<(ordL d).length):soAt x d k=soF x d:=by
 unfold soAt soF;rw[List.take_of_length_le (by omega)]
structure MSok (x:MS):Prop where
 g:GOk x.g
 n:x.g.n<=12
 ts:x.ts.length=x.g.es.length
 tv:∀ i,i<x.ts.length->x.ts.getD i default=4611686018427387904∨(1<=x.ts.getD i default/\x.ts.getD i default<=1048576)
 src:x.src.length=x.g.n
 dl:x.dist.length<=12
 sl:x.so.length<=12
 ev:x.od=false->x.dist=x.dI/\x.so=soF x x.dI
theorem MSok.dlen {x:MS} (h:MSok x):x.dI.length=x.g.n:=distF_len (netG_ok h.g (wsOk_tt x.g x.ts) true) _
theorem MSok.drng {x:MS} (h:MSok x) {v:Nat} (hv:v<x.g.n):0<=x.dI.getD v default/\x.dI.getD v default<=4611686018427387904:=dist_rng h.g x.ts _ true hv
end Go.Sym