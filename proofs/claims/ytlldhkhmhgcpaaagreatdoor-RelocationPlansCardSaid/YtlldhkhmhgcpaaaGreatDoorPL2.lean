import Derived.Test.YtlldhkhmhgcpaaaGreatDoorSH
import Derived.Sort.AssemblyPlain
import Derived.Test.YtlldhkhmhgcpaaaGreatDoorT40
import Derived.WalkKit
import Derived.Test.YtlldhkhmhgcpaaaGreatDoorXD
namespace Go.Sym
set_option linter.unusedVariables false
set_option linter.unusedSimpArgs false
def ltU (a b:Un):Bool:=decide (a.id<b.id)
def srtU (l:List Un):List Un:=(Sort.insertionSort ltU l.toArray 0 l.length).toList
theorem swoU:Sort.SWO ltU:=⟨fun x=>by simp[ltU],fun x y z h1 h2=>by simp[ltU]at *;omega,fun x y z h1 h2=>by simp[ltU]at *;omega⟩
theorem ext_all {α:Type} {d:Array α} {n:Nat} (h:d.size=n):d.extract 0 n=d:=by subst h;simp
theorem srtU_raw (l:List Un):Sort.PermIn 0 l.length l.toArray (Sort.insertionSort ltU l.toArray 0 l.length)/\Sort.SortedIn ltU 0 l.length (Sort.insertionSort ltU l.toArray 0 l.length):=
 Sort.insertionSort_holds swoU l.toArray 0 l.length (Nat.zero_le _) (by simp)
theorem srtU_len (l:List Un):(srtU l).length=l.length:=by
 have:=(srtU_raw l).1.1
 unfold srtU;rw[Array.length_toList,this];simp
theorem srtU_perm (l:List Un):(srtU l).Perm l:=by
 have h:=(srtU_raw l).1
 have e:=h.2.2
 have s:(Sort.insertionSort ltU l.toArray 0 l.length).size=l.length:=by rw[h.1];simp
 rw[show(Sort.insertionSort ltU l.toArray 0 l.length).extract 0 l.length=Sort.insertionSort ltU l.toArray 0 l.length from ext_all s,
  show l.toArray.extract 0 l.length=l.toArray by simp]at e
 exact e
theorem arr_get {α:Type} [Inhabited α] (d:Array α) (i:Nat) (h:i<d.toList.length):d[i]! =d.toList[i]:=by
 have h':i<d.size:=by simpa using h
 rw[getElem!_pos d i h'];simp
theorem srtU_sorted (l:List Un):(srtU l).Pairwise fun a b=>¬ b.id<a.id:=by
 have h:=(srtU_raw l).2
 rw[List.pairwise_iff_getElem]
 intro i j hi hj hij
 have hj':j<l.length:=by rw[<- srtU_len l];exact hj
 have:=h i j (Nat.zero_le _) hij hj'
 rw[arr_get _ i hi,arr_get _ j hj]at this
 exact of_decide_eq_false this
theorem srtU_strict {l:List Un} (hn:(l.map (·.id)).Nodup):(srtU l).Pairwise fun a b=>a.id<b.id:=by
 have h1:=srtU_sorted l
 have h2:((srtU l).map (·.id)).Nodup:=((srtU_perm l).map _).nodup_iff.2 hn
 rw[List.nodup_iff_pairwise_ne,List.pairwise_map]at h2
 exact(h1.and h2).imp fun⟨a,b⟩=>by omega
end Go.Sym
namespace Go.Sym
set_option linter.unusedVariables false
open Go.Proofs Go.RowKit
set_option maxRecDepth 100000
set_option maxHeartbeats 4000000
set_option maxRecDepth 100000
theorem len64_run (x:Nat) (hx:x<=12) (w:World):Calls Tryz.prog 104 #[.int .u64 x] w fun e w'=>(∃ k:Int,e= .returned (.int .i64 k))/\w'=w:=by
 rcases(show x=0∨x=1∨x=2∨x=3∨x=4∨x=5∨x=6∨x=7∨x=8∨x=9∨x=10∨x=11∨x=12 by omega)with h|h|h|h|h|h|h|h|h|h|h|h|h <;>subst h <;>(go_enter Tryz.func104,Tryz.ntmps104;go_wp2;(try go_ret);exact⟨⟨_,rfl⟩,rfl⟩)
def len64C:CT where
 X:=Nat
 pre:=fun n=>n<=12
 args:=fun n=>[.i .u64 n]
 g0:=fun _=>[]
 res:=fun _=>.u
 g1:=fun _=>[]
theorem len64_good:Good Tryz.prog 104 len64C/\FnOk Tryz.prog 104:=by
 refine⟨good_pure (fun _ _=>rfl) (fun _=>rfl) (fun _=>rfl) fun x hx ρ w vals hg hv hz=>?_,Tryz.f104,rfl,by decide+kernel,rfl⟩
 simp only[len64C,DenL,Den]at hv
 obtain⟨v,r,rfl,rfl,rfl⟩:=hv
 exact(len64_run x hx w).mono fun e w' ⟨⟨k,h1⟩,h2⟩=>⟨⟨_,h1,by simp only[len64C,Den]⟩,h2⟩
end Go.Sym