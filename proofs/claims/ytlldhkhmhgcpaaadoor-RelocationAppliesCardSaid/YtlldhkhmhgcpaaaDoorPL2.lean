import Derived.Test.YtlldhkhmhgcpaaaDoorPL1
import Derived.Sort.AssemblyPlain
namespace Go.Sym
set_option linter.unusedVariables false
set_option linter.unusedSimpArgs false
def ltU (a b:Un):Bool:=decide (a.id<b.id)
def srtU (l:List Un):List Un:=(Sort.insertionSort ltU l.toArray 0 l.length).toList
theorem swoU:Sort.SWO ltU:=⟨fun x=>by simp[ltU],fun x y z h1 h2=>by simp[ltU]at *;omega,fun x y z h1 h2=>by simp[ltU]at *;omega⟩
theorem srtU_raw (l:List Un):Sort.PermIn 0 l.length l.toArray (Sort.insertionSort ltU l.toArray 0 l.length)/\Sort.SortedIn ltU 0 l.length (Sort.insertionSort ltU l.toArray 0 l.length):=
 Sort.insertionSort_holds swoU l.toArray 0 l.length (Nat.zero_le _) (by simp)
theorem srtU_len (l:List Un):(srtU l).length=l.length:=by
 have:=(srtU_raw l).1.1
 unfold srtU;rw[Array.length_toList,this];simp
end Go.Sym