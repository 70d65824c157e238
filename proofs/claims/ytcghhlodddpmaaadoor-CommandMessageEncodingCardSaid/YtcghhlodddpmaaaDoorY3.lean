import Derived.Test.YtcghhlodddpmaaaDoorY2
namespace Go.Sym
set_option linter.unusedVariables false
set_option linter.unusedSimpArgs false
open Go.Proofs
set_option maxRecDepth 100000
theorem isB.left {X Y:List Int} (h:isB (X++Y)):isB X:=fun b hb=>h b (List.mem_append_left _ hb)
theorem isB.right {X Y:List Int} (h:isB (X++Y)):isB Y:=fun b hb=>h b (List.mem_append_right _ hb)
theorem sL_by {n:Int} {R:List Int} (h:r64 n) (h0:0<=n) (h1:n<=R.length):sL (.ok (byZ n++R))=(n,.ok R):=by
 unfold sL
 rw[show sI (.ok (byZ n++R))=(n,.ok R)from pI_by h]
 simp only
 rw[if_neg (by omega),if_neg (by omega)]
theorem sB_by {l R:List Int} (h:r64 l.length):sB (.ok (byBs l++R))=(l,.ok R):=by
 unfold sB byBs
 rw[List.append_assoc,sL_by h (by omega) (by rw[List.length_append];omega)]
 simp
theorem byIs_cons (n:Int) (l:List Int):byIs (n::l)=byZ n++byIs l:=by unfold byIs;rw[List.flatMap_cons]
theorem strL_strB {l:List Int} (h:isB l):strL (strB l)=l:=by
 unfold strB strL
 simp only[List.map_map]
 conv=>rhs;rw[<- List.map_id l]
 apply List.map_congr_left
 intro n hn
 have:=h n hn
 simp only[Function.comp_apply,UInt8.toNat_ofNat',id]
 omega
end Go.Sym