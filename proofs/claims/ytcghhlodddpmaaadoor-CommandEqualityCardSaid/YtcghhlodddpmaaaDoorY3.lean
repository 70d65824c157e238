import Derived.Test.YtcghhlodddpmaaaDoorY2
namespace Go.Sym
set_option linter.unusedVariables false
set_option linter.unusedSimpArgs false
open Go.Proofs
set_option maxRecDepth 100000
theorem byZ_pos (v:Int):0<(byZ v).length:=by
 unfold byZ
 rw[byU_eq]
 unfold byK
 split <;>simp
theorem isB.left {X Y:List Int} (h:isB (X++Y)):isB X:=fun b hb=>h b (List.mem_append_left _ hb)
theorem isB.right {X Y:List Int} (h:isB (X++Y)):isB Y:=fun b hb=>h b (List.mem_append_right _ hb)
theorem sL_by {n:Int} {R:List Int} (h:r64 n) (h0:0<=n) (h1:n<=R.length):sL (.ok (byZ n++R))=(n,.ok R):=by
 unfold sL
 rw[show sI (.ok (byZ n++R))=(n,.ok R)from pI_by h]
 simp only
 rw[if_neg (by omega),if_neg (by omega)]
theorem sB_by {l R:List Int} (h:r64 l.length):sB (.ok (byBs l++R))=(l,.ok R):=by
 unfold sB byBs
 rw[List.append_assoc,sL_by h (by omega) (by rw[List.length_append];omega)]
 simp
theorem byIs_cons (n:Int) (l:List Int):byIs (n::l)=byZ n++byIs l:=by unfold byIs;rw[List.flatMap_cons]
theorem byIs_ge (l:List Int):l.length<=(byIs l).length:=by
 induction l with
 |nil=>exact Nat.zero_le _
 |cons n l ih=>
  have:=byZ_pos n
  rw[byIs_cons,List.length_append,List.length_cons]
  omega
theorem tK_by:∀(l acc R:List Int),(∀ n∈l,r64 n)->tK l.length (.ok (byIs l++R)) acc=(acc++l,.ok R)
 | [],acc,R,_=>by unfold byIs;simp[tK]
 |n::l,acc,R,h=>by
  rw[byIs_cons,List.append_assoc,List.length_cons]
  unfold tK
  rw[show sI (.ok (byZ n++(byIs l++R)))=(n,.ok (byIs l++R))from pI_by (h n (List.mem_cons_self ..))]
  simp only
  rw[tK_by l (acc++[n]) R (fun x hx=>h x (List.mem_cons_of_mem _ hx)),List.append_assoc]
  rfl
theorem sT_by {l R:List Int} (h:r64 l.length) (hr:∀ n∈l,r64 n):sT (.ok (byLs l++R))=(l,.ok R):=by
 unfold sT byLs
 have:=byIs_ge l
 rw[List.append_assoc,sL_by h (by omega) (by rw[List.length_append];omega)]
 simp only[Int.toNat_natCast]
 rw[tK_by l [] R hr,List.nil_append]
theorem strB_strL (s:ByteArray):strB (strL s)=s:=by
 unfold strB strL
 obtain⟨⟨l⟩⟩:=s
 simp[Function.comp_def]
theorem strL_strB {l:List Int} (h:isB l):strL (strB l)=l:=by
 unfold strB strL
 simp only[List.map_map]
 conv=>rhs;rw[<- List.map_id l]
 apply List.map_congr_left
 intro n hn
 have:=h n hn
 simp only[Function.comp_apply,UInt8.toNat_ofNat',id]
 omega
theorem bySt_eq (s:ByteArray):bySt s=byBs (strL s):=by unfold bySt byBs;rw[strL_len]
end Go.Sym