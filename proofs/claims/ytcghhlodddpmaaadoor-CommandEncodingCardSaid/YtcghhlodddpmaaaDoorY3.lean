import Derived.Test.YtcghhlodddpmaaaDoorY2
namespace Go.Sym
set_option linter.unusedVariables false
set_option linter.unusedSimpArgs false
open Go.Proofs
set_option maxRecDepth 100000
theorem take_lt {X Y:List Int} {j:Nat} (h:j<X.length):(X++Y).take j=X.take j:=List.take_append_of_le_length (Nat.le_of_lt h)
theorem take_ge {X Y:List Int} {j:Nat} (h:¬ j<X.length):(X++Y).take j=X++Y.take (j-X.length):=by
 rw[List.take_append,List.take_of_length_le (by omega)]
theorem byZ_pos (v:Int):0<(byZ v).length:=by
 unfold byZ
 rw[byU_eq]
 unfold byK
 split <;>simp
theorem isB.left {X Y:List Int} (h:isB (X++Y)):isB X:=fun b hb=>h b (List.mem_append_left _ hb)
theorem isB.right {X Y:List Int} (h:isB (X++Y)):isB Y:=fun b hb=>h b (List.mem_append_right _ hb)
theorem sL_by {n:Int} {R:List Int} (h:r64 n) (h0:0<=n) (h1:n<=R.length):sL (.ok (byZ n++R))=(n,.ok R):=by
 unfold sL
 rw[show sI (.ok (byZ n++R))=(n,.ok R)from pI_by h]
 simp only
 rw[if_neg (by omega),if_neg (by omega)]
theorem sL_cut1 {n:Int} {j:Nat} (h:r64 n) (hj:j<(byZ n).length):sL (.ok ((byZ n).take j))=(0,.er 11):=by
 unfold sL
 rw[show sI (.ok ((byZ n).take j))=(0,.er 11)from pI_cut h hj]
theorem sL_cut2 {n:Int} {R:List Int} (h:r64 n) (h0:0<=n) (h1:(R.length:Int)<n):sL (.ok (byZ n++R))=(0,.er 11):=by
 unfold sL
 rw[show sI (.ok (byZ n++R))=(n,.ok R)from pI_by h]
 simp only
 rw[if_neg (by omega),if_pos h1]
theorem sL_inv {U R:List Int} {n:Int} (hB:isB U) (h:sL (.ok U)=(n,.ok R)):U=byZ n++R/\r64 n/\0<=n/\n<=R.length:=by
 unfold sL at h
 cases hp:sI (.ok U)with
 |mk v s=>
  rw[hp]at h
  cases s with
  |er e=>cases congrArg Prod.snd h
  |ok Q=>
   simp only at h
   split at h
   ·cases congrArg Prod.snd h
   ·split at h
    ·cases congrArg Prod.snd h
    ·have e1:=congrArg Prod.fst h
     have e2:S.ok Q=S.ok R:=congrArg Prod.snd h
     simp only at e1
     injection e2 with e2
     subst e1 e2
     obtain⟨a,b⟩:=pI_inv hB hp
     exact⟨a,b,by omega,by omega⟩
theorem sB_by {l R:List Int} (h:r64 l.length):sB (.ok (byBs l++R))=(l,.ok R):=by
 unfold sB byBs
 rw[List.append_assoc,sL_by h (by omega) (by rw[List.length_append];omega)]
 simp
theorem sB_cut {l:List Int} {j:Nat} (h:r64 l.length) (hj:j<(byBs l).length):sB (.ok ((byBs l).take j))=([],.er 11):=by
 unfold byBs at hj ⊢
 rw[List.length_append]at hj
 unfold sB
 by_cases h1:j<(byZ (l.length:Int)).length
 ·rw[take_lt h1,sL_cut1 h h1]
 ·rw[take_ge h1,sL_cut2 h (by omega) (by rw[List.length_take];omega)]
theorem sB_inv {U l R:List Int} (hB:isB U) (h:sB (.ok U)=(l,.ok R)):U=byBs l++R/\r64 l.length:=by
 unfold sB at h
 cases hp:sL (.ok U)with
 |mk v s=>
  rw[hp]at h
  cases s with
  |er e=>cases congrArg Prod.snd h
  |ok Q=>
   have e1:Q.take v.toNat=l:=congrArg Prod.fst h
   have e2:S.ok (Q.drop v.toNat)=S.ok R:=congrArg Prod.snd h
   injection e2 with e2
   obtain⟨a,b,c,d⟩:=sL_inv hB hp
   have hl:(l.length:Int)=v:=by rw[<- e1,List.length_take];omega
   unfold byBs
   rw[hl,List.append_assoc,<- e1,<- e2,List.take_append_drop]
   exact⟨a,b⟩
theorem byIs_cons (n:Int) (l:List Int):byIs (n::l)=byZ n++byIs l:=by unfold byIs;rw[List.flatMap_cons]
theorem byIs_ge (l:List Int):l.length<=(byIs l).length:=by
 induction l with
 |nil=>exact Nat.zero_le _
 |cons n l ih=>
  have:=byZ_pos n
  rw[byIs_cons,List.length_append,List.length_cons]
  omega
theorem tK_by:∀(l acc R:List Int),(∀ n∈l,r64 n)->tK l.length (.ok (byIs l++R)) acc=(acc++l,.ok R)
 | [],acc,R,_=>by unfold byIs;simp[tK]
 |n::l,acc,R,h=>by
  rw[byIs_cons,List.append_assoc,List.length_cons]
  unfold tK
  rw[show sI (.ok (byZ n++(byIs l++R)))=(n,.ok (byIs l++R))from pI_by (h n (List.mem_cons_self ..))]
  simp only
  rw[tK_by l (acc++[n]) R (fun x hx=>h x (List.mem_cons_of_mem _ hx)),List.append_assoc]
  rfl
theorem tK_cut:∀(l acc:List Int) (j:Nat),(∀ n∈l,r64 n)->j<(byIs l).length->(tK l.length (.ok ((byIs l).take j)) acc).2= .er 11
 | [],acc,j,_,hj=>absurd hj (Nat.not_lt_zero j)
 |n::l,acc,j,h,hj=>by
  rw[byIs_cons]at hj ⊢
  rw[List.length_append]at hj
  rw[List.length_cons]
  have hn:=h n (List.mem_cons_self ..)
  unfold tK
  by_cases h1:j<(byZ n).length
  ·rw[take_lt h1,show sI (.ok ((byZ n).take j))=(0,.er 11)from pI_cut hn h1]
  ·rw[take_ge h1,show sI (.ok (byZ n++(byIs l).take (j-(byZ n).length)))=(n,.ok ((byIs l).take (j-(byZ n).length)))from pI_by hn]
   exact tK_cut l _ _ (fun x hx=>h x (List.mem_cons_of_mem _ hx)) (by omega)
theorem tK_inv:∀(k:Nat) (U acc L R:List Int),isB U->tK k (.ok U) acc=(L,.ok R)->∃ l,L=acc++l/\l.length=k/\U=byIs l++R/\∀ n∈l,r64 n
 |0,U,acc,L,R,hB,h=>by
  have e1:acc=L:=congrArg Prod.fst h
  have e2:S.ok U=S.ok R:=congrArg Prod.snd h
  injection e2 with e2
  exact⟨[],by rw[List.append_nil,e1],rfl,by rw[e2];rfl,fun n hn=>by cases hn⟩
 |k+1,U,acc,L,R,hB,h=>by
  unfold tK at h
  cases hp:sI (.ok U)with
  |mk v s=>
   rw[hp]at h
   cases s with
   |er e=>cases congrArg Prod.snd h
   |ok Q=>
    simp only at h
    obtain⟨a,b⟩:=pI_inv hB hp
    obtain⟨l,e1,e2,e3,e4⟩:=tK_inv k Q (acc++[v]) L R (by rw[a]at hB;exact hB.right) h
    refine⟨v::l,by rw[e1,List.append_assoc];rfl,by rw[List.length_cons,e2],by rw[a,e3,byIs_cons,List.append_assoc],fun n hn=>?_⟩
    rcases List.mem_cons.1 hn with rfl|h5
    ·exact b
    ·exact e4 n h5
theorem sT_by {l R:List Int} (h:r64 l.length) (hr:∀ n∈l,r64 n):sT (.ok (byLs l++R))=(l,.ok R):=by
 unfold sT byLs
 have:=byIs_ge l
 rw[List.append_assoc,sL_by h (by omega) (by rw[List.length_append];omega)]
 simp only[Int.toNat_natCast]
 rw[tK_by l [] R hr,List.nil_append]
theorem sT_cut {l:List Int} {j:Nat} (h:r64 l.length) (hr:∀ n∈l,r64 n) (hj:j<(byLs l).length):(sT (.ok ((byLs l).take j))).2= .er 11:=by
 unfold byLs at hj ⊢
 rw[List.length_append]at hj
 unfold sT
 by_cases h1:j<(byZ (l.length:Int)).length
 ·rw[take_lt h1,sL_cut1 h h1]
 ·rw[take_ge h1]
  by_cases h2:(((byIs l).take (j-(byZ (l.length:Int)).length)).length:Int)<l.length
  ·rw[sL_cut2 h (by omega) h2]
  ·rw[sL_by h (by omega) (by omega)]
   simp only[Int.toNat_natCast]
   exact tK_cut l [] _ hr (by omega)
theorem sT_inv {U l R:List Int} (hB:isB U) (h:sT (.ok U)=(l,.ok R)):U=byLs l++R:=by
 unfold sT at h
 cases hp:sL (.ok U)with
 |mk v s=>
  rw[hp]at h
  cases s with
  |er e=>cases congrArg Prod.snd h
  |ok Q=>
   simp only at h
   obtain⟨a,b,c,d⟩:=sL_inv hB hp
   obtain⟨l',e1,e2,e3,e4⟩:=tK_inv _ Q [] l R (by rw[a]at hB;exact hB.right) h
   rw[List.nil_append]at e1
   subst e1
   have hl:(l.length:Int)=v:=by omega
   unfold byLs
   rw[hl,a,e3,List.append_assoc]
theorem strB_strL (s:ByteArray):strB (strL s)=s:=by
 unfold strB strL
 obtain⟨⟨l⟩⟩:=s
 simp[Function.comp_def]
theorem strL_strB {l:List Int} (h:isB l):strL (strB l)=l:=by
 unfold strB strL
 simp only[List.map_map]
 conv=>rhs;rw[<- List.map_id l]
 apply List.map_congr_left
 intro n hn
 have:=h n hn
 simp only[Function.comp_apply,UInt8.toNat_ofNat',id]
 omega
theorem bySt_eq (s:ByteArray):bySt s=byBs (strL s):=by unfold bySt byBs;rw[strL_len]
end Go.Sym