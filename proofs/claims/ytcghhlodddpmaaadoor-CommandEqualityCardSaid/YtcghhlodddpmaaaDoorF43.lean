import Derived.Test.YtcghhlodddpmaaaDoorX5
import Derived.Test.YtcghhlodddpmaaaDoorT3
import Derived.Test.YtcghhlodddpmaaaDoorXD
namespace Go.Sym
set_option linter.unusedVariables false
set_option linter.unusedSimpArgs false
open Go.Proofs Go.ChangeShapes Go.WideShapes Go.RowKit
set_option maxRecDepth 100000
def decI1 (g:Nat->D):Int:=(g 0).toI
theorem decI1_eq (g:Nat->D):rowEq kN g (encI (decI1 g)) 0:=by simp only[rowEq,Kd.eqv];exact⟨rfl,trivial⟩
theorem struct_in {H:Type} {enc:TypeId × Value->H} {P:Program} {w:World} {T:List (Nat × TI)} (hT:TOk P T) {t:Nat} {ks:List Kd} {cs:Array Value} {d:DataW H} {p:List MemPlace} (hk:kdsL T 40 t=some ks) (h:DataW.Trod enc P w 0 (fun _=>true) true t (.agg cs) d p):
  ∃ g:Nat->D,∀ j (hj:j<ks.length),∃ u,cs[j]? =some u/\DenD (fun b=>w.heap[b]?) (ks[j]'hj) (g j) u/\WfD (ks[j]'hj) (g j):=by
 obtain⟨fl,h⟩:=h
 obtain⟨g,hg⟩:=(trod_lift hT 40).1 t ks hk fl _ _ h
 refine⟨g,fun j hj=>?_⟩
 obtain⟨u,h1,h2,h3⟩:=hg j hj
 exact⟨u,by simpa[Value.cells]using h1,h2,h3⟩
def kCmd:List Kd:=[.int .i64,.int .i64,.int .i64,.int .i64,.int .i64,.str,.sl kN,.int .i64,.int .i64,.int .i64,.int .i64,.int .i64,.int .i64,.int .i64,.int .i64,.int .i64,.int .i64,.int .i64,.int .i64]
def cmdV (g:Nat->D) (v6:Value):Array Value:= #[.int .i64 (g 0).toI,.int .i64 (g 1).toI,.int .i64 (g 2).toI,.int .i64 (g 3).toI,.int .i64 (g 4).toI,.string (g 5).toS,v6,.int .i64 (g 7).toI,.int .i64 (g 8).toI,.int .i64 (g 9).toI,.int .i64 (g 10).toI,.int .i64 (g 11).toI,.int .i64 (g 12).toI,.int .i64 (g 13).toI,.int .i64 (g 14).toI,.int .i64 (g 15).toI,.int .i64 (g 16).toI,.int .i64 (g 17).toI,.int .i64 (g 18).toI]
def cmdOf (g:Nat->D):Cmd:=⟨(g 0).toI,(g 1).toI,(g 2).toI,(g 3).toI,(g 4).toI,(g 5).toS,decL decI1 (g 6).toN (g 6).toF,(g 7).toI,(g 8).toI,(g 9).toI,(g 10).toI,(g 11).toI,(g 12).toI,(g 13).toI,(g 14).toI,(g 15).toI,(g 16).toI,(g 17).toI,(g 18).toI⟩
theorem cmd_in {H:Type} {enc:TypeId × Value->H} {w:World} {cs:Array Value} {d:DataW H} {p:List MemPlace} (hs:cs.size=19) (h:DataW.Trod enc Tryd.prog w 0 (fun _=>true) true 26 (.agg cs) d p):
  ∃(g:Nat->D) (v6:Value),cs=cmdV g v6/\DenD (fun b=>w.heap[b]?) (.sl kN) (g 6) v6:=by
 obtain⟨g,hg⟩:=struct_in (ks:=kCmd) tok (by kernel_rfl) h
 obtain⟨u0,a0,b0,_⟩:=hg 0 (by decide)
 obtain⟨u1,a1,b1,_⟩:=hg 1 (by decide)
 obtain⟨u2,a2,b2,_⟩:=hg 2 (by decide)
 obtain⟨u3,a3,b3,_⟩:=hg 3 (by decide)
 obtain⟨u4,a4,b4,_⟩:=hg 4 (by decide)
 obtain⟨u5,a5,b5,_⟩:=hg 5 (by decide)
 obtain⟨u6,a6,b6,_⟩:=hg 6 (by decide)
 obtain⟨u7,a7,b7,_⟩:=hg 7 (by decide)
 obtain⟨u8,a8,b8,_⟩:=hg 8 (by decide)
 obtain⟨u9,a9,b9,_⟩:=hg 9 (by decide)
 obtain⟨u10,a10,b10,_⟩:=hg 10 (by decide)
 obtain⟨u11,a11,b11,_⟩:=hg 11 (by decide)
 obtain⟨u12,a12,b12,_⟩:=hg 12 (by decide)
 obtain⟨u13,a13,b13,_⟩:=hg 13 (by decide)
 obtain⟨u14,a14,b14,_⟩:=hg 14 (by decide)
 obtain⟨u15,a15,b15,_⟩:=hg 15 (by decide)
 obtain⟨u16,a16,b16,_⟩:=hg 16 (by decide)
 obtain⟨u17,a17,b17,_⟩:=hg 17 (by decide)
 obtain⟨u18,a18,b18,_⟩:=hg 18 (by decide)
 have b0:u0= .int .i64 (g 0).toI:=by simpa only[kCmd,DenD,List.getElem_cons_zero,List.getElem_cons_succ]using b0
 subst b0
 have b1:u1= .int .i64 (g 1).toI:=by simpa only[kCmd,DenD,List.getElem_cons_zero,List.getElem_cons_succ]using b1
 subst b1
 have b2:u2= .int .i64 (g 2).toI:=by simpa only[kCmd,DenD,List.getElem_cons_zero,List.getElem_cons_succ]using b2
 subst b2
 have b3:u3= .int .i64 (g 3).toI:=by simpa only[kCmd,DenD,List.getElem_cons_zero,List.getElem_cons_succ]using b3
 subst b3
 have b4:u4= .int .i64 (g 4).toI:=by simpa only[kCmd,DenD,List.getElem_cons_zero,List.getElem_cons_succ]using b4
 subst b4
 have b5:u5= .string (g 5).toS:=by simpa only[kCmd,DenD,List.getElem_cons_zero,List.getElem_cons_succ]using b5
 subst b5
 have b7:u7= .int .i64 (g 7).toI:=by simpa only[kCmd,DenD,List.getElem_cons_zero,List.getElem_cons_succ]using b7
 subst b7
 have b8:u8= .int .i64 (g 8).toI:=by simpa only[kCmd,DenD,List.getElem_cons_zero,List.getElem_cons_succ]using b8
 subst b8
 have b9:u9= .int .i64 (g 9).toI:=by simpa only[kCmd,DenD,List.getElem_cons_zero,List.getElem_cons_succ]using b9
 subst b9
 have b10:u10= .int .i64 (g 10).toI:=by simpa only[kCmd,DenD,List.getElem_cons_zero,List.getElem_cons_succ]using b10
 subst b10
 have b11:u11= .int .i64 (g 11).toI:=by simpa only[kCmd,DenD,List.getElem_cons_zero,List.getElem_cons_succ]using b11
 subst b11
 have b12:u12= .int .i64 (g 12).toI:=by simpa only[kCmd,DenD,List.getElem_cons_zero,List.getElem_cons_succ]using b12
 subst b12
 have b13:u13= .int .i64 (g 13).toI:=by simpa only[kCmd,DenD,List.getElem_cons_zero,List.getElem_cons_succ]using b13
 subst b13
 have b14:u14= .int .i64 (g 14).toI:=by simpa only[kCmd,DenD,List.getElem_cons_zero,List.getElem_cons_succ]using b14
 subst b14
 have b15:u15= .int .i64 (g 15).toI:=by simpa only[kCmd,DenD,List.getElem_cons_zero,List.getElem_cons_succ]using b15
 subst b15
 have b16:u16= .int .i64 (g 16).toI:=by simpa only[kCmd,DenD,List.getElem_cons_zero,List.getElem_cons_succ]using b16
 subst b16
 have b17:u17= .int .i64 (g 17).toI:=by simpa only[kCmd,DenD,List.getElem_cons_zero,List.getElem_cons_succ]using b17
 subst b17
 have b18:u18= .int .i64 (g 18).toI:=by simpa only[kCmd,DenD,List.getElem_cons_zero,List.getElem_cons_succ]using b18
 subst b18
 refine⟨g,u6,?_,b6⟩
 apply Array.ext_getElem?
 intro i
 match i with
 |0=>simpa[cmdV]using a0
 |1=>simpa[cmdV]using a1
 |2=>simpa[cmdV]using a2
 |3=>simpa[cmdV]using a3
 |4=>simpa[cmdV]using a4
 |5=>simpa[cmdV]using a5
 |6=>simpa[cmdV]using a6
 |7=>simpa[cmdV]using a7
 |8=>simpa[cmdV]using a8
 |9=>simpa[cmdV]using a9
 |10=>simpa[cmdV]using a10
 |11=>simpa[cmdV]using a11
 |12=>simpa[cmdV]using a12
 |13=>simpa[cmdV]using a13
 |14=>simpa[cmdV]using a14
 |15=>simpa[cmdV]using a15
 |16=>simpa[cmdV]using a16
 |17=>simpa[cmdV]using a17
 |18=>simpa[cmdV]using a18
 |i+19=>rw[Array.getElem?_eq_none (by omega),Array.getElem?_eq_none (by simp[cmdV])]
theorem cmd_den {ρ:Env} {g:Nat->D} {v6:Value} {l:Nat} (h:Den ρ (.sl l 0 (g 6).toN) v6):Den ρ (.agg (cl (cmdOf g) l)) (.agg (cmdV g v6)):=by
 have e:(cmdOf g).nodes.length=(g 6).toN:=decL_length decI1 _ _
 unfold cl
 rw[e,Den]
 refine⟨_,rfl,?_⟩
 show DenL ρ _ [.int .i64 (g 0).toI,.int .i64 (g 1).toI,.int .i64 (g 2).toI,.int .i64 (g 3).toI,.int .i64 (g 4).toI,.string (g 5).toS,v6,.int .i64 (g 7).toI,.int .i64 (g 8).toI,.int .i64 (g 9).toI,.int .i64 (g 10).toI,.int .i64 (g 11).toI,.int .i64 (g 12).toI,.int .i64 (g 13).toI,.int .i64 (g 14).toI,.int .i64 (g 15).toI,.int .i64 (g 16).toI,.int .i64 (g 17).toI,.int .i64 (g 18).toI]
 refine DenL_cons.2 ⟨by simp only[Den];rfl,DenL_cons.2 ⟨by simp only[Den];rfl,DenL_cons.2 ⟨by simp only[Den];rfl,DenL_cons.2 ⟨by simp only[Den];rfl,DenL_cons.2 ⟨by simp only[Den];rfl,DenL_cons.2 ⟨by simp only[Den];rfl,DenL_cons.2 ⟨h,DenL_cons.2 ⟨by simp only[Den];rfl,DenL_cons.2 ⟨by simp only[Den];rfl,DenL_cons.2 ⟨by simp only[Den];rfl,DenL_cons.2 ⟨by simp only[Den];rfl,DenL_cons.2 ⟨by simp only[Den];rfl,DenL_cons.2 ⟨by simp only[Den];rfl,DenL_cons.2 ⟨by simp only[Den];rfl,DenL_cons.2 ⟨by simp only[Den];rfl,DenL_cons.2 ⟨by simp only[Den];rfl,DenL_cons.2 ⟨by simp only[Den];rfl,DenL_cons.2 ⟨by simp only[Den];rfl,DenL_cons.2 ⟨by simp only[Den];rfl,by simp[DenL]⟩⟩⟩⟩⟩⟩⟩⟩⟩⟩⟩⟩⟩⟩⟩⟩⟩⟩⟩
end Go.Sym