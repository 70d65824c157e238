import Derived.Test.YtcghhlodddpmaaaDoorF44
import Derived.Test.YtcghhlodddpmaaaDoorM1
namespace Go.Sym
set_option linter.unusedVariables false
open Go.Proofs Go.ChangeShapes Go.WideShapes Go.RowKit
set_option maxRecDepth 100000
def kMsg:List Kd:=[.int .i64,.int .i64,.int .i64,.int .i64,.int .i64,.int .i64,.sl kB]
def noteV (g:Nat->D) (v6:Value):Array Value:= #[.int .i64 (g 0).toI,.int .i64 (g 1).toI,.int .i64 (g 2).toI,.int .i64 (g 3).toI,.int .i64 (g 4).toI,.int .i64 (g 5).toI,v6]
def noteOf (g:Nat->D):Msg:=⟨(g 0).toI,(g 1).toI,(g 2).toI,(g 3).toI,(g 4).toI,(g 5).toI,decL decI1 (g 6).toN (g 6).toF⟩
theorem note_in {H:Type} {enc:TypeId × Value->H} {w:World} {cs:Array Value} {d:DataW H} {p:List MemPlace} (hs:cs.size=7) (h:DataW.Trod enc Tryd.prog w 0 (fun _=>true) true 43 (.agg cs) d p):
  ∃(g:Nat->D) (v6:Value),cs=noteV g v6/\(DenD (fun b=>w.heap[b]?) (.sl kB) (g 6) v6/\isB (noteOf g).body):=by
 obtain⟨g,hg⟩:=struct_in (ks:=kMsg) tok (by kernel_rfl) h
 obtain⟨u0,a0,b0,w0⟩:=hg 0 (by decide)
 obtain⟨u1,a1,b1,w1⟩:=hg 1 (by decide)
 obtain⟨u2,a2,b2,w2⟩:=hg 2 (by decide)
 obtain⟨u3,a3,b3,w3⟩:=hg 3 (by decide)
 obtain⟨u4,a4,b4,w4⟩:=hg 4 (by decide)
 obtain⟨u5,a5,b5,w5⟩:=hg 5 (by decide)
 obtain⟨u6,a6,b6,w6⟩:=hg 6 (by decide)
 have b0:u0= .int .i64 (g 0).toI:=by simpa only[kMsg,DenD,List.getElem_cons_zero,List.getElem_cons_succ]using b0
 subst b0
 have b1:u1= .int .i64 (g 1).toI:=by simpa only[kMsg,DenD,List.getElem_cons_zero,List.getElem_cons_succ]using b1
 subst b1
 have b2:u2= .int .i64 (g 2).toI:=by simpa only[kMsg,DenD,List.getElem_cons_zero,List.getElem_cons_succ]using b2
 subst b2
 have b3:u3= .int .i64 (g 3).toI:=by simpa only[kMsg,DenD,List.getElem_cons_zero,List.getElem_cons_succ]using b3
 subst b3
 have b4:u4= .int .i64 (g 4).toI:=by simpa only[kMsg,DenD,List.getElem_cons_zero,List.getElem_cons_succ]using b4
 subst b4
 have b5:u5= .int .i64 (g 5).toI:=by simpa only[kMsg,DenD,List.getElem_cons_zero,List.getElem_cons_succ]using b5
 subst b5
 refine⟨g,u6,?_,b6,decB_ok w6⟩
 apply Array.ext_getElem?
 intro i
 match i with
 |0=>simpa[noteV]using a0
 |1=>simpa[noteV]using a1
 |2=>simpa[noteV]using a2
 |3=>simpa[noteV]using a3
 |4=>simpa[noteV]using a4
 |5=>simpa[noteV]using a5
 |6=>simpa[noteV]using a6
 |i+7=>rw[Array.getElem?_eq_none (by omega),Array.getElem?_eq_none (by simp[noteV])]
theorem note_den {ρ:Env} {g:Nat->D} {v6:Value} {l:Nat} (h:Den ρ (.sl l 0 (g 6).toN) v6):Den ρ (.agg (ml (noteOf g) l)) (.agg (noteV g v6)):=by
 have e:(noteOf g).body.length=(g 6).toN:=decL_length decI1 _ _
 unfold ml
 rw[e,Den]
 refine⟨_,rfl,?_⟩
 show DenL ρ _ [.int .i64 (g 0).toI,.int .i64 (g 1).toI,.int .i64 (g 2).toI,.int .i64 (g 3).toI,.int .i64 (g 4).toI,.int .i64 (g 5).toI,v6]
 exact DenL_cons.2 ⟨by simp only[Den];rfl,DenL_cons.2 ⟨by simp only[Den];rfl,DenL_cons.2 ⟨by simp only[Den];rfl,DenL_cons.2 ⟨by simp only[Den];rfl,DenL_cons.2 ⟨by simp only[Den];rfl,DenL_cons.2 ⟨by simp only[Den];rfl,DenL_cons.2 ⟨h,by simp[DenL]⟩⟩⟩⟩⟩⟩⟩
theorem nt_run {pre:Msg->Prop} {f:Nat} (hg:Good Tryd.prog f ⟨Msg,pre,fun x=>[.agg (ml x 100001)],fun x=>[mB 100001 x],fun _=>.b true,fun _=>[]⟩) {W:World} (ht:glob10.ok ⟨fun _=>none,fun b=>W.heap[b]?⟩)
  {g:Nat->D} {v6:Value} (h1:DenD (fun b=>W.heap[b]?) (.sl kB) (g 6) v6) (hp:pre (noteOf g)):Calls Tryd.prog f #[.agg (noteV g v6)] W fun e W'=>e= .returned (.bool true)/\Below W.heap.size W W':=by
 obtain⟨q1,hq1⟩:=slice_place (w:=W) (fun _ _ h=>h) h1
 let at':Nat->Option Place:=fun l=>if l=100001 then q1 else none
 obtain⟨qa1,qb1⟩:=hq1 at' 100001 (by simp[at'])
 have l1:=decL_length decI1 (g 6).toN (g 6).toF
 refine law_run (vals:=[.agg (noteV g v6)]) hg (x:=noteOf g) hp rfl (ρ:=⟨at',fun b=>W.heap[b]?⟩) ?_ (HSat.read ?_ ?_) ?_ ht
 ·exact DenL_cons.2 ⟨note_den qa1,by simp[DenL]⟩
 ·intro l hgl
  by_cases e0:l=100001
  ·subst e0;cases hgl
  simp[at',e0]
 ·intro l b hgl
  have hm:(l,b)∈[mB 100001 (noteOf g)]:=hget_mem hgl
  simp only[mB,List.mem_cons,List.not_mem_nil,or_false,Prod.mk.injEq]at hm
  obtain⟨rfl,rfl⟩:=hm
  refine⟨?_,rfl,rfl⟩
  show BlkOk _ W _ (.rows .bor kB (decL decI1 (g 6).toN (g 6).toF).length (encL encI (decL decI1 (g 6).toN (g 6).toF)))
  rw[l1];exact qb1.rows_eqv (rowsEq_dec decB_eq _ _)
 ·intro l b hgl
  have hm:(l,b)∈[mB 100001 (noteOf g)]:=hget_mem hgl
  simp only[mB,List.mem_cons,List.not_mem_nil,or_false,Prod.mk.injEq]at hm
  obtain⟨rfl,rfl⟩:=hm;rfl
end Go.Sym