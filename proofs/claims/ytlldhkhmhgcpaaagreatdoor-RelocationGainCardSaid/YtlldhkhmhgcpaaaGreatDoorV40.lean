import Derived.Test.YtlldhkhmhgcpaaaGreatDoorV1
import Derived.Test.YtlldhkhmhgcpaaaGreatDoorT40
import Derived.Test.YtlldhkhmhgcpaaaGreatDoorSH
import Derived.Test.YtlldhkhmhgcpaaaGreatDoorCM
import Derived.Sort.AssemblyPlain
import Derived.WalkKit
import Derived.Test.YtlldhkhmhgcpaaaGreatDoorXD
namespace Go.Sym
set_option linter.unusedVariables false
set_option linter.unusedSimpArgs false
open Go.ChangeShapes Go.WideShapes Go.RowKit
open Go.Proofs
set_option maxRecDepth 100000
def decI1 (g:Nat->D):Int:=(g 0).toI
def decE3 (g:Nat->D):Ed:=⟨(g 0).toI,(g 1).toI,(g 2).toI⟩
def decU10 (g:Nat->D):Un:=⟨(g 0).toI,(g 1).toI,(g 2).toI,(g 3).toI,(g 4).toI,(g 5).toI,(g 6).toI,(g 7).toI,(g 8).toI,(g 9).toI⟩
def decM2 (g:Nat->D):Mv:=((g 0).toI,(g 1).toI)
theorem decI1_eq (g:Nat->D):rowEq k1 g (encI (decI1 g)) 0:=by simp only[rowEq,Kd.eqv,k1];exact⟨rfl,trivial⟩
theorem decE3_eq (g:Nat->D):rowEq kE g (encE (decE3 g)) 0:=by simp only[rowEq,Kd.eqv,kE];exact⟨rfl,rfl,rfl,trivial⟩
theorem decU10_eq (g:Nat->D):rowEq kU g (encU (decU10 g)) 0:=by simp only[rowEq,Kd.eqv,kU];exact⟨rfl,rfl,rfl,rfl,rfl,rfl,rfl,rfl,rfl,rfl,trivial⟩
theorem decM2_eq (g:Nat->D):rowEq kM g (encM (decM2 g)) 0:=by simp only[rowEq,Kd.eqv,kM];exact⟨rfl,rfl,trivial⟩
theorem len_ok {α:Type} {ks:List Kd} {d:D} {dec:(Nat->D)->α} (h:WfD (.sl ks) d):(decL dec d.toN d.toF).length<=9223372036854775807:=by
 rw[decL_length]
 simp only[WfD]at h
 exact h.1
def kCas:List Kd:=[.int .i64,.sl kE,.sl k1,.sl kU]
theorem list_4 {α:Type} {l:List α} (h:l.length=4):∃ a b c d,l=[a,b,c,d]:=by
 match l,h with
 | [a,b,c,d],_=>exact⟨a,b,c,d,rfl⟩
theorem struct_cellsW {H:Type} {enc:TypeId × Value->H} {P:Program} {W:World} {T:List (Nat × TI)} (hT:TOk P T) {t:Nat} {ks:List Kd} {cs:Array Value} {d:DataW H} {p:List MemPlace} (hk:kdsL T 40 t=some ks) (hs:cs.size=ks.length)
  (h:DataW.Trod enc P W 0 (fun _=>true) true t (.agg cs) d p):∃ g:Nat->D,CellsD W ks g 0 cs.toList/\∀ j k,ks[j]? =some k->WfD k (g j):=by
 obtain⟨fl,h⟩:=h
 obtain⟨g,hg⟩:=(trod_lift hT 40).1 t ks hk fl _ _ h
 refine⟨g,⟨by simpa using hs,fun j k hj=>?_⟩,fun j k hj=>?_⟩
 all_goals
  have hlt:j<ks.length:=by
   rcases Nat.lt_or_ge j ks.length with q|q
   ·exact q
   ·rw[List.getElem?_eq_none q]at hj;cases hj
  obtain⟨u,h1,h2,h3⟩:=hg j hlt
  rw[List.getElem?_eq_getElem hlt]at hj
  cases hj
 ·exact⟨u,by simpa[Value.cells]using h1,by simpa using h2⟩
 ·simpa using h3
end Go.Sym
namespace Go.Sym
set_option linter.unusedVariables false
set_option linter.unusedSimpArgs false
def ltU (a b:Un):Bool:=decide (a.id<b.id)
def srtU (l:List Un):List Un:=(Sort.insertionSort ltU l.toArray 0 l.length).toList
theorem swoU:Sort.SWO ltU:=⟨fun x=>by simp[ltU],fun x y z h1 h2=>by simp[ltU]at *;omega,fun x y z h1 h2=>by simp[ltU]at *;omega⟩
theorem srtU_raw (l:List Un):Sort.PermIn 0 l.length l.toArray (Sort.insertionSort ltU l.toArray 0 l.length)/\Sort.SortedIn ltU 0 l.length (Sort.insertionSort ltU l.toArray 0 l.length):=
 Sort.insertionSort_holds swoU l.toArray 0 l.length (Nat.zero_le _) (by simp)
theorem srtU_len (l:List Un):(srtU l).length=l.length:=by
 have:=(srtU_raw l).1.1
 unfold srtU;rw[Array.length_toList,this];simp
end Go.Sym
namespace Go.Sym
set_option linter.unusedVariables false
open Go.Proofs Go.RowKit
set_option maxRecDepth 100000
set_option maxHeartbeats 4000000
set_option maxRecDepth 100000
theorem len64_run (x:Nat) (hx:x<=12) (w:World):Calls Tryz.prog 104 #[.int .u64 x] w fun e w'=>(∃ k:Int,e= .returned (.int .i64 k))/\w'=w:=by
 rcases(show x=0∨x=1∨x=2∨x=3∨x=4∨x=5∨x=6∨x=7∨x=8∨x=9∨x=10∨x=11∨x=12 by omega)with h|h|h|h|h|h|h|h|h|h|h|h|h <;>subst h <;>(go_enter Tryz.func104,Tryz.ntmps104;go_wp2;(try go_ret);exact⟨⟨_,rfl⟩,rfl⟩)
def len64C:CT where
 X:=Nat
 pre:=fun n=>n<=12
 args:=fun n=>[.i .u64 n]
 g0:=fun _=>[]
 res:=fun _=>.u
 g1:=fun _=>[]
theorem len64_good:Good Tryz.prog 104 len64C/\FnOk Tryz.prog 104:=by
 refine⟨good_pure (fun _ _=>rfl) (fun _=>rfl) (fun _=>rfl) fun x hx ρ w vals hg hv hz=>?_,Tryz.f104,rfl,by decide+kernel,rfl⟩
 simp only[len64C,DenL,Den]at hv
 obtain⟨v,r,rfl,rfl,rfl⟩:=hv
 exact(len64_run x hx w).mono fun e w' ⟨⟨k,h1⟩,h2⟩=>⟨⟨_,h1,by simp only[len64C,Den]⟩,h2⟩
end Go.Sym