import Derived.Test.YtakbmbmpcenljaaT16
namespace Go.Sym
set_option linter.unusedVariables false
set_option linter.unusedSimpArgs false
open Go.Proofs
set_option maxRecDepth 100000
set_option maxHeartbeats 4000000
theorem both_b {P:Program} [Glob] {f:Nat} {X:Type} {pre:X->Prop} {t:X->Bool} {a:X->List SV} {g:X->List (Nat × Blk)} {r:X->SV} {g1:X->List (Nat × Blk)} (h1:Good P f ⟨X,fun x=>pre x/\t x=true,a,g,r,g1⟩) (h2:Good P f ⟨X,fun x=>pre x/\t x=false,a,g,r,g1⟩):
  Good P f ⟨X,pre,a,g,r,g1⟩:=by
 intro x hx
 cases h:t x with
 |true=>exact h1 x ⟨hx,h⟩
 |false=>exact h2 x ⟨hx,h⟩
structure Lwx where
 n:Nx
 l:List Act
 now:Int
def Lwx.r (x:Lwx):Rux:=⟨x.n,x.l⟩
def Lwx.q (x:Lwx):Qs:=enF x.r
def okL (x:Lwx):Bool:=decide (okN x.n/\x.l.length<=30)
theorem okL_y {x:Lwx} (h:okL x=true):okN x.n/\x.l.length<=30:=of_decide_eq_true h
theorem okL_n {x:Lwx} (h:okL x=false):¬ (okN x.n/\x.l.length<=30):=of_decide_eq_false h
theorem okL_q {x:Lwx} (h:okL x=true):QOk x.q/\x.q.l.length<=30:=en_ok (x:=x.r) (okL_y h)
theorem okL_m (x:Lwx):x.q.most=x.n.most/\x.q.ages=x.n.ages:=en_most x.r
theorem okL_f {x:Lwx} (h:okL x=true):0<=x.n.most/\x.q.most=x.n.most/\x.l.length<=30/\x.r.l.length=x.l.length/\x.q.l.length<=30/\(overF x.q x.now).length=x.q.l.length-x.q.most.toNat/\(orderF x.q x.now).length=x.q.l.length:=by
 have a:=okL_y h
 exact⟨a.1.1,(okL_m x).1,a.2,rfl,(okL_q h).2,over_len _ _,orderF_len _ _⟩
def lwA (x:Lwx):List SV:=[.agg [.i .i64 x.n.most,.i .i64 x.n.ages],.sl 100000 0 x.l.length,.i .i64 x.now]
def lwH (x:Lwx):List (Nat × Blk):=actsH 100000 x.l
def lawW (b:Bool):CT:=⟨Lwx,fun x=>x.n.most<=9223372036854775807/\okL x=b,lwA,lwH,fun _=>.b true,fun _=>[]⟩
def lawWC:CT:=⟨Lwx,fun x=>x.n.most<=9223372036854775807,lwA,lwH,fun _=>.b true,fun _=>[]⟩
theorem order_perm (q:Qs) (now:Int):(orderF q now).Perm (idsC q.l):=by
 have h:=(ordP_perm (q.l.map (plF q.ages now))).map Pl.ca
 rw[List.map_map]at h
 exact h
theorem order_mem {q:Qs} {now:Int} {j:Nat} (h:j<q.l.length):(orderF q now).getD j default∈idsC q.l:=by
 rw[getD_at (by rw[orderF_len];exact h)]
 exact(order_perm q now).mem_iff.1 (List.getElem_mem _)
theorem order_at {q:Qs} (hn:(idsC q.l).Nodup) {now:Int} {j:Nat} (h:j<(plsF q now).length):pAt q now ((orderF q now).getD j default)=(plsF q now)[j]:=by
 have hm:=(ordP_perm _).mem_iff.1 (List.getElem_mem h)
 obtain⟨c,hc,e⟩:=List.mem_map.1 hm
 have e2:(orderF q now).getD j default=c.id:=by
  unfold orderF
  rw[List.getD_eq_getElem?_getD,List.getElem?_map,List.getElem?_eq_getElem h]
  show((plsF q now)[j]).ca=c.id
  have:(plsF q now)[j]=plF q.ages now c:=e.symm
  rw[this];rfl
 unfold pAt
 rw[e2,getC_of hn hc]
 exact e
end Go.Sym