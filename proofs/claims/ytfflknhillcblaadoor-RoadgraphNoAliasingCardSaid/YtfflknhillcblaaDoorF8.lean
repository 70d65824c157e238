import Derived.Test.YtfflknhillcblaaDoorF7
import Derived.ProofKit
namespace Go.Sym
set_option linter.unusedVariables false
set_option linter.unusedSimpArgs false
open Go.Proofs Go.ChangeShapes Go.WideShapes Go.RowKit
set_option maxRecDepth 100000
theorem sl_len7 {z:Nat->Option Obj} {ks:List Kd} {d:D} {a:Option Addr} {len cap:Nat} (h:DenD z (.sl ks) d (.slice a len cap)):d.toN<=len:=by
 simp only[DenD]at h
 rcases h with⟨h,_⟩|⟨b,off,cap',arr,T,fz,h,_⟩
 ·omega
 ·have:=Value.slice.inj h;omega
theorem net_len {H:Type} {enc:TypeId × Value->H} {W:World} {n:Int} {v1:Value} {d:DataW H} {p:List MemPlace} {d1:D} (h:DataW.Trod enc Tryd.prog W 0 (fun _=>true) true 24 (.agg #[.int .i64 n,v1]) d p)
  (hg:DenD (fun b=>W.heap[b]?) (.sl kE) d1 v1) (hb:(d.weights Tryd.prog 24).all (· <=reachBytes)=true):d1.toN<=5864062014805:=by
 obtain⟨fl,h⟩:=h
 obtain⟨y0,y1,m,ed,_,_,q1⟩:=trod_struct2 Tryd.underlying24 h
 have c1:Tryd.prog.cellsOf 22=1:=by kernel_rfl
 have q1:DataW.trod enc Tryd.prog W 0 (fun _=>true) true m 22 (([Value.int .i64 n,v1].drop 1).take (Tryd.prog.cellsOf 22))=some y1:=q1
 rw[c1]at q1
 have q1:DataW.trod enc Tryd.prog W 0 (fun _=>true) true m 22 [v1]=some y1:=q1
 have ed:=(Prod.mk.inj ed).1
 subst ed
 rcases DataW.trod_slice Tryd.underlying22 q1 with⟨e1,_⟩|⟨a,len,cap,elems,rest,m,_,e1,e2,_,_,_,e3,_⟩
 ·cases e1
  have:=sl_len7 hg
  omega
 ·cases e1
  have h1:=sl_len7 hg
  have hw:∀ ls:List Nat,(DataW.weights Tryd.prog 24 (DataW.agg [y0.1,y1.1]))=y0.1.weights Tryd.prog 3++(y1.1.weights Tryd.prog 22++[]):=fun _=>by
   simp only[DataW.weights,Tryd.underlying24]
   rfl
  rw[hw [],e2]at hb
  rw[List.all_eq_true]at hb
  have b24:Tryd.prog.bytesOf 53=24:=by kernel_rfl
  have h3:=hb (((elems.map (·.1)).length+(rest.map (·.1)).length)*Tryd.prog.bytesOf 53) (by
   refine List.mem_append.2 (.inr (List.mem_append.2 (.inl ?_)))
   simp only[DataW.weights,Tryd.underlying22]
   exact List.mem_cons_self ..)
  rw[b24]at h3
  have h3:=of_decide_eq_true h3
  have:reachBytes=140737488351232:=rfl
  rw[List.length_map,List.length_map]at h3
  omega
end Go.Sym