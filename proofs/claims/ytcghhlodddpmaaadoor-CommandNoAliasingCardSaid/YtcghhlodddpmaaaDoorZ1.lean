import Derived.Test.YtcghhlodddpmaaaDoorY5
import Derived.Test.YtcghhlodddpmaaaDoorM2
namespace Go.Sym
set_option linter.unusedVariables false
set_option linter.unusedSimpArgs false
open Go.Proofs
set_option maxRecDepth 100000
def sIs:Nat->S->List Int × S
 |0,s=>([],s)
 |k+1,s=>((sI s).1::(sIs k (sI s).2).1,(sIs k (sI s).2).2)
theorem sIs_by:∀(l R:List Int),(∀ n∈l,r64 n)->sIs l.length (.ok (byIs l++R))=(l,.ok R)
 | [],R,_=>rfl
 |n::l,R,h=>by
  rw[byIs_cons,List.append_assoc,List.length_cons]
  unfold sIs
  rw[show sI (.ok (byZ n++(byIs l++R)))=(n,.ok (byIs l++R))from pI_by (h n (List.mem_cons_self ..))]
  simp only
  rw[sIs_by l R (fun x hx=>h x (List.mem_cons_of_mem _ hx))]
def mI (m:Msg):List Int:=[m.k,m.a,m.p,m.q,m.b,m.e]
theorem byM_i (m:Msg):byM m=byIs (mI m)++byBs m.body:=by unfold byM mI;simp[byIs]
theorem dm_st (B:List Int):sIs 6 (.ok B)=(mI (dmM B),st (dmR B 6)):=by
 rw[<- st_rd0]
 simp only[sIs,st_int]
 rfl
theorem dm_sb (B:List Int):sB (st (dmR B 6))=((dmM B).body,st (dmL B)):=st_bs _
theorem mI_r {m:Msg} (h:vM m=true):∀ n∈mI m,r64 n:=by
 obtain⟨⟨a,b,c,d,e,f⟩,_⟩:=vM_r h
 intro n hn
 unfold mI at hn
 simp only[List.mem_cons,List.not_mem_nil,or_false]at hn
 rcases hn with rfl|rfl|rfl|rfl|rfl|rfl <;>assumption
theorem mB_r {m:Msg} (h:vM m=true):r64 m.body.length:=by
 have:=(vM_r h).2
 unfold r64
 omega
theorem mI_ext {m n:Msg} (h:mI m=mI n) (h1:m.body=n.body):m=n:=by
 cases m;cases n
 unfold mI at h
 simp only[List.cons.injEq]at h
 simp_all
theorem dm_app {m:Msg} (h:vM m=true) (hX:inB (byM m)):dmC (byM m)=m/\dmE (byM m)=0:=by
 have h1:=dm_st (byM m)
 rw[byM_i,show sIs 6 (.ok (byIs (mI m)++byBs m.body))=(mI m,.ok (byBs m.body))from sIs_by (mI m) _ (mI_r h),<- byM_i]at h1
 have a1:mI m=mI (dmM (byM m)):=congrArg Prod.fst h1
 have a2:S.ok (byBs m.body)=st (dmR (byM m) 6):=congrArg Prod.snd h1
 have h2:=dm_sb (byM m)
 rw[<- a2]at h2
 have e:=sB_by (l:=m.body) (R:=[]) (mB_r h)
 rw[List.append_nil]at e
 rw[e]at h2
 have a3:m.body=(dmM (byM m)).body:=congrArg Prod.fst h2
 have a4:S.ok []=st (dmL (byM m)):=congrArg Prod.snd h2
 have a5:dmM (byM m)=m:=(mI_ext a1 a3).symm
 have a6:=st_fn (dmL_ok hX)
 rw[<- a4]at a6
 have a7:fnV (dmL (byM m))=0:=a6.symm
 unfold dmC dmE
 rw[a7,a5,h]
 exact⟨rfl,rfl⟩
theorem byM_isB {m:Msg} (h:isB m.body):isB (byM m):=by
 rw[byM_i]
 refine isB.app (fun b hb=>?_) ((byZ_isB _).app h)
 unfold byIs at hb
 obtain⟨n,_,hn⟩:=List.mem_flatMap.1 hb
 exact byZ_isB n b hn
theorem byM_len {m:Msg} (h:vM m=true):(byM m).length<=8200:=by
 have h1:=(vM_r h).2
 have h2:=byIs_len (mI m)
 have h3:=byZ_len (m.body.length:Int)
 have h4:(mI m).length=6:=rfl
 rw[byM_i,List.length_append]
 unfold byBs
 rw[List.length_append]
 omega
end Go.Sym