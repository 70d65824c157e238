import Derived.Test.YtcghhlodddpmaaaDoorFG
import Derived.Test.YtcghhlodddpmaaaDoorDG
import Derived.Test.YtcghhlodddpmaaaDoorX7
namespace Go.Sym
set_option linter.unusedVariables false
set_option linter.unusedSimpArgs false
open Go.Proofs
set_option maxRecDepth 100000
theorem joi_fold:∀(ws:List ByteArray) (x:ByteArray),joiS (x::ws) spB=ws.foldl (fun s w=>s++spB++w) x
 | [],x=>joi_one _ _
 |w::ws,x=>by
  rw[joi_two,List.foldl_cons,<- joi_fold ws (x++spB++w)]
  cases ws with
  |nil=>rw[joi_one,joi_one]
  |cons y ws=>rw[joi_two,joi_two];simp only[ba_assoc]
theorem wd_fold:∀(l:List Int) (s t:ByteArray),s++l.foldl (fun s n=>s++⟨#[32]⟩++digS n) t=l.foldl (fun s n=>s++⟨#[32]⟩++digS n) (s++t)
 | [],_,_=>rfl
 |n::l,s,t=>by
  rw[List.foldl_cons,List.foldl_cons,wd_fold l]
  simp only[ba_assoc]
theorem wd_app (l:List Int) (s:ByteArray):s++wdS l=l.foldl (fun s n=>s++⟨#[32]⟩++digS n) s:=by
 unfold wdS
 rw[wd_fold,ba_nil]
theorem inRF_b {f n:Int} (h:inRF f n=true) (h1:¬ f=16):0<=n/\n<=1099511627776:=by
 unfold inRF at h
 repeat' split at h
 all_goals first|(simp only[decide_eq_true_eq,Bool.or_eq_true,Bool.and_eq_true]at h;omega)|omega|cases h
theorem inRF_p {f n:Int} (h:inRF f n=true):0<=n:=by
 unfold inRF at h
 repeat' split at h
 all_goals first|(simp only[decide_eq_true_eq,Bool.or_eq_true,Bool.and_eq_true]at h;omega)|omega|cases h
theorem word_dig {c:Cmd} {f:Int} (h:fOk c f=true) (h4:¬ f=4) (h5:¬ f=5):wordF c f=digS (numF c f):=by
 unfold wordF digS
 rw[if_neg h4,if_neg h5]
 by_cases h1:f=16
 ·subst h1
  rw[show numF c 16=c.time from rfl]
  by_cases h2:c.time=4611686018427387904
  ·rw[if_pos ⟨rfl,h2⟩,if_pos h2]
  ·rw[if_neg (fun q=>h2 q.2),if_neg h2]
 ·have:=inRF_b (fOkn h h4 h5) h1
  rw[if_neg (fun q=>h1 q.1),if_neg (by omega)]
theorem word_fold {c:Cmd}:∀(fs:List Int) (s:ByteArray),(∀ f∈fs,fOk c f=true/\¬ f=4/\¬ f=5)->(fs.map (numF c)).foldl (fun s n=>s++⟨#[32]⟩++digS n) s=(fs.map (wordF c)).foldl (fun s w=>s++spB++w) s
 | [],_,_=>rfl
 |f::fs,s,h=>by
  have h1:=h f (List.mem_cons_self ..)
  rw[List.map_cons,List.map_cons,List.foldl_cons,List.foldl_cons,word_dig h1.1 h1.2.1 h1.2.2]
  exact word_fold fs _ (fun g hg=>h g (List.mem_cons_of_mem _ hg))
def q45 (fs:List Int):Bool:=fs.all fun f=>decide (¬ f=4/\¬ f=5)
theorem q45_ok {c:Cmd} {fs:List Int} (h:∀ f∈fs,fOk c f=true) (hq:q45 fs=true):∀ f∈fs,fOk c f=true/\¬ f=4/\¬ f=5:=fun f hf=>⟨h f hf,of_decide_eq_true (List.all_eq_true.1 hq f hf)⟩
theorem tx_gen {c:Cmd} (h:(!rightF c)=false) {fs l:List Int} {nm:ByteArray} (e:fsC c.kind=fs) (hq:q45 fs=true) (hl:l=fs.map (numF c)) (hn:nm=nmT c.kind):nm++wdS l=fmtF c/\∀ n∈l,0<=n/\r64 n:=by
 have hf:=pu_f h
 rw[e]at hf
 have hf:=q45_ok hf hq
 subst hl hn
 refine⟨?_,fun n hn=>?_⟩
 ·rw[<- fmt_v (pu_v h),wdsF,e,joi_fold,wd_app,word_fold _ _ hf]
 ·obtain⟨f,hm,rfl⟩:=List.mem_map.1 hn
  have:=hf f hm
  exact⟨inRF_p (fOkn this.1 this.2.1 this.2.2),inRF_r (fOkn this.1 this.2.1 this.2.2)⟩
theorem tx_m {c:Cmd} (h:(!rightF c)=false) (hk:c.kind=1∨c.kind=2):(∀ f∈[(0:Int),3,4,5],fOk c f=true)/\(c.kind=1->fOk c 6=true):=by
 have hf:=pu_f h
 refine⟨fun f hm=>hf f ?_,fun h1=>hf 6 ?_⟩
 ·rcases hk with e|e <;>(rw[e];revert f;decide)
 ·rw[h1];decide
theorem tx_2 {c:Cmd} (h:(!rightF c)=false) (hk:c.kind=1∨c.kind=2):nmT c.kind++wdS [c.call,c.urg]++⟨#[32]⟩++c.code++⟨#[32]⟩++setS c.nodes=joiS (nmT c.kind::[0,3,4,5].map (wordF c)) spB:=by
 have hm:=(tx_m h hk).1
 have h0:=word_dig (hm 0 (by simp)) (by decide) (by decide)
 have h3:=word_dig (hm 3 (by simp)) (by decide) (by decide)
 rw[joi_fold,wd_app]
 simp only[List.map_cons,List.map_nil,List.foldl_cons,List.foldl_nil,h0,h3]
 rfl
theorem tx_k2 {c:Cmd} (h:(!rightF c)=false) (hk:c.kind=2):nmT c.kind++wdS [c.call,c.urg]++⟨#[32]⟩++c.code++⟨#[32]⟩++setS c.nodes=fmtF c:=by
 rw[tx_2 h (.inr hk),<- fmt_v (pu_v h),wdsF,show fsC c.kind=[0,3,4,5] by rw[hk];rfl]
theorem tx_k1 {c:Cmd} (h:(!rightF c)=false) (hk:c.kind=1):nmT c.kind++wdS [c.call,c.urg]++⟨#[32]⟩++c.code++⟨#[32]⟩++setS c.nodes++wdS [c.dist]=fmtF c:=by
 have h6:=word_dig ((tx_m h (.inl hk)).2 hk) (by decide) (by decide)
 rw[tx_2 h (.inl hk),<- fmt_v (pu_v h),wdsF,show fsC c.kind=[0,3,4,5,6] by rw[hk];rfl,joi_fold,joi_fold,wd_app]
 simp only[List.map_cons,List.map_nil,List.foldl_cons,List.foldl_nil,h6]
 rfl
theorem tx_w {c:Cmd} (h:(!rightF c)=false) (hk:c.kind=1∨c.kind=2):(∀ n∈[c.call,c.urg],0<=n/\r64 n)/\((∀ n∈c.nodes,0<=n/\n<4096)/\c.nodes.Pairwise (· <·))/\c.code.size<=40:=by
 have hm:=(tx_m h hk).1
 have g:∀ f∈[(0:Int),3],0<=numF c f/\r64 (numF c f):=fun f hf=>by
  have h1:f∈[(0:Int),3,4,5]:=by revert f;decide
  have h2:¬ f=4/\¬ f=5:=by revert f;decide
  have:=fOkn (hm f h1) h2.1 h2.2
  exact⟨inRF_p this,inRF_r this⟩
 refine⟨fun n hn=>?_,vNodes_p (fOk5 (hm 5 (by simp)) (by decide) rfl),vCode_r (fOk4 (hm 4 (by simp)) rfl)⟩
 simp only[List.mem_cons,List.not_mem_nil,or_false]at hn
 rcases hn with rfl|rfl
 ·exact g 0 (by simp)
 ·exact g 3 (by simp)
end Go.Sym