import Derived.Test.YtpnnecijeoipfaaGreatDoorP2
import Derived.RangeFuncBox
import Derived.LoopIn
import Derived.LoopNIn
import Derived.OwnWalkIn
import Derived.TacticsInMore
import Derived.Sort.CutIn
import Derived.Test.YtpnnecijeoipfaaGreatDoorN3
namespace Go.Sym
set_option linter.unusedVariables false
open Go.Proofs Go.RowKit
set_option maxRecDepth 100000
attribute [local go_sem] Oper.semAt_some
theorem and_step {m:Nat} (h0:m≠0) (h:m<18446744073709551616):bits BinOp.and IntKind.u64 (m:Int) ((m:Int)-1)=((m&&&(m-1):Nat):Int):=by
 have e:(m:Int)-1=((m-1:Nat):Int):=by omega
 rw[e]
 exact and_u64 h (by omega)
def atW (ws:List Nat) (k:Nat):Int:=((elemsW ws).getD k 0:Nat)
set_option maxRecDepth 100000 in
set_option maxHeartbeats 2000000 in
theorem each1_some (F:Fence) (hro:F.round=none) (hfn:∀ f,F.fn f) (hdep:F.depth=none) (l b0 o0 b off:Nat) (ws:List Nat) (hws:WOk ws) (J:Nat->World->Prop) (Jx:World->Prop)
  (hJ:∀ k w,k<=(elemsW ws).length->J k w->w.cell? ⟨b0,o0,none⟩=some (.pointer (some ⟨b,off,none⟩))/\(∀ r,r<64->w.cell? ⟨b,off+r,none⟩=some (.int .u64 (ws.getD r default:Nat)))/\TabAt 0 Lib.deBruijn64tab w)
  (hd:∀ k w,J k w->J k w.drew)
  (htz:∀(x:Nat) w,x<18446744073709551616->TabAt 0 Lib.deBruijn64tab w->CallsIn F 0 Tryz.prog 131 #[.int .u64 x] w fun e w'=>e= .returned (.int .i64 (Lib.ctz 64 x))/\w'=w)
  (hY:∀ k w,k<(elemsW ws).length->J k w->∃ f tmps assign body,(Instr.yield l #[.int .i64 (atW ws k)]).run Tryz.prog w= .ok (.round l f tmps assign body) w/\
   RoundIn F 0 Tryz.prog l f tmps assign body w fun e w'=>∃ b,e= .returned (.bool b)/\(b=true->J (k+1) w')/\(b=false->Jx w'))
  (W:World) (h0:J 0 W):
  CallsIn F 0 Tryz.prog 130 #[.func (.yield l) #[] #[],.pointer (some ⟨b0,o0,none⟩)] W fun e W'=>(∃ v,e= .returned v)/\(J (elemsW ws).length W'∨Jx W'):=by
 have hn0:0<=(elemsW ws).length:=Nat.zero_le _
 have h7:=hfn 130
 refine callsIn_of_wp Tryz.func130 rfl h7 ?_ hro
 simp only[Tryz.ntmps130,List.size_toArray,List.length_cons,List.length_nil,Nat.reduceAdd,Nat.reduceSub,Array.replicate_succ,Array.replicate_zero,List.push_toArray,List.append_toArray,List.nil_append,List.cons_append]
 have hc0:=(hJ 0 W hn0 h0).1
 gi_wp2
 gi_loopw [10] (fun i wr=>∃ n k:Nat,n<=64/\i= .int .i64 n/\J k wr/\k+(rowsFrom ws n).length=(elemsW ws).length/\(elemsW ws).drop k=rowsFrom ws n)
  (fun i _=>64-(intOf i).toNat)
 case atStart=>exact⟨0,0,by omega,rfl,h0,by simp[elemsW],rfl⟩
 case round=>
  obtain⟨n,k,hn,rfl,hJk,hlen,hdrop⟩:=hrel
  obtain⟨wo,rfl⟩:∃ wo:World,wo=wr:=⟨_,rfl⟩
  have hk0:k<=(elemsW ws).length:=by omega
  have hcs:=(hJ k wo hk0 hJk).2.1
  by_cases hlt:n<64
  ·have hcell:wo.cell? ⟨b,off+n,none⟩=some (.int .u64 (ws.getD n default:Nat)):=hcs n hlt
   have hsplit:=rowsFrom_succ (ws:=ws) hlt
   have hw64:=hws.lt n
   have hdr:(elemsW ws).drop k=(bitsOf (ws.getD n default)).map (64*n+·)++rowsFrom ws (n+1):=by rw[hdrop,hsplit]
   clear hcs
   have hJd:=hd k wo hJk
   clear hsplit hdrop hlen
   generalize hw:ws.getD n default=w0 at*
   clear hw
   gi_upto_region 3 with(fail)
   gi_cut [3,4,11]from 200 (fun s3 s4 s11 wx=>s3= .int .i64 n/\s4= .int .u64 w0/\wx=wo.drew)
   case first=>
    rename_i hJR hMet
    gi_region
    all_goals (refine hMet _ _ (Met.intro (hJR _ _ ?_));(repeat apply Exists.intro);exact⟨⟨rfl,rfl,rfl⟩,rfl⟩)
   case rest=>
   obtain⟨rfl,rfl,rfl⟩:=hcut
   clear hcell hJk
   generalize wo.drew=wd at*
   gi_wp2
   gi_loopw [4] (fun u wr=>∃ m k2:Nat,u= .int .u64 m/\J k2 wr/\k2<=(elemsW ws).length/\m<18446744073709551616/\(elemsW ws).drop k2=(bitsOf m).map (64*n+·)++rowsFrom ws (n+1))
    (fun u _=>(intOf u).toNat)
   case atStart=>exact⟨w0,k,rfl,hJd,hk0,hw64,hdr⟩
   case round=>
    obtain⟨m,k2,rfl,hJ2,hk2,hm64,hdr2⟩:=hrel
    clear hJd hdr
    by_cases hm:m=0
    ·subst hm
     rw[bitsOf_zero,List.map_nil,List.nil_append]at hdr2
     gi_wp2
     go_roundw
     case rel=>exact⟨n+1,k2,by omega,by go_num,hJ2,by rw[<- hdr2,List.length_drop];omega,hdr2⟩
     case measure=>simp[intOf];omega
    ·have htab:=(hJ k2 wr hk2 hJ2).2.2
     obtain⟨hc64,_,_,_⟩:=low_bit hm hm64
     have hbc:=bitsOf_cons hm hm64
     rw[hbc,List.map_cons,List.cons_append]at hdr2
     have hk3:k2<(elemsW ws).length:=by
      rcases Nat.lt_or_ge k2 (elemsW ws).length with h|h
      ·exact h
      ·rw[List.drop_eq_nil_of_le h]at hdr2;cases hdr2
     have hat:atW ws k2=(n:Int)*64+(Lib.ctz 64 m:Nat):=by
      have:(elemsW ws).getD k2 0=64*n+Lib.ctz 64 m:=by
       rw[List.getD_eq_getElem?_getD,<- List.head?_drop,hdr2];rfl
      unfold atW;rw[this];omega
     have hdr3:(elemsW ws).drop (k2+1)=(bitsOf (m&&&(m-1))).map (64*n+·)++rowsFrom ws (n+1):=by
      rw[<- List.drop_drop,hdr2];rfl
     obtain⟨fn,tmps,assign,body,hy,hR⟩:=hY k2 wr hk3 hJ2
     rw[hat]at hy
     have hct:=htz m wr hm64 htab
     clear hat hdr2 hbc htab hJ2
     generalize hcz:Lib.ctz 64 m=c at*
     have hm0:((m:Int)==0)=false:=by simp;omega
     clear hcz
     have hm':=hm
     clear hm
     gi_wp2_with (gi_at_call 131;refine hct.mono ?_;rintro e w' ⟨rfl,rfl⟩)
     refine hR.mono ?_
     rintro e W3 ⟨bb,rfl,hT,hF⟩
     cases bb with
     |true=>
      have hJ3:=hT rfl
      clear hT hF hR hy hct
      gi_wp2
      rw[and_step hm' hm64]
      exact⟨⟨_,k2+1,rfl,hJ3,by omega,Nat.lt_of_le_of_lt Nat.and_le_left hm64,hdr3⟩,by simp only[intOf,Int.toNat_natCast];exact and_pred_lt hm'⟩
     |false=>
      have hJ3:=hF rfl
      clear hT hF hR hy hct
      gi_wp2
      refine bodyPost_ret (results_none rfl _ _ _) rfl ?_
      exact⟨⟨_,rfl⟩,.inr hJ3⟩
  ·obtain rfl:n=64:=by omega
   gi_wp2
   go_end0
   refine⟨⟨_,rfl⟩,.inl ?_⟩
   rw[rowsFrom_end]at hlen
   obtain rfl:k=(elemsW ws).length:=by simpa using hlen
   exact hJk
theorem each1_none (F:Fence) (hro:F.round=none) (hfn:∀ f,F.fn f) (l b0 o0:Nat) (W:World) (hc0:W.cell? ⟨b0,o0,none⟩=some (.pointer none)):
  CallsIn F 0 Tryz.prog 130 #[.func (.yield l) #[] #[],.pointer (some ⟨b0,o0,none⟩)] W fun e W'=>(∃ v,e= .returned v)/\W'=W:=by
 have h7:=hfn 130
 refine callsIn_of_wp Tryz.func130 rfl h7 ?_ hro
 simp only[Tryz.ntmps130,List.size_toArray,List.length_cons,List.length_nil,Nat.reduceAdd,Nat.reduceSub,Array.replicate_succ,Array.replicate_zero,List.push_toArray,List.append_toArray,List.nil_append,List.cons_append]
 gi_wp2
 refine bodyPost_ret (results_none rfl _ _ _) rfl ?_
 exact⟨⟨_,rfl⟩,rfl⟩
def eachIt:IT where
 ct:={ X:=List Nat,pre:=WOk,args:=fun _=>[.p 100000 0 0],g0:=fun ws=>[(100000,.one .bor [.q 100001 (szW ws)]),(100001,.rows .bor kW (szW ws) (encL encW ws))],res:=fun _=>.u,g1:=fun _=>[]}
 n:=fun ws=>(elemsW ws).length
 item:=fun ws k=>[.int .i64 (atW ws k)]
theorem cell_at {w:World} {arr:Array Value} {T:TypeId} {fz:Nat × Nat} {b o:Nat} {v:Value} (h:w.heap[b]? =some (.cells arr T fz)) (hv:arr[o]? =some v):w.cell? ⟨b,o,none⟩=some v:=by
 simp[World.cell?,h,hv]
theorem each_good:GoodIt Tryz.prog 130 eachIt:=by
 refine⟨⟨Tryz.f130,rfl,by decide+kernel,rfl⟩,fun ws hws=>⟨rfl,?_⟩⟩
 intro l vals J Jx ⟨at_,z0,hdata⟩ hJd hJxd hY w h0
 have hws:WOk ws:=hws
 have htz:∀(x:Nat) w,x<18446744073709551616->TabAt 0 Lib.deBruijn64tab w->CallsIn (wideR none) 0 Tryz.prog 131 #[.int .u64 x] w fun e w'=>e= .returned (.int .i64 (Lib.ctz 64 x))/\w'=w:=
  fun x w hx ht=>callsIn_wideR (tz64 x hx w fun _=>ht)
 -- the data, laid bare
 have hd2:∀ k w,k<=(elemsW ws).length->J k w->∃ pl,at_ 100000=some pl/\vals=[.pointer (some ⟨pl.b,pl.off,none⟩)]/\TabAt 0 Lib.deBruijn64tab w/\
   ((szW ws=0/\w.cell? ⟨pl.b,pl.off,none⟩=some (.pointer none))∨
    (szW ws=64/\∃ p2,at_ 100001=some p2/\w.cell? ⟨pl.b,pl.off,none⟩=some (.pointer (some ⟨p2.b,p2.off,none⟩))/\∀ r,r<64->w.cell? ⟨p2.b,p2.off+r,none⟩=some (.int .u64 (ws.getD r default:Nat)))):=by
  intro k w hk hJk
  obtain⟨z,_,_,hg,hv,H⟩:=hdata k w hk hJk
  obtain⟨TT,fz,ht⟩:=hg
  have htab:TabAt 0 Lib.deBruijn64tab w:=by
   intro j hj
   have hw:=H.zok 0 _ ht
   have hj':j<tabV.size:=by simpa[tabV]using hj
   simp[World.cell?,hw,tabV,hj]
  simp only[eachIt,DenL,Den]at hv
  obtain⟨v,r,rfl,⟨pl,hpl,rfl⟩,rfl⟩:=hv
  have hb:=H.blk 100000 (.one .bor [.q 100001 (szW ws)]) rfl
  have hr:=H.blk 100001 (.rows .bor kW (szW ws) (encL encW ws)) rfl
  obtain⟨pl',arr,T1,fz1,e1,e2,_,_,e3,e4⟩:=hb
  have e1:at_ 100000=some pl':=e1
  rw[hpl]at e1;cases e1
  refine⟨pl,hpl,by simp[ptr],htab,?_⟩
  simp only[List.length_singleton]at e3 e4
  have hc:arr[pl.off]? =some arr[pl.off]:=Array.getElem?_eq_getElem (by omega)
  have e5:(arr.toList.drop pl.off).take 1=[arr[pl.off]]:=by
   rw[List.drop_eq_getElem_cons (by simpa using(show pl.off<arr.size by omega))];simp
  rw[e5]at e4
  simp only[DenL,Den]at e4
  obtain⟨v,r,hvr,hq,rfl⟩:=e4
  cases hvr
  rcases hq with⟨h1,h2⟩|⟨p2,h1,h2,h3⟩
  ·exact .inl ⟨h1,cell_at e2 (by rw[hc,h2])⟩
  ·refine .inr ⟨szW_full h1,p2,h2,cell_at e2 (by rw[hc,h3];simp[ptr]),fun r hr64=>?_⟩
   rcases hr with⟨q1,q2⟩|⟨q,q1,q2,_⟩|⟨q,arr2,T2,fz2,q1,q2,_,_,q3,q4,q5,q6⟩
   ·exact absurd q2 h1
   ·exact absurd q2 h1
   have q1:at_ 100001=some q:=q1
   have h2:at_ 100001=some p2:=h2
   rw[h2]at q1;cases q1
   have:=q6 r (by rw[szW_full h1];exact hr64)
   have hk1:p2.k=1:=q3
   simp only[kW,DenR,DenD,hk1,Nat.mul_one]at this
   obtain⟨⟨u,hu,rfl⟩,_⟩:=this
   exact cell_at q2 hu
 have hn0:0<=(elemsW ws).length:=Nat.zero_le _
 obtain⟨pl,hpl,rfl,_,hcase⟩:=hd2 0 w hn0 h0
 refine calls_of_wideR (n:=0) ?_
 rcases hcase with⟨hz,hcell⟩|⟨hz,p2,hp2,hcell,_⟩
 ·refine(each1_none (wideR none) rfl (fun _=>trivial) l pl.b pl.off w hcell).mono ?_
  rintro e W' ⟨h1,rfl⟩
  refine⟨h1,.inl ?_⟩
  have:(elemsW ws).length=0:=by rw[szW_zero.1 hz,nilW_elems];rfl
  show J (elemsW ws).length _
  rw[this];exact h0
 ·refine each1_some (wideR none) rfl (fun _=>trivial) rfl l pl.b pl.off p2.b p2.off ws hws J Jx ?_ hJd htz ?_ w h0
  ·intro k w hk hJk
   obtain⟨pl',h1,_,h2,h3⟩:=hd2 k w hk hJk
   rw[hpl]at h1;cases h1
   rcases h3 with⟨h3,_⟩|⟨_,p3,h4,h5,h6⟩
   ·omega
   ·rw[hp2]at h4;cases h4
    exact⟨h5,h6,h2⟩
  ·intro k w hk hJk
   obtain⟨f,tm,asg,bd,y1,y2⟩:=hY k w hk hJk
   refine⟨f,tm,asg,bd,y1,y2.mono ?_⟩
   rintro e w' ⟨b,h1,h2⟩
   exact⟨b,h1,h2.1,h2.2⟩
end Go.Sym
namespace Go.Sym
set_option linter.unusedVariables false
open Go.Proofs
set_option maxRecDepth 100000
theorem nat0 (k:Nat):0+((k:Nat):Int).toNat=k:=by simp
def rf0 (fn:Func) (i:Nat):Operand × Array Tmp × Code × Code:=(rfsF fn).getD i (.tmp 0,#[],.skip,.skip)
theorem rowsEq0 {ks:List Kd} {f g:Nat->Nat->D}:RowsEq ks 0 f g:=⟨fun r hr=>absurd hr (Nat.not_lt_zero r)⟩
theorem one_loop {P:Program} [Glob] {fn:Func} {p:Nat} {lc:LC} {q:Operand × Array Tmp × Code × Code} (h0:rfsF fn=[q]) (hg:LoopGood P fn.ntmps q lc):
  ∀ q∈rfsF fn,∀ lc',lget [(p,lc)] (ps0 q.2.1)=some lc'->LoopGood P fn.ntmps q lc':=by
 intro q' hq lc' hl
 rw[h0]at hq
 obtain rfl:=List.mem_singleton.1 hq
 unfold lget at hl
 split at hl
 ·cases hl;exact hg
 ·cases hl
end Go.Sym