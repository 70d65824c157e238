import Derived.Test.YtfflknhillcblaaDoorX1
import Derived.Test.YtfflknhillcblaaDoorI2
import Derived.Test.YtfflknhillcblaaDoorXD
namespace Go.Sym
set_option linter.unusedVariables false
open Go.Proofs Go.RowKit
set_option maxRecDepth 100000
attribute [local go_sem] Oper.semAt_some
set_option maxRecDepth 100000 in
set_option maxHeartbeats 2000000 in
theorem back1_run (F:Fence) (hro:F.round=none) (hfn:∀ f,F.fn f) (hdep:F.depth=none) (l b1 o1 b off n cap:Nat) (a:Option Addr) (zs:List Int) (hn:n<=1073741824) (ha:0<n->a=some ⟨b,off,none⟩) (hcap:n<=cap) (J:Nat->World->Prop) (Jx:World->Prop) (W:World)
  (hc:W.cell? ⟨b1,o1,none⟩=some (.slice a n cap))
  (hJc:∀ k w,k<n->J k w->w.cell? ⟨b1,o1,none⟩=some (.slice a n cap))
  (hJ:∀ k w,k<n->J k w->w.cell? ⟨b,off+(n-1-k),none⟩=some (.int .i64 (zs.getD (n-1-k) default)))
  (hY:∀ k w,k<n->J k w->∃ f tmps assign body,(Instr.yield l #[.int .i64 ((n-1-k:Nat):Int),.int .i64 (zs.getD (n-1-k) default)]).run Tryd.prog w= .ok (.round l f tmps assign body) w/\
   RoundIn F 0 Tryd.prog l f tmps assign body w fun e w'=>∃ b,e= .returned (.bool b)/\(b=true->J (k+1) w')/\(b=false->Jx w'))
  (h0:J 0 W):
  CallsIn F 0 Tryd.prog 56 #[.func (.yield l) #[] #[],.pointer (some ⟨b1,o1,none⟩)] W fun e W'=>(∃ v,e= .returned v)/\(J n W'∨Jx W'):=by
 have h7:=hfn 56
 refine callsIn_of_wp Tryd.func56 rfl h7 ?_ hro
 simp only[Tryd.ntmps56,List.size_toArray,List.length_cons,List.length_nil,Nat.reduceAdd,Nat.reduceSub,Array.replicate_succ,Array.replicate_zero,List.push_toArray,List.append_toArray,List.nil_append,List.cons_append]
 gi_wp2
 gi_loopw [3] (fun s wr=>∃ k:Nat,k<=n/\s= .int .i64 ((n:Int)-1-k)/\J k wr) (fun s _=>(intOf s+1).toNat)
 case atStart=>exact⟨0,Nat.zero_le _,by go_num,h0⟩
 case round=>
  obtain⟨k,hk,rfl,hJk⟩:=hrel
  by_cases hlt:k<n
  ·obtain rfl:=ha (by omega)
   have hcx:=hJ k wr hlt hJk
   have hcc:=hJc k wr hlt hJk
   obtain⟨fn,tmps,assign,body,hy,hR⟩:=hY k wr hlt hJk
   generalize hzk:zs.getD (n-1-k) default=zk at*
   obtain⟨i,hi⟩:∃ i:Nat,n-1-k=i:=⟨_,rfl⟩
   rw[hi]at hcx hy
   have hi2:(n:Int)-1-k=(i:Int):=by omega
   rw[hi2]
   have hin:i<n:=by omega
   have d1:decide ((0:Int)<=(i:Int))=true:=by simp
   have d2:decide ((i:Int)<0)=false:=by simp
   have d3:decide ((n:Int)<=(i:Int))=false:=by simp;omega
   have d4:decide (n<=i)=false:=by simp;omega
   have d5:(i:Int)<(n:Int):=by omega
   have d6:(0:Int)<=(i:Int):=by omega
   gi_wp2
   refine hR.mono ?_
   rintro e W3 ⟨bb,rfl,hT,hF⟩
   cases bb with
   |true=>
    have hJ3:=hT rfl
    clear hT hF hR hy
    gi_wp2
    go_roundw
    case rel=>exact⟨k+1,by omega,by go_num,hJ3⟩
    case measure=>simp[intOf] <;>omega
   |false=>
    have hJ3:=hF rfl
    clear hT hF hR hy
    gi_wp2
    refine bodyPost_ret (results_none rfl _ _ _) rfl ?_
    exact⟨⟨_,rfl⟩,.inr hJ3⟩
  ·obtain rfl:k=n:=by omega
   have e:(k:Int)-1-k= -1:=by omega
   rw[e]
   gi_wp2
   go_end0
   exact⟨⟨_,rfl⟩,.inl hJk⟩
def backIt:IT where
 ct := { X := List Int, pre := fun l => l.length <= 1073741824, args := fun _ => [.p 100000 0 0],
         g0:=fun l=>[(100000,.one .bor [.sl 100001 0 l.length]),(100001,.rows .bor k1 l.length (encL encI l))],res:=fun _=>.u,g1:=fun _=>[]}
 n:=fun l=>l.length
 item:=fun l k=>[.int .i64 ((l.length-1-k:Nat):Int),.int .i64 (l.getD (l.length-1-k) default)]
theorem backIt_good:GoodIt Tryd.prog 56 backIt:=by
 refine⟨⟨Tryd.f56,rfl,by decide+kernel,rfl⟩,fun x hx=>⟨rfl,?_⟩⟩
 intro l vals J Jx ⟨at_,z0,hdata⟩ hJd hJxd hY w h0
 have hx:x.length<=1073741824:=hx
 refine calls_of_wideR (n:=0) ?_
 obtain⟨z,hz1,hz2,_,hv,H⟩:=hdata 0 w (Nat.zero_le _) h0
 obtain rfl:=hz2 rfl
 simp only[backIt,DenL,Den]at hv
 obtain⟨v1,r1,rfl,⟨p1,hp1,rfl⟩,rfl⟩:=hv
 obtain⟨u1,hc1,hu1⟩:=one_cell (l:=100000) (c:=.sl 100001 0 x.length) H rfl hp1
 simp only[Den]at hu1
 have e1:ptr p1 0 0=⟨p1.b,p1.off,none⟩:=by simp[ptr]
 rw[e1]
 by_cases hn:0<x.length
 ·obtain⟨pl,a,hpl,rfl,hcap,ha⟩:=hu1.resolve_left (fun h=>by omega)
  have ha:=ha (by omega)
  have e3:ptr pl 0 0=⟨pl.b,pl.off,none⟩:=by simp[ptr]
  rw[e3]at ha
  subst ha
  refine(back1_run (wideR none) rfl (fun _=>trivial) rfl l p1.b p1.off pl.b pl.off x.length (pl.cap-0) _ x hx (fun _=>rfl) (by omega) J Jx w hc1 ?_ ?_ ?_ h0).mono ?_
  ·intro k w' hk hJk
   obtain⟨z',_,_,_,_,H'⟩:=hdata k w' (by show k<=x.length;omega) hJk
   obtain⟨u',hc',hu'⟩:=one_cell (l:=100000) (c:=.sl 100001 0 x.length) H' rfl hp1
   simp only[Den]at hu'
   obtain⟨pl',a',hpl',rfl,hcap',ha'⟩:=hu'.resolve_left (fun h=>by omega)
   have hpl':at_ 100001=some pl':=hpl'
   have hpl:at_ 100001=some pl:=hpl
   rw[hpl]at hpl';cases hpl'
   have ha':=ha' (by omega)
   rw[e3]at ha'
   subst ha'
   exact hc'
  ·intro k w' hk hJk
   obtain⟨z',_,_,_,_,H'⟩:=hdata k w' (by show k<=x.length;omega) hJk
   rcases H'.blk 100001 _ rfl with⟨q1,_⟩|⟨q,q1,q2,_⟩|⟨q,arr,TT,fz,q1,q2,_,_,q4,q5,q6,q7⟩
   ·omega
   ·omega
   have q1:at_ 100001=some q:=q1
   have hpl:at_ 100001=some pl:=hpl
   rw[hpl]at q1;cases q1
   have hk1:pl.k=1:=q4
   have hrow:=q7 (x.length-1-k) (by omega)
   simp only[k1,DenR,hk1,Nat.mul_one]at hrow
   obtain⟨⟨u,hu,hd⟩,_⟩:=hrow
   simp only[DenD]at hd
   have hd:u= .int .i64 (x.getD (x.length-1-k) default):=hd
   subst hd
   exact cell_in q2 hu
  ·intro k w' hk hJk
   obtain⟨f,tm,asg,bd,y1,y2⟩:=hY k w' hk hJk
   refine⟨f,tm,asg,bd,y1,y2.mono ?_⟩
   rintro e w' ⟨b,h1,h2⟩
   exact⟨b,h1,h2.1,h2.2⟩
  ·rintro e w' ⟨h1,h2⟩
   exact⟨h1,h2⟩
 ·have hsl:∃ a cap,u1= .slice a x.length cap:=by
   rcases hu1 with⟨_,rfl,h,_⟩|⟨pl,a,_,rfl,_⟩
   ·exact⟨none,0,by rw[h]⟩
   ·exact⟨_,_,rfl⟩
  obtain⟨a,cap,rfl⟩:=hsl
  have hz:x.length=0:=by omega
  refine(back1_run (wideR none) rfl (fun _=>trivial) rfl l p1.b p1.off 0 0 x.length cap a x hx (fun h=>absurd h hn) (by omega) J Jx w hc1 (fun k _ h=>absurd h (by omega)) (fun k _ h=>absurd h (by omega)) (fun k _ h=>absurd h (by omega)) h0).mono ?_
  rintro e w' ⟨h1,h2⟩
  exact⟨h1,h2⟩
def backC:CT where
 X:=List Int
 pre:=fun l=>l.length<=1073741824
 args:=fun l=>[.sl 100000 0 l.length]
 g0:=fun l=>[(100000,.rows .bor k1 l.length (encL encI l))]
 res:=fun _=>.fn 56 [.p 1 0 0]
 g1:=fun l=>[(1,.one .own [.sl 100000 0 l.length])]
set_option maxRecDepth 100000 in
theorem back_keeps:Keeps cfgN0 Tryd.f45 backC noIv:=Eq.mp (show((∀ x1:List Int,((x1.length<=(1073741824:Nat))->(((0=0/\0=0)/\True)/\(((0=0/\x1.length=x1.length)/\True)/\True)))))=(Keeps cfgN0 Tryd.f45 backC noIv) by kernel_rfl) (fun x1=>fun h2=>⟨⟨⟨rfl,rfl⟩,trivial⟩,
⟨⟨rfl,rfl⟩,trivial⟩,trivial⟩)
theorem back_good:Good Tryd.prog 45 backC/\FnOk Tryd.prog 45:=good_of tok conN0 (fn:=Tryd.f45) rfl (by decide+kernel) (fun _=>rfl) back_keeps
end Go.Sym