import Derived.Test.YtlldhkhmhgcpaaaGreatDoorEV
import Derived.Test.YtlldhkhmhgcpaaaGreatDoorNT
import Derived.Test.YtlldhkhmhgcpaaaGreatDoorK2
import Derived.Test.YtlldhkhmhgcpaaaGreatDoorXD
namespace Go.Sym
set_option linter.unusedVariables false
set_option linter.unusedSimpArgs false
open Go.Proofs
set_option maxRecDepth 100000
set_option maxHeartbeats 4000000
structure LnX where
 c:CaX
 of:List Int
def lnA (x:LnX):List SV:=[caseA x.c,.sl 100003 0 x.of.length]
def lnH (x:LnX):List (Nat × Blk):=caseH x.c++[(100003,.rows .bor k1 x.of.length (encL encI x.of))]
def lnW (x:LnX):List Nat:=ofW x.of x.of.length
def lnP (x:LnX) (k:Nat):PlX:=⟨x.c.g,x.c.ts,x.c.us,lnW x,k⟩
def lnC (b:Bool):CT:=⟨LnX,fun x=>x.of.length<=9223372036854775807/\netOk x.c=b,lnA,lnH,fun _=>.b true,fun _=>[]⟩
def CLn (b:CT):List (Nat × Con):=[(6,.one wakesC),(7,.one b),(10,.one ofLC),(9,.one plC),(14,.one apC),(15,.one wwaitC)]
def cfgLn1:Cfg:=⟨T,[],CLn netYesC,noInv,60,{ kn:=true }⟩
def cfgLn0:Cfg:=⟨T,[],CLn netNoC,noInv,60,{ kn:=true }⟩
theorem conLn {b:CT} (h:Good Tryz.prog 7 b/\FnOk Tryz.prog 7):ConL Tryz.prog (CLn b):=.cons (ConL.one wakes_good) (.cons (ConL.one h) (.cons (ConL.one ofL_good) (.cons (ConL.one pl_good) (.cons (ConL.one ap_good) (.cons (ConL.one wwait_good) .nil)))))
theorem conLn1:ConOk Tryz.prog cfgLn1:=ConL.ok (conLn netYes_good)
theorem conLn0:ConOk Tryz.prog cfgLn0:=ConL.ok (conLn netNo_good)
def lnB (x:LnX) (k:Nat):Bst:=resB (lnP x k)
def lnE (x:LnX) (k:Nat):Int:=resE (lnP x k)
def lastW (x:LnX) (k:Nat):Int:=if k=0 then -1 else(lnB x (k-1)).worst
def lnI (x:LnX) (id:Nat):Option Inv:=match id with
 |0=>some { X:=Nat,ok:=fun k=>k<=3/\(0<k->lnE x 0=0),fr:=fun k=>[(7,.i .i64 (lastW x k)),(31,.i .i64 k)],hp:=fun k=>[],me:=fun k=>3-k }
 |_=>none
theorem ln_pl {x:LnX} (h:netOk x.c=true) (k:Nat):PlOk (lnP x k):=by
 obtain⟨h1,h2,h3,h4,h5⟩:=net_gok h
 exact⟨h1,h2,by show x.c.us.length<=12;omega,ofW_ok _ _⟩
theorem ln_sr {x:LnX} (h:netOk x.c=true) (k:Nat):SrOk (lnP x k):=by
 obtain⟨h1,h2,h3,h4,h5⟩:=net_gok h
 refine⟨h1,Nat.le_trans h2 (by decide),fun v hv=>?_⟩
 have e:tgP (lnP x k)=nodesW x.c.g.n (lnW x):=elems_min (n:=x.c.g.n) (ofW_ok _ _) (Nat.le_trans h2 (by decide))
 rw[e]at hv
 unfold nodesW at hv
 rw[List.mem_filter]at hv
 exact⟨(elemsZ_mem.1 hv.1).1,of_decide_eq_true hv.2⟩
theorem ln_bad {x:LnX} {k:Nat} (hk:k<3):badP (lnP x k)↔dstU x.c.us=false:=by
 unfold badP
 constructor
 ·rintro(q|q|q)
  ·exact q
  ·have q:(k:Int)<0:=q
   omega
  ·have q:(3:Int)<k:=q
   omega
 ·exact .inl
theorem ln_e {x:LnX} {k j:Nat} (hk:k<3) (hj:j<3):lnE x k=lnE x j:=by
 unfold lnE resE
 by_cases h:dstU x.c.us=false
 ·rw[if_pos ((ln_bad hk).2 h),if_pos ((ln_bad hj).2 h)]
 ·rw[if_neg (fun q=>h ((ln_bad hk).1 q)),if_neg (fun q=>h ((ln_bad hj).1 q))]
  rfl
theorem ln_no {x:LnX} {k:Nat} (h:lnE x k≠0):lnB x k={}:=by
 unfold lnE resE at h
 unfold lnB resB
 by_cases h1:badP (lnP x k)
 ·rw[if_pos (.inl h1)]
 ·by_cases h2:manP (lnP x k)
  ·rw[if_pos (.inr h2)]
  ·rw[if_neg h1,if_neg h2]at h
   exact absurd rfl h
theorem ln_yes {x:LnX} {k:Nat} (h:lnE x k=0):¬ badP (lnP x k)/\lnB x k=bstP (lnP x k):=by
 unfold lnE resE at h
 unfold lnB resB
 by_cases h1:badP (lnP x k)
 ·rw[if_pos h1]at h;cases h
 ·by_cases h2:manP (lnP x k)
  ·rw[if_neg h1,if_pos h2]at h;cases h
  ·rw[if_neg (fun q=>q.elim h1 h2)]
   exact⟨h1,rfl⟩
theorem ln_d {x:LnX} {k:Nat} (h:lnE x k=0):dstU (lnP x k).us=true:=by
 have:=(ln_yes h).1
 cases hd:dstU (lnP x k).us with
 |true=>rfl
 |false=>exact absurd (.inl hd) this
theorem ln_b {x:LnX} (hn:netOk x.c=true) {k:Nat} (h:lnE x k=0):okMs x.c.us (lnB x k).best=true/\(lnB x k).best.length<=k/\(lnB x k).worst=(worstW x.c.g x.c.ts (appU x.c.us (lnB x k).best) (lnW x)).1:=by
 obtain⟨l,⟨h1,h2⟩,e,_⟩:=bst_spec (ln_sr hn k) (ln_d h)
 rw[(ln_yes h).2,e]
 refine⟨va_ok (ln_sr hn k) (ln_d h) h2,?_,?_⟩
 ·have h1:l.length<=((k:Nat):Int).toNat:=h1
  show l.length<=k
  omega
 ·have e:tgP (lnP x k)=nodesW x.c.g.n (lnW x):=elems_min (n:=x.c.g.n) (ofW_ok _ _) (Nat.le_trans (net_gok hn).2.1 (by decide))
  show(worstF (distG x.c.g x.c.ts (freeL (appU x.c.us l)) true) (tgP (lnP x k))).1=_
  rw[e]
  rfl
theorem ln_mono {x:LnX} (hn:netOk x.c=true) {k:Nat} (hk:k+1<3) (h:lnE x (k+1)=0):(lnB x (k+1)).worst<=(lnB x k).worst:=by
 have h':lnE x k=0:=(ln_e (by omega) hk).trans h
 obtain⟨l,⟨h1,h2⟩,e,_⟩:=bst_spec (ln_sr hn k) (ln_d h')
 obtain⟨l',_,e',h3⟩:=bst_spec (ln_sr hn (k+1)) (ln_d h)
 have h1:l.length<=((k:Nat):Int).toNat:=h1
 have:=h3 l (by show l.length<=((k+1:Nat):Int).toNat;omega) h2
 rw[(ln_yes h).2,(ln_yes h').2,e,e']
 refine Int.not_lt.1 fun q=>this (.inl ?_)
 exact q
theorem ln_0 {x:LnX} (hn:netOk x.c=true) (h:lnE x 0=0):(lnB x 0).best=[]/\(lnB x 0).worst=(worstW x.c.g x.c.ts x.c.us (lnW x)).1:=by
 obtain⟨h1,h2,h3⟩:=ln_b hn h
 have e:(lnB x 0).best=[]:=List.length_eq_zero_iff.1 (Nat.le_zero.1 h2)
 refine⟨e,?_⟩
 rw[h3]
 rw[e]at h1 ⊢
 rw[(ap_y h1).1]
 rfl
theorem ln_y {x:LnX} (hn:netOk x.c=true) {us:List Un} (hl:us.length<=x.c.us.length):YXok ⟨x.c.g,x.c.ts,us,lnW x,default⟩:=by
 obtain⟨h1,h2,h3,h4,h5⟩:=net_gok hn
 exact⟨⟨h1,h2,by show us.length<=_;omega,Nat.zero_le _⟩,ofW_ok _ _⟩
theorem ln_len (us:List Un) (l:List Mv):(appU us l).length<=us.length:=by
 unfold appU
 split
 ·rw[app_len];exact Nat.le_refl _
 ·exact Nat.zero_le _
theorem ln_f {x:LnX} {k:Nat} (h:k<=3/\(0<k->lnE x 0=0)) (hk:(k:Int)<3) (h0:¬ (k:Int)=0):lnE x k=0:=(ln_e (by omega) (by omega)).trans (h.2 (by omega))
theorem ln_1 {x:LnX} (hn:netOk x.c=true) {k:Nat} (h:¬ lnE x k≠0):¬ (k:Int)<(lnB x k).best.length:=by
 have:=(ln_b hn (Decidable.not_not.1 h)).2.1
 omega
theorem ln_2 {x:LnX} (hn:netOk x.c=true) {k:Nat} (hk:(k:Int)<3) (h:¬ lnE x k≠0) (h1:0<=lastW x k):¬ lastW x k<(lnB x k).worst:=by
 unfold lastW at*
 cases k with
 |zero=>rw[if_pos rfl]at h1;omega
 |succ k=>
  rw[if_neg (by omega)]
  have:=ln_mono hn (k:=k) (by omega) (Decidable.not_not.1 h)
  have e:lnB x (k+1-1)=lnB x k:=rfl
  rw[e]
  omega
theorem ln_3 {x:LnX} (hn:netOk x.c=true) {k:Nat} (h:¬ lnE x k≠0):¬ (worstW x.c.g x.c.ts (appU x.c.us (lnB x k).best) (lnW x)).1≠(lnB x k).worst:=fun q=>q (ln_b hn (Decidable.not_not.1 h)).2.2.symm
theorem ln_4 {x:LnX} (hn:netOk x.c=true) {k:Nat} (h:¬ lnE x k≠0):¬ appE2 x.c.us (lnB x k).best≠0:=fun q=>q (ap_y (ln_b hn (Decidable.not_not.1 h)).1).2
theorem ln_5 {x:LnX} (hn:netOk x.c=true) {k:Nat} (h:¬ lnE x k≠0) (h0:(k:Int)=0):¬ (lnB x k).worst≠(worstW x.c.g x.c.ts x.c.us (lnW x)).1:=by
 obtain rfl:k=0:=by omega
 exact fun q=>q (ln_0 hn (Decidable.not_not.1 h)).2
theorem ln_7 {x:LnX} {k:Nat} (hk:(k:Int)<3) (h:¬ lnE x k≠0):0<k+1->lnE x 0=0:=fun _=>(ln_e (by omega) (by omega)).trans (Decidable.not_not.1 h)
set_option maxRecDepth 100000 in
theorem ln_no_keeps:Keeps cfgLn0 Tryz.f4 (lnC false) noIv:=Eq.mp (show(∀ x1:LnX,(((x1.of.length<=(9223372036854775807:Nat))/\(netOk x1.c=false))->(∃ x3:Unit,(True/\(True/\(True/\(CB false (false=true/\True) (∃ x6:CaX,((netOk x6=false)/\(((x1.c.n=x6.n/\((0=0/\x1.c.es.length=x6.es.length)/\((0=0/\x1.c.ts.length=x6.ts.length)/\((0=0/\x1.c.us.length=x6.us.length)/\True))))/\True)/\(((RW [.int .i64,.int .i64,.int .i64] x6.es.length x1.c.es.length (encL encE x1.c.es) (encL encE x6.es))/\((RW [.int .i64] x6.ts.length x1.c.ts.length (encL encI x1.c.ts) (encL encI x6.ts))/\((RW kU x6.us.length x1.c.us.length (encL encU x1.c.us) (encL encU x6.us))/\True)))/\(∃ x7:List Int,((x7.length<=(9223372036854775807:Nat))/\(((0=0/\x1.of.length=x7.length)/\True)/\(((RW [.int .i64] x7.length x1.of.length (encL encI x1.of) (encL encI x7))/\True)/\(true=true/\True))))))))))))))))=(Keeps cfgLn0 Tryz.f4 (lnC false) noIv) by kernel_rfl) (fun x1=>fun h2=>⟨(default),trivial,trivial,trivial,fun h4=>⟨(by(try dsimp only at *);omega),trivial⟩,fun h5=>⟨(LnX.c x1),(by(try dsimp only at *);grind),⟨⟨rfl,⟨rfl,rfl⟩,⟨rfl,rfl⟩,⟨rfl,rfl⟩,trivial⟩,trivial⟩,⟨⟨rl,rr⟩,⟨rl,rr⟩,⟨rl,rr⟩,trivial⟩,(LnX.of x1),(by(try dsimp only at *);omega),⟨⟨rfl,rfl⟩,trivial⟩,⟨⟨rl,rr⟩,trivial⟩,rfl,trivial⟩⟩)
abbrev q73F0 (x1:LnX):Prop:=(0=0/\x1.of.length=x1.of.length)
theorem q73f0 {x1:LnX}:q73F0 x1:=⟨rfl,rfl⟩
abbrev q73F1 (x7:List Int):Prop:=((szW (ofW x7 x7.length)=szW (ofW x7 x7.length))/\True)
theorem q73f1 {x7:List Int}:q73F1 x7:=⟨rfl,trivial⟩
abbrev q73F2 (x1:LnX):Prop:=(x1.c.n=x1.c.n/\((0=0/\x1.c.es.length=x1.c.es.length)/\((0=0/\x1.c.ts.length=x1.c.ts.length)/\((0=0/\x1.c.us.length=x1.c.us.length)/\True))))
theorem q73f2 {x1:LnX}:q73F2 x1:=⟨rfl,⟨rfl,rfl⟩,⟨rfl,rfl⟩,⟨rfl,rfl⟩,trivial⟩
abbrev q73F3 (x1:LnX) (x7:List Int):Prop:=(false=false/\((decide (40<(x1.of.length:Int))=decide (40<(x1.of.length:Int)))/\(((x1.of.length:Int)=(x1.of.length:Int))/\((q73F0 x1)/\(false=false/\(false=false/\((0=0/\0=0)/\((0=0/\0=0)/\((q73F1 x7)/\((q73F0 x1)/\((0=0/\0=0)/\((0=0/\0=0)/\((q73F2 x1)/\(false=false/\(true=true/\((0=0/\0=0)/\((q73F2 x1)/\((q73F0 x1)/\True))))))))))))))))))
theorem q73f3 {x1:LnX} {x7:List Int}:q73F3 x1 x7:=⟨rfl,rfl,rfl,q73f0,rfl,rfl,⟨rfl,rfl⟩,⟨rfl,rfl⟩,q73f1,q73f0,⟨rfl,rfl⟩,⟨rfl,rfl⟩,q73f2,rfl,rfl,⟨rfl,rfl⟩,q73f2,q73f0,trivial⟩
abbrev q73F4 (x1:LnX) (x6:CaX) (x7:List Int):Prop:=((q73F1 x7)/\(((RLe (szW (ofW x7 x7.length)) (szW (ofW x7 x7.length)))/\(RowsEq [.int .u64] (szW (ofW x7 x7.length)) (encL encW (ofW x7 x7.length)) (encL encW (ofW x7 x7.length))))/\((RLe 1 1/\(RowsEq [.sl [.int .i64,.int .i64,.int .i64],.sl [.sl [.int .i64]],.sl [.sl [.int .i64]]] 1 (encG (CaX.g x6)) (encG (CaX.g x6))))/\((q73F2 x1)/\(((RLe x1.c.es.length x1.c.es.length)/\(RowsEq [.int .i64,.int .i64,.int .i64] x1.c.es.length (encL encE x1.c.es) (encL encE x1.c.es)))/\(((RLe x1.c.ts.length x1.c.ts.length)/\(RI x1.c.ts.length x1.c.ts x1.c.ts))/\(((RLe x1.c.us.length x1.c.us.length)/\(RowsEq kU x1.c.us.length (encL encU x1.c.us) (encL encU x1.c.us)))/\(((RLe x1.of.length x1.of.length)/\(RI x1.of.length x1.of x1.of))/\True))))))))
theorem q73f4 {x1:LnX} {x6:CaX} {x7:List Int}:q73F4 x1 x6 x7:=⟨q73f1,⟨rl,rr⟩,⟨rl,rr⟩,q73f2,⟨rl,rr⟩,⟨rl,rr⟩,⟨rl,rr⟩,⟨rl,rr⟩,trivial⟩
set_option maxRecDepth 100000 in
theorem ln_keeps:Keeps cfgLn1 Tryz.f4 (lnC true) lnI:=Eq.mp (show(∀ x1:LnX,(((x1.of.length<=(9223372036854775807:Nat))/\(netOk x1.c=true))->(∃ x3:Unit,(True/\(True/\(True/\(CB false (false=true/\True) (∃ x6:CaX,((netOk x6=true)/\(((x1.c.n=x6.n/\((0=0/\x1.c.es.length=x6.es.length)/\((0=0/\x1.c.ts.length=x6.ts.length)/\((0=0/\x1.c.us.length=x6.us.length)/\True))))/\True)/\(((RW [.int .i64,.int .i64,.int .i64] x6.es.length x1.c.es.length (encL encE x1.c.es) (encL encE x6.es))/\((RW [.int .i64] x6.ts.length x1.c.ts.length (encL encI x1.c.ts) (encL encI x6.ts))/\((RW kU x6.us.length x1.c.us.length (encL encU x1.c.us) (encL encU x6.us))/\True)))/\(∃ x7:List Int,((x7.length<=(9223372036854775807:Nat))/\(((0=0/\x1.of.length=x7.length)/\True)/\(((RW [.int .i64] x7.length x1.of.length (encL encI x1.of) (encL encI x7))/\True)/\(CB (decide (40<(x1.of.length:Int))) (true=true/\True) (∃ x10:Nat,((((x10<=(3:Nat))/\((0<x10)->(lnE x1 0=0)))/\((((-1:Int)=lastW x1 x10)/\((0=(x10:Int))/\(q73F3 x1 x7)))/\(q73F4 x1 x6 x7)))/\(∀ x12:Nat,(((x12<=(3:Nat))/\((0<x12)->(lnE x1 0=0)))->(CB (decide ((x12:Int)<3)) (∃ x15:PlX,((PlOk x15)/\(((0=0/\0=0)/\((0=0/\x1.c.ts.length=x15.ts.length)/\((0=0/\x1.c.us.length=x15.us.length)/\(((szW (ofW x7 x7.length)=szW x15.ws)/\True)/\(((x12:Int)=x15.max)/\True)))))/\(((RW [.sl [.int .i64,.int .i64,.int .i64],.sl [.sl [.int .i64]],.sl [.sl [.int .i64]]] 1 1 (encG (CaX.g x6)) (encG x15.g))/\((RW [.int .i64] x15.ts.length x1.c.ts.length (encL encI x1.c.ts) (encL encI x15.ts))/\((RW kU x15.us.length x1.c.us.length (encL encU x1.c.us) (encL encU x15.us))/\((RW [.int .u64] (szW x15.ws) (szW (ofW x7 x7.length)) (encL encW (ofW x7 x7.length)) (encL encW x15.ws))/\True))))/\(CB (decide (resE x15≠(0:Int))) (CB (decide ((x12:Int)=0)) (CB (decide ((↑(resB x15).best.length:Int)=0)) ((decide ((resB x15).worst=(0:Int))=true)/\True) (false=true/\True)) (false=true/\True)) (∃ x22:IdX,(((x22.us.length<=(1000:Nat))/\(x22.l.length<=(1000:Nat)))/\(((0=0/\x1.c.us.length=x22.us.length)/\((0=0/\((resB x15).best.length=x22.l.length))/\True))/\(((RW kU x22.us.length x1.c.us.length (encL encU x1.c.us) (encL encU x22.us))/\((RW [.int .i64,.int .i64] x22.l.length (resB x15).best.length (encL encM (resB x15).best) (encL encM x22.l))/\True))/\(CN (decide (appE2 x22.us x22.l≠(0:Int))) (CB (decide ((x12:Int)<(↑(resB x15).best.length:Int))) (false=true/\True) (∃ x26:YX,((YXok x26)/\(((0=0/\0=0)/\((0=0/\x1.c.ts.length=x26.ts.length)/\((0=0/\((appU x22.us x22.l).length=x26.us.length))/\(((szW (ofW x7 x7.length)=szW x26.ws)/\True)/\True))))/\(((RW [.sl [.int .i64,.int .i64,.int .i64],.sl [.sl [.int .i64]],.sl [.sl [.int .i64]]] 1 1 (encG (CaX.g x6)) (encG x26.g))/\((RW [.int .i64] x26.ts.length x1.c.ts.length (encL encI x1.c.ts) (encL encI x26.ts))/\((RW kU x26.us.length (appU x22.us x22.l).length (encL encU (appU x22.us x22.l)) (encL encU x26.us))/\((RW [.int .u64] (szW x26.ws) (szW (ofW x7 x7.length)) (encL encW (ofW x7 x7.length)) (encL encW x26.ws))/\True))))/\(CN (decide (Prod.fst (worstW x26.g x26.ts x26.us x26.ws)≠(resB x15).worst)) (CB (decide ((0:Int)<=lastW x1 x12)) (CB (decide (lastW x1 x12<(resB x15).worst)) (false=true/\True) (CB (decide ((x12:Int)=0)) (∃ x32:YX,((YXok x32)/\(((0=0/\0=0)/\((0=0/\x1.c.ts.length=x32.ts.length)/\((0=0/\x1.c.us.length=x32.us.length)/\(((szW (ofW x7 x7.length)=szW x32.ws)/\True)/\True))))/\(((RW [.sl [.int .i64,.int .i64,.int .i64],.sl [.sl [.int .i64]],.sl [.sl [.int .i64]]] 1 1 (encG (CaX.g x6)) (encG x32.g))/\((RW [.int .i64] x32.ts.length x1.c.ts.length (encL encI x1.c.ts) (encL encI x32.ts))/\((RW kU x32.us.length x1.c.us.length (encL encU x1.c.us) (encL encU x32.us))/\((RW [.int .u64] (szW x32.ws) (szW (ofW x7 x7.length)) (encL encW (ofW x7 x7.length)) (encL encW x32.ws))/\True))))/\(CN (decide ((resB x15).worst≠Prod.fst (worstW x32.g x32.ts x32.us x32.ws))) (CB (decide ((↑(resB x15).best.length:Int)≠(0:Int))) (false=true/\True) ((R6 ((x12:Int)+1))/\(∃ x36:Nat,(((3:Nat)-x36<(3:Nat)-x12)/\(((x36<=(3:Nat))/\((0<x36)->(lnE x1 0=0)))/\((((resB x15).worst=lastW x1 x36)/\(((x12:Int)+1=(x36:Int))/\(q73F3 x1 x7)))/\(q73F4 x1 x6 x7))))))) (false=true/\True)))))) ((R6 ((x12:Int)+1))/\(∃ x40:Nat,(((3:Nat)-x40<(3:Nat)-x12)/\(((x40<=(3:Nat))/\((0<x40)->(lnE x1 0=0)))/\((((resB x15).worst=lastW x1 x40)/\(((x12:Int)+1=(x40:Int))/\(q73F3 x1 x7)))/\(q73F4 x1 x6 x7)))))))) (CB (decide ((x12:Int)=0)) (∃ x44:YX,((YXok x44)/\(((0=0/\0=0)/\((0=0/\x1.c.ts.length=x44.ts.length)/\((0=0/\x1.c.us.length=x44.us.length)/\(((szW (ofW x7 x7.length)=szW x44.ws)/\True)/\True))))/\(((RW [.sl [.int .i64,.int .i64,.int .i64],.sl [.sl [.int .i64]],.sl [.sl [.int .i64]]] 1 1 (encG (CaX.g x6)) (encG x44.g))/\((RW [.int .i64] x44.ts.length x1.c.ts.length (encL encI x1.c.ts) (encL encI x44.ts))/\((RW kU x44.us.length x1.c.us.length (encL encU x1.c.us) (encL encU x44.us))/\((RW [.int .u64] (szW x44.ws) (szW (ofW x7 x7.length)) (encL encW (ofW x7 x7.length)) (encL encW x44.ws))/\True))))/\(CN (decide ((resB x15).worst≠Prod.fst (worstW x44.g x44.ts x44.us x44.ws))) (CB (decide ((↑(resB x15).best.length:Int)≠(0:Int))) (false=true/\True) ((R6 ((x12:Int)+1))/\(∃ x48:Nat,(((3:Nat)-x48<(3:Nat)-x12)/\(((x48<=(3:Nat))/\((0<x48)->(lnE x1 0=0)))/\((((resB x15).worst=lastW x1 x48)/\(((x12:Int)+1=(x48:Int))/\(q73F3 x1 x7)))/\(q73F4 x1 x6 x7))))))) (false=true/\True)))))) ((R6 ((x12:Int)+1))/\(∃ x52:Nat,(((3:Nat)-x52<(3:Nat)-x12)/\(((x52<=(3:Nat))/\((0<x52)->(lnE x1 0=0)))/\((((resB x15).worst=lastW x1 x52)/\(((x12:Int)+1=(x52:Int))/\(q73F3 x1 x7)))/\(q73F4 x1 x6 x7)))))))) (false=true/\True))))))) (false=true/\True))))))))))) (true=true/\True))))))))))))))))))))))=(Keeps cfgLn1 Tryz.f4 (lnC true) lnI) by kernel_rfl) (fun x1=>fun h2=>⟨(default),trivial,trivial,trivial,fun h4=>⟨(by(try dsimp only at *);omega),trivial⟩,fun h5=>⟨(LnX.c x1),(by(try dsimp only at *);grind),⟨⟨rfl,⟨rfl,rfl⟩,⟨rfl,rfl⟩,⟨rfl,rfl⟩,trivial⟩,trivial⟩,⟨⟨rl,rr⟩,⟨rl,rr⟩,⟨rl,rr⟩,trivial⟩,(LnX.of x1),(by(try dsimp only at *);omega),⟨⟨rfl,rfl⟩,trivial⟩,⟨⟨rl,rr⟩,trivial⟩,fun g8=>have h8:=dT g8;⟨rfl,trivial⟩,fun g9=>have h9:=dF g9;⟨((0:Nat)),⟨⟨(by(try dsimp only at *);omega),fun h11=>(by(try dsimp only at *);omega)⟩,⟨(by(try dsimp only at *);rfl),(by(try dsimp only at *);omega),q73f3⟩,q73f4⟩,fun x12=>fun h13=>⟨fun g14=>have h14:=dT g14;⟨({ g:=CaX.g (LnX.c x1),ts:=CaX.ts (LnX.c x1),us:=CaX.us (LnX.c x1),ws:=ofW (LnX.of x1) (List.length (LnX.of x1)),max:=(↑x12:Int):PlX }),(by(try dsimp only at *);exact ln_pl h2.2 _),⟨⟨rfl,rfl⟩,⟨rfl,rfl⟩,⟨rfl,rfl⟩,⟨rfl,trivial⟩,rfl,trivial⟩,⟨⟨rl,rr⟩,⟨rl,rr⟩,⟨rl,rr⟩,⟨rl,rr⟩,trivial⟩,fun g16=>have h16:=dT g16;⟨fun g17=>have h17:=dT g17;⟨fun g18=>have h18:=dT g18;⟨(by(try dsimp only at *);exact decide_eq_true (congrArg Bst.worst (ln_no (x:=x1) (k:=x12) h16))),trivial⟩,fun g19=>have h19:=dF g19;⟨(by(try dsimp only at *);exact absurd (congrArg (fun b:Bst=>(b.best.length:Int)) (ln_no (x:=x1) (k:=x12) h16)) h19),trivial⟩⟩,fun g20=>have h20:=dF g20;⟨(by(try dsimp only at *);exact absurd (ln_f h13 h14 h20) h16),trivial⟩⟩,fun g21=>have h21:=dF g21;⟨({ us:=CaX.us (LnX.c x1),l:=Bst.best (resB { g:=CaX.g (LnX.c x1),ts:=CaX.ts (LnX.c x1),us:=CaX.us (LnX.c x1),ws:=ofW (LnX.of x1) (List.length (LnX.of x1)),max:=(↑x12:Int):PlX }):IdX }),⟨(by(try dsimp only at *);(have:=(net_gok h2.2).2.2.2.2;show x1.c.us.length<=1000;omega)),(by(try dsimp only at *);(have:=(ln_b h2.2 (k:=x12) (Decidable.not_not.1 h21)).2.1;show(lnB x1 x12).best.length<=1000;omega))⟩,⟨⟨rfl,rfl⟩,⟨rfl,rfl⟩,trivial⟩,⟨⟨rl,rr⟩,⟨rl,rr⟩,trivial⟩,fun g23=>have h23:=dF g23;⟨fun g24=>have h24:=dT g24;⟨(by(try dsimp only at *);exact absurd h24 (ln_1 h2.2 h21)),trivial⟩,fun g25=>have h25:=dF g25;⟨({ g:=CaX.g (LnX.c x1),ts:=CaX.ts (LnX.c x1),us:=appU (CaX.us (LnX.c x1)) (Bst.best (resB { g:=CaX.g (LnX.c x1),ts:=CaX.ts (LnX.c x1),us:=CaX.us (LnX.c x1),ws:=ofW (LnX.of x1) (List.length (LnX.of x1)),max:=(↑x12:Int):PlX })),ws:=ofW (LnX.of x1) (List.length (LnX.of x1)),t:=default:YX }),(by(try dsimp only at *);exact ln_y h2.2 (ln_len _ _)),⟨⟨rfl,rfl⟩,⟨rfl,rfl⟩,⟨rfl,rfl⟩,⟨rfl,trivial⟩,trivial⟩,⟨⟨rl,rr⟩,⟨rl,rr⟩,⟨rl,rr⟩,⟨rl,rr⟩,trivial⟩,fun g27=>have h27:=dF g27;⟨fun g28=>have h28:=dT g28;⟨fun g29=>have h29:=dT g29;⟨(by(try dsimp only at *);exact absurd h29 (ln_2 h2.2 h14 h21 h28)),trivial⟩,fun g30=>have h30:=dF g30;⟨fun g31=>have h31:=dT g31;⟨({ g:=CaX.g (LnX.c x1),ts:=CaX.ts (LnX.c x1),us:=CaX.us (LnX.c x1),ws:=ofW (LnX.of x1) (List.length (LnX.of x1)),t:=default:YX }),(by(try dsimp only at *);exact ln_y h2.2 (Nat.le_refl _)),⟨⟨rfl,rfl⟩,⟨rfl,rfl⟩,⟨rfl,rfl⟩,⟨rfl,trivial⟩,trivial⟩,⟨⟨rl,rr⟩,⟨rl,rr⟩,⟨rl,rr⟩,⟨rl,rr⟩,trivial⟩,fun g33=>have h33:=dF g33;⟨fun g34=>have h34:=dT g34;⟨(by(try dsimp only at *);omega),trivial⟩,fun g35=>have h35:=dF g35;⟨⟨(by(try dsimp only at *);omega),(by(try dsimp only at *);omega)⟩,(x12+(1:Nat)),(by(try dsimp only at *);omega),⟨(by(try dsimp only at *);omega),fun h37=>(by(try dsimp only at *);exact ln_7 (k:=x12) h14 h21 (Nat.succ_pos _))⟩,⟨(by(try dsimp only at *);rfl),(by(try dsimp only at *);omega),q73f3⟩,q73f4⟩⟩,fun g38=>have h38:=dT g38;⟨(by(try dsimp only at *);exact absurd ‹_› (ln_5 h2.2 (k:=x12) h21 ‹_›)),trivial⟩⟩,fun g39=>have h39:=dF g39;⟨⟨(by(try dsimp only at *);omega),(by(try dsimp only at *);omega)⟩,(x12+(1:Nat)),(by(try dsimp only at *);omega),⟨(by(try dsimp only at *);omega),fun h41=>(by(try dsimp only at *);omega)⟩,⟨(by(try dsimp only at *);rfl),(by(try dsimp only at *);omega),q73f3⟩,q73f4⟩⟩⟩,fun g42=>have h42:=dF g42;⟨fun g43=>have h43:=dT g43;⟨({ g:=CaX.g (LnX.c x1),ts:=CaX.ts (LnX.c x1),us:=CaX.us (LnX.c x1),ws:=ofW (LnX.of x1) (List.length (LnX.of x1)),t:=default:YX }),(by(try dsimp only at *);exact ln_y h2.2 (Nat.le_refl _)),⟨⟨rfl,rfl⟩,⟨rfl,rfl⟩,⟨rfl,rfl⟩,⟨rfl,trivial⟩,trivial⟩,⟨⟨rl,rr⟩,⟨rl,rr⟩,⟨rl,rr⟩,⟨rl,rr⟩,trivial⟩,fun g45=>have h45:=dF g45;⟨fun g46=>have h46:=dT g46;⟨(by(try dsimp only at *);omega),trivial⟩,fun g47=>have h47:=dF g47;⟨⟨(by(try dsimp only at *);omega),(by(try dsimp only at *);omega)⟩,(x12+(1:Nat)),(by(try dsimp only at *);omega),⟨(by(try dsimp only at *);omega),fun h49=>(by(try dsimp only at *);exact ln_7 (k:=x12) h14 h21 (Nat.succ_pos _))⟩,⟨(by(try dsimp only at *);rfl),(by(try dsimp only at *);omega),q73f3⟩,q73f4⟩⟩,fun g50=>have h50:=dT g50;⟨(by(try dsimp only at *);exact absurd ‹_› (ln_5 h2.2 (k:=x12) h21 ‹_›)),trivial⟩⟩,fun g51=>have h51:=dF g51;⟨⟨(by(try dsimp only at *);omega),(by(try dsimp only at *);omega)⟩,(x12+(1:Nat)),(by(try dsimp only at *);omega),⟨(by(try dsimp only at *);omega),fun h53=>(by(try dsimp only at *);omega)⟩,⟨(by(try dsimp only at *);rfl),(by(try dsimp only at *);omega),q73f3⟩,q73f4⟩⟩⟩,fun g54=>have h54:=dT g54;⟨(by(try dsimp only at *);exact absurd ‹_› (ln_3 h2.2 (k:=x12) h21)),trivial⟩⟩⟩,fun g55=>have h55:=dT g55;⟨(by(try dsimp only at *);exact absurd ‹_› (ln_4 h2.2 (k:=x12) h21)),trivial⟩⟩⟩,fun g56=>have h56:=dF g56;⟨rfl,trivial⟩⟩⟩⟩⟩)
theorem ln_good:Good Tryz.prog 4 ⟨LnX,fun x=>x.of.length<=9223372036854775807,lnA,lnH,fun _=>.b true,fun _=>[]⟩/\FnOk Tryz.prog 4:=
 ⟨both_b (b:=fun x:LnX=>netOk x.c) (good_of tok conLn1 (fn:=Tryz.f4) rfl (by decide+kernel) (fun _=>rfl) ln_keeps).1 (good_of tok conLn0 (fn:=Tryz.f4) rfl (by decide+kernel) (fun _=>rfl) ln_no_keeps).1,Tryz.f4,rfl,by decide+kernel,rfl⟩
end Go.Sym