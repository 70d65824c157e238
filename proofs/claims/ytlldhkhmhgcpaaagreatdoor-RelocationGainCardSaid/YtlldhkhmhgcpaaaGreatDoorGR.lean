import Derived.Test.YtlldhkhmhgcpaaaGreatDoorGP
import Derived.Test.YtlldhkhmhgcpaaaGreatDoorAR
import Derived.Test.YtlldhkhmhgcpaaaGreatDoorR5
import Derived.Test.YtlldhkhmhgcpaaaGreatDoorXD
namespace Go.Sym
set_option linter.unusedVariables false
set_option linter.unusedSimpArgs false
open Go.Proofs Go.RowKit
set_option maxRecDepth 100000
set_option maxHeartbeats 8000000
structure TkX where
 g:Gr
 ts:List Int
 us:List Un
 m:Mv
structure TkOk (x:TkX):Prop where
 g:GOk x.g
 n:x.g.n<=12
 us:x.us.length<=1000
def tkN (x:TkX):Int:=(x.us.getD (fndU x.us x.m.1).toNat default).nd
def tkBad (x:TkX):Prop:=fndU x.us x.m.1<0∨¬ (0<=tkN x/\tkN x<x.g.n)∨¬ (0<=x.m.2/\x.m.2<x.g.n)
instance (x:TkX):Decidable (tkBad x):=by unfold tkBad;infer_instance
def tkU (x:TkX):Int:=if tkBad x then INF else(distG x.g x.ts [tkN x] true).getD x.m.2.toNat default
def tkC:CT where
 X:=TkX
 pre:=TkOk
 args:=fun x=>[netA x.g,.sl 100001 0 x.ts.length,.sl 100002 0 x.us.length,.agg [.i .i64 x.m.1,.i .i64 x.m.2]]
 g0:=fun x=>[(100000,.rows .bor kE x.g.es.length (encL encE x.g.es)),(100001,.rows .bor k1 x.ts.length (encL encI x.ts)),(100002,.rows .bor kU x.us.length (encL encU x.us))]
 res:=fun x=>.i .i64 (tkU x)
 g1:=fun _=>[]
def tkI (x:TkX) (id:Nat):Option Inv:=match id with
 |100045=>some (cutB 45 (decide (tkBad x)))
 |_=>none
def cfgTk:Cfg:=⟨T,[],[(62,.one fdC),(65,.one qfromC)],noInv,90,{ kn:=true }⟩
theorem conTk:ConOk Tryz.prog cfgTk:=ConL.ok (.cons (ConL.one fd_good) (.cons (ConL.one qfrom_good) .nil))
theorem tk_r {x:TkX} (h:¬ fndU x.us x.m.1<0):0<=fndU x.us x.m.1/\fndU x.us x.m.1<x.us.length/\0+(fndU x.us x.m.1).toNat<x.us.length:=by
 have:=fnd_lt (us:=x.us) (i:=x.m.1) (by omega)
 omega
theorem tk_n {x:TkX} (h:¬ tkBad x):(0<=fndU x.us x.m.1/\fndU x.us x.m.1<x.us.length/\0+(fndU x.us x.m.1).toNat<x.us.length)/\(0<=tkN x/\tkN x<x.g.n)/\(0<=x.m.2/\x.m.2<x.g.n):=by
 have h1:¬ fndU x.us x.m.1<0:=fun q=>h (.inl q)
 refine⟨tk_r h1,?_,?_⟩
 ·exact Decidable.byContradiction fun q=>h (.inr (.inl q))
 ·exact Decidable.byContradiction fun q=>h (.inr (.inr q))
def tkG (x:TkX):Int:=(x.us.getD (0+(fndU x.us x.m.1).toNat) default).nd
theorem tkG_e (x:TkX):tkG x=tkN x:=by unfold tkG tkN;rw[Nat.zero_add]
theorem tk_1 {x:TkX} (h:¬ fndU x.us x.m.1<0) (h1:¬ tkG x<0) (h2:¬ (x.g.n:Int)<=tkG x) (h3:¬ x.m.2<0):decide ((x.g.n:Int)<=x.m.2)=decide (tkBad x):=by
 rw[tkG_e]at h1 h2
 refine decide_eq_decide.2 ⟨fun q=>.inr (.inr (by omega)),fun q=>?_⟩
 rcases q with q|q|q <;>omega
theorem tk_b {x:TkX} (h:fndU x.us x.m.1<0∨tkG x<0∨(x.g.n:Int)<=tkG x∨x.m.2<0):true=decide (tkBad x):=by
 rw[tkG_e]at h
 refine(decide_eq_true ?_).symm
 rcases h with h|h|h|h
 ·exact .inl h
 ·exact .inr (.inl (by omega))
 ·exact .inr (.inl (by omega))
 ·exact .inr (.inr (by omega))
theorem tk_nd {x:TkX} {n:Nat}:RowsEq k1 n (litRows [[D.i (tkG x)]]) (encL encI [tkN x]):=by
 rw[tkG_e]
 refine⟨fun r hr=>?_⟩
 cases r with
 |zero=>exact⟨rfl,trivial⟩
 |succ r=>exact⟨rfl,trivial⟩
theorem tk_y {x:TkX} (h:tkBad x):INF=tkU x:=(if_pos h).symm
theorem tk_z {x:TkX} (h:¬ tkBad x):(distG x.g x.ts [tkN x] true).getD (0+x.m.2.toNat) default=tkU x:=by unfold tkU;rw[if_neg h,Nat.zero_add]
set_option maxRecDepth 100000 in
theorem tk_keeps:Keeps cfgTk Tryz.f44 tkC tkI:=Eq.mp (show(∀ x1:TkX,((TkOk x1)->(∃ x3:FdX,((x3.us.length<=(1000:Nat))/\(((0=0/\x1.us.length=x3.us.length)/\((Prod.fst x1.m=x3.id)/\True))/\(((RW kU x3.us.length x1.us.length (encL encU x1.us) (encL encU x3.us))/\True)/\((CN (decide (fndU x3.us x3.id<(0:Int))) ((Ix (fndU x3.us x3.id) (x1.us.length:Int))/\((0+Int.toNat (fndU x3.us x3.id)<x1.us.length)/\(CN (decide ((x1.us.getD (0+Int.toNat (fndU x3.us x3.id)) default).nd<(0:Int))) ((Ix (fndU x3.us x3.id) (x1.us.length:Int))/\((0+Int.toNat (fndU x3.us x3.id)<x1.us.length)/\(CN (decide ((x1.g.n:Int)<=(x1.us.getD (0+Int.toNat (fndU x3.us x3.id)) default).nd)) (CN (decide (Prod.snd x1.m<(0:Int))) (∃ x8:Unit,(True/\((decide ((x1.g.n:Int)<=Prod.snd x1.m)=decide (tkBad x1))/\True))) (∃ x10:Unit,(True/\((true=decide (tkBad x1))/\True)))) (∃ x12:Unit,(True/\((true=decide (tkBad x1))/\True)))))) (∃ x14:Unit,(True/\((true=decide (tkBad x1))/\True)))))) (∃ x16:Unit,(True/\((true=decide (tkBad x1))/\True))))/\(∀ x17:Unit,(True->(CB (decide (tkBad x1)) (((4611686018427387904:Int)=tkU x1)/\True) ((Ix (fndU x3.us x3.id) (x1.us.length:Int))/\((0+Int.toNat (fndU x3.us x3.id)<x1.us.length)/\(((True/\True)/\True)/\(∃ x21:FX,((FXok x21)/\(((((x1.g.n:Int)=(x21.g.n:Int))/\((0=0/\x1.g.es.length=x21.g.es.length)/\True))/\((0=0/\x1.ts.length=x21.ts.length)/\((0=0/\((1:Nat)=x21.src.length))/\True)))/\(((RW [.int .i64,.int .i64,.int .i64] x21.g.es.length x1.g.es.length (encL encE x1.g.es) (encL encE x21.g.es))/\((RW [.int .i64] x21.ts.length x1.ts.length (encL encI x1.ts) (encL encI x21.ts))/\((RW [.int .i64] x21.src.length 1 (litRows ((D.i (x1.us.getD (0+Int.toNat (fndU x3.us x3.id)) default).nd::@List.nil D)::@List.nil (List D))) (encL encI x21.src))/\True)))/\((Ix (Prod.snd x1.m) (x21.g.n:Int))/\((0+Int.toNat (Prod.snd x1.m)<x21.g.n)/\(((distG x21.g x21.ts x21.src true).getD (0+Int.toNat (Prod.snd x1.m)) default=tkU x1)/\True))))))))))))))))))))=(Keeps cfgTk Tryz.f44 tkC tkI) by kernel_rfl) (fun x1=>fun h2=>⟨({ us:=TkX.us x1,id:=Prod.fst (TkX.m x1):FdX }),h2.us,⟨⟨rfl,rfl⟩,rfl,trivial⟩,⟨⟨rl,rr⟩,trivial⟩,⟨fun g4=>have h4:=dF g4;⟨⟨(by omega),((tk_r h4).2.1)⟩,((tk_r h4).2.2),fun g5=>have h5:=dF g5;⟨⟨(by omega),((tk_r h4).2.1)⟩,((tk_r h4).2.2),fun g6=>have h6:=dF g6;⟨fun g7=>have h7:=dF g7;⟨(default),trivial,(tk_1 h4 h5 h6 h7),trivial⟩,fun g9=>have h9:=dT g9;⟨(default),trivial,(tk_b (.inr (.inr (.inr h9)))),trivial⟩⟩,fun g11=>have h11:=dT g11;⟨(default),trivial,(tk_b (.inr (.inr (.inl h11)))),trivial⟩⟩,fun g13=>have h13:=dT g13;⟨(default),trivial,(tk_b (.inr (.inl h13))),trivial⟩⟩,fun g15=>have h15:=dT g15;⟨(default),trivial,(tk_b (.inl h15)),trivial⟩⟩,fun x17=>fun h18=>⟨fun g19=>have h19:=dT g19;⟨(tk_y h19),trivial⟩,fun g20=>have h20:=dF g20;⟨⟨((tk_n h20).1.1),((tk_n h20).1.2.1)⟩,((tk_n h20).1.2.2),⟨⟨trivial,trivial⟩,trivial⟩,({ g:=TkX.g x1,ts:=TkX.ts x1,src:=tkN x1::@List.nil Int:FX }),(⟨h2.g,h2.n,Nat.le_of_ble_eq_true rfl⟩),⟨⟨rfl,⟨rfl,rfl⟩,trivial⟩,⟨rfl,rfl⟩,⟨rfl,(by grind)⟩,trivial⟩,⟨⟨rl,rr⟩,⟨rl,rr⟩,⟨⟨(by grind)⟩,tk_nd⟩,trivial⟩,⟨((tk_n h20).2.2.1),((tk_n h20).2.2.2)⟩,(by have:=(tk_n h20).2.2;show 0+x1.m.2.toNat<x1.g.n;omega),(tk_z h20),trivial⟩⟩⟩)
theorem tk_good:Good Tryz.prog 44 tkC/\FnOk Tryz.prog 44:=good_of tok conTk (fn:=Tryz.f44) rfl (by decide+kernel) (fun _=>rfl) tk_keeps
structure RgX where
 g:Gr
 ts:List Int
 us:List Un
 of:List Int
 l:List Mv
structure RgOk (x:RgX):Prop where
 g:GOk x.g
 n:x.g.n<=12
 us:x.us.length<=1000
 of:x.of.length<=1000
 l:x.l.length<=1000
def RgX.n (x:RgX):GnX:=⟨x.g,x.ts,x.us,ofW x.of x.of.length,x.l⟩
def rgC:CT where
 X:=RgX
 pre:=RgOk
 args:=fun x=>[netA x.g,.sl 100001 0 x.ts.length,.sl 100002 0 x.us.length,.sl 100003 0 x.of.length,.sl 100004 0 x.l.length]
 g0:=fun x=>[(100000,.rows .bor kE x.g.es.length (encL encE x.g.es)),(100001,.rows .bor k1 x.ts.length (encL encI x.ts)),(100002,.rows .bor kU x.us.length (encL encU x.us)),(100003,.rows .bor k1 x.of.length (encL encI x.of)),(100004,.rows .bor kM x.l.length (encL encM x.l))]
 res:=fun x=>.tup [.i .i64 (gnR x.n).1,.i .i64 (gnR x.n).2]
 g1:=fun _=>[]
def rgI (x:RgX) (id:Nat):Option Inv:=match id with
 |0=>some { X:=Nat,ok:=fun k=>k<=x.l.length/\okMs x.us x.l=true,fr:=fun k=>[(18,.i .i64 (gaL x.n k)),(47,.i .i64 k),(46,.i .i64 x.l.length)],hp:=fun k=>[],me:=fun k=>x.l.length-k }
 |_=>none
def cfgRg:Cfg:=⟨T,[],[(37,.one apC),(35,.one vWorstC),(44,.one tkC)],noInv,130,{ kn:=true }⟩
theorem conRg:ConOk Tryz.prog cfgRg:=ConL.ok (.cons (ConL.one af_good) (.cons (ConL.one vWorst_good) (.cons (ConL.one tk_good) .nil)))
theorem tk_f {x:RgX} (h:RgOk x) (hm:okMs x.us x.l=true) {k:Nat} (hk:(k:Int)<x.l.length):tkU ⟨x.g,x.ts,x.us,x.l.getD k default⟩=tkF x.n (x.l.getD k default):=by
 have ho:=ms_i hm (k:=k) (by omega)
 unfold tkF
 by_cases h1:(x.l.getD k default).2<(x.g.n:Int)
 ·rw[if_pos (show(x.l.getD k default).2<(x.n.g.n:Int)from h1)]
  by_cases h2:tkBad ⟨x.g,x.ts,x.us,x.l.getD k default⟩
  ·rw[<- tk_y h2]
   rcases h2 with q|q|q
   ·have h0:0<=fndU x.us (x.l.getD k default).1:=ho.1
    have q:fndU x.us (x.l.getD k default).1<0:=q
    omega
   ·exact(dist_bad h.g x.ts q (by have:=ho.2.2.2.1.1;omega)).symm
   ·have h3:=ho.2.2.2.1.1
    have q:¬ (0<=(x.l.getD k default).2/\(x.l.getD k default).2<(x.g.n:Int)):=q
    omega
  ·rw[<- tk_z h2,Nat.zero_add];rfl
 ·rw[if_neg (show ¬ (x.l.getD k default).2<(x.n.g.n:Int)from h1)]
  refine(tk_y (.inr (.inr ?_))).symm
  show ¬ (0<=(x.l.getD k default).2/\(x.l.getD k default).2<(x.g.n:Int))
  omega
theorem rg_s {x:RgX} (h:RgOk x) (hm:okMs x.us x.l=true) {k:Nat} (hk:(k:Int)<x.l.length):max (gaL x.n k) (tkU ⟨x.g,x.ts,x.us,((x.l.getD (0+(k:Int).toNat) default).1,(x.l.getD (0+(k:Int).toNat) default).2)⟩)=gaL x.n (k+1):=by
 rw[nat0,ga_s (x:=x.n) hk]
 exact congrArg (max (gaL x.n k)) (tk_f h hm hk)
theorem rg_u {x:RgX} (h:RgOk x):UXok ⟨x.g,x.ts,x.us,x.of⟩:=⟨h.g,h.n,by have:=h.us;show x.us.length<=_;omega,by have:=h.of;show x.of.length<=_;omega⟩
theorem rg_v {x:RgX} (h:RgOk x):UXok ⟨x.g,x.ts,appU x.us x.l,x.of⟩:=⟨h.g,h.n,(gn_v (x:=x.n) ⟨h.g,h.n,h.us,ofW_ok _ _,h.l⟩).u.us,by have:=h.of;show x.of.length<=_;omega⟩
theorem rg_m {x:RgX} (h:¬ appE2 x.us x.l≠0):okMs x.us x.l=true:=by
 cases hb:okMs x.us x.l with
 |true=>rfl
 |false=>exact absurd (by rw[(ap_n hb).2];decide) h
theorem rg_d {x:RgX} (h:RgOk x): -9223372036854775808<=(worstU x.g x.ts x.us x.of).1-(worstU x.g x.ts (appU x.us x.l) x.of).1/\(worstU x.g x.ts x.us x.of).1-(worstU x.g x.ts (appU x.us x.l) x.of).1<=9223372036854775807:=by
 have a:=ww_rng h.g x.ts x.us (ofW x.of x.of.length)
 have b:=ww_rng h.g x.ts (appU x.us x.l) (ofW x.of x.of.length)
 have e1:worstW x.g x.ts x.us (ofW x.of x.of.length)=worstU x.g x.ts x.us x.of:=rfl
 have e2:worstW x.g x.ts (appU x.us x.l) (ofW x.of x.of.length)=worstU x.g x.ts (appU x.us x.l) x.of:=rfl
 rw[e1]at a
 rw[e2]at b
 omega
abbrev q68F0 (x1:RgX):Prop:=(0=0/\x1.l.length=x1.l.length)
theorem q68f0 {x1:RgX}:q68F0 x1:=⟨rfl,rfl⟩
abbrev q68F1 (x7:UX):Prop:=((Prod.fst (worstU x7.g x7.ts x7.us x7.of)=Prod.fst (worstU x7.g x7.ts x7.us x7.of))/\((Prod.snd (worstU x7.g x7.ts x7.us x7.of)=Prod.snd (worstU x7.g x7.ts x7.us x7.of))/\True))
theorem q68f1 {x7:UX}:q68F1 x7:=⟨rfl,rfl,trivial⟩
abbrev q68F2 (x1:RgX):Prop:=(0=0/\x1.of.length=x1.of.length)
theorem q68f2 {x1:RgX}:q68F2 x1:=⟨rfl,rfl⟩
abbrev q68F3 (x3:IdX):Prop:=(0=0/\((appU x3.us x3.l).length=(appU x3.us x3.l).length))
theorem q68f3 {x3:IdX}:q68F3 x3:=⟨rfl,rfl⟩
abbrev q68F4 (x1:RgX):Prop:=(0=0/\x1.ts.length=x1.ts.length)
theorem q68f4 {x1:RgX}:q68F4 x1:=⟨rfl,rfl⟩
abbrev q68F5 (x1:RgX):Prop:=(((x1.g.n:Int)=(x1.g.n:Int))/\((0=0/\x1.g.es.length=x1.g.es.length)/\True))
theorem q68f5 {x1:RgX}:q68F5 x1:=⟨rfl,⟨rfl,rfl⟩,trivial⟩
abbrev q68F6 (x6:UX):Prop:=((Prod.fst (worstU x6.g x6.ts x6.us x6.of)=Prod.fst (worstU x6.g x6.ts x6.us x6.of))/\((Prod.snd (worstU x6.g x6.ts x6.us x6.of)=Prod.snd (worstU x6.g x6.ts x6.us x6.of))/\True))
theorem q68f6 {x6:UX}:q68F6 x6:=⟨rfl,rfl,trivial⟩
abbrev q68F7 (x1:RgX):Prop:=(0=0/\x1.us.length=x1.us.length)
theorem q68f7 {x1:RgX}:q68F7 x1:=⟨rfl,rfl⟩
abbrev q68F8 (x3:IdX):Prop:=((q68F3 x3)/\((appE2 x3.us x3.l=appE2 x3.us x3.l)/\True))
theorem q68f8 {x3:IdX}:q68F8 x3:=⟨q68f3,rfl,trivial⟩
abbrev q68F9 (x1:RgX) (x3:IdX) (x6:UX) (x7:UX):Prop:=(((x1.l.length:Int)=(x1.l.length:Int))/\((q68F0 x1)/\((Prod.snd (worstU x7.g x7.ts x7.us x7.of)=Prod.snd (worstU x7.g x7.ts x7.us x7.of))/\((Prod.fst (worstU x7.g x7.ts x7.us x7.of)=Prod.fst (worstU x7.g x7.ts x7.us x7.of))/\((Prod.snd (worstU x7.g x7.ts x7.us x7.of)=Prod.snd (worstU x7.g x7.ts x7.us x7.of))/\((Prod.fst (worstU x7.g x7.ts x7.us x7.of)=Prod.fst (worstU x7.g x7.ts x7.us x7.of))/\((q68F1 x7)/\((q68F1 x7)/\((q68F2 x1)/\((q68F3 x3)/\((q68F4 x1)/\((q68F5 x1)/\((Prod.snd (worstU x6.g x6.ts x6.us x6.of)=Prod.snd (worstU x6.g x6.ts x6.us x6.of))/\((Prod.fst (worstU x6.g x6.ts x6.us x6.of)=Prod.fst (worstU x6.g x6.ts x6.us x6.of))/\((Prod.snd (worstU x6.g x6.ts x6.us x6.of)=Prod.snd (worstU x6.g x6.ts x6.us x6.of))/\((Prod.fst (worstU x6.g x6.ts x6.us x6.of)=Prod.fst (worstU x6.g x6.ts x6.us x6.of))/\((q68F6 x6)/\((q68F6 x6)/\((q68F2 x1)/\((q68F7 x1)/\((q68F4 x1)/\((q68F5 x1)/\(false=false/\((appE2 x3.us x3.l=appE2 x3.us x3.l)/\((appE2 x3.us x3.l=appE2 x3.us x3.l)/\((q68F3 x3)/\((appE2 x3.us x3.l=appE2 x3.us x3.l)/\((q68F3 x3)/\((q68F8 x3)/\((q68F8 x3)/\((q68F0 x1)/\((q68F7 x1)/\(((0:Int)=0)/\(((0:Int)=0)/\((0=0/\0=0)/\((q68F5 x1)/\((q68F4 x1)/\((q68F7 x1)/\((q68F2 x1)/\((q68F0 x1)/\True))))))))))))))))))))))))))))))))))))))))
theorem q68f9 {x1:RgX} {x3:IdX} {x6:UX} {x7:UX}:q68F9 x1 x3 x6 x7:=⟨rfl,q68f0,rfl,rfl,rfl,rfl,q68f1,q68f1,q68f2,q68f3,q68f4,q68f5,rfl,rfl,rfl,rfl,q68f6,q68f6,q68f2,q68f7,q68f4,q68f5,rfl,rfl,rfl,q68f3,rfl,q68f3,q68f8,q68f8,q68f0,q68f7,rfl,rfl,⟨rfl,rfl⟩,q68f5,q68f4,q68f7,q68f2,q68f0,trivial⟩
abbrev q68F10 (x1:RgX) (x3:IdX):Prop:=(((RLe (appU x3.us x3.l).length (appU x3.us x3.l).length)/\(RowsEq kU (appU x3.us x3.l).length (encL encU (appU x3.us x3.l)) (encL encU (appU x3.us x3.l))))/\((q68F5 x1)/\(((RLe x1.g.es.length x1.g.es.length)/\(RowsEq [.int .i64,.int .i64,.int .i64] x1.g.es.length (encL encE x1.g.es) (encL encE x1.g.es)))/\(((RLe x1.ts.length x1.ts.length)/\(RI x1.ts.length x1.ts x1.ts))/\(((RLe x1.us.length x1.us.length)/\(RowsEq kU x1.us.length (encL encU x1.us) (encL encU x1.us)))/\(((RLe x1.of.length x1.of.length)/\(RI x1.of.length x1.of x1.of))/\(((RLe x1.l.length x1.l.length)/\(RowsEq [.int .i64,.int .i64] x1.l.length (encL encM x1.l) (encL encM x1.l)))/\True)))))))
theorem q68f10 {x1:RgX} {x3:IdX}:q68F10 x1 x3:=⟨⟨rl,rr⟩,q68f5,⟨rl,rr⟩,⟨rl,rr⟩,⟨rl,rr⟩,⟨rl,rr⟩,⟨rl,rr⟩,trivial⟩
set_option maxRecDepth 100000 in
theorem rg_keeps:Keeps cfgRg Tryz.f18 rgC rgI:=Eq.mp (show(∀ x1:RgX,((RgOk x1)->(∃ x3:IdX,(((x3.us.length<=(1000:Nat))/\(x3.l.length<=(1000:Nat)))/\(((0=0/\x1.us.length=x3.us.length)/\((0=0/\x1.l.length=x3.l.length)/\True))/\(((RW kU x3.us.length x1.us.length (encL encU x1.us) (encL encU x3.us))/\((RW [.int .i64,.int .i64] x3.l.length x1.l.length (encL encM x1.l) (encL encM x3.l))/\True))/\(CB (decide (appE2 x3.us x3.l≠(0:Int))) ((((0:Int)=Prod.fst (gnR (RgX.n x1)))/\(((0:Int)=Prod.snd (gnR (RgX.n x1)))/\True))/\True) (∃ x6:UX,((UXok x6)/\(((((x1.g.n:Int)=(x6.g.n:Int))/\((0=0/\x1.g.es.length=x6.g.es.length)/\True))/\((0=0/\x1.ts.length=x6.ts.length)/\((0=0/\x1.us.length=x6.us.length)/\((0=0/\x1.of.length=x6.of.length)/\True))))/\(((RW [.int .i64,.int .i64,.int .i64] x6.g.es.length x1.g.es.length (encL encE x1.g.es) (encL encE x6.g.es))/\((RW [.int .i64] x6.ts.length x1.ts.length (encL encI x1.ts) (encL encI x6.ts))/\((RW kU x6.us.length x1.us.length (encL encU x1.us) (encL encU x6.us))/\((RW [.int .i64] x6.of.length x1.of.length (encL encI x1.of) (encL encI x6.of))/\True))))/\(∃ x7:UX,((UXok x7)/\(((((x1.g.n:Int)=(x7.g.n:Int))/\((0=0/\x1.g.es.length=x7.g.es.length)/\True))/\((0=0/\x1.ts.length=x7.ts.length)/\((0=0/\((appU x3.us x3.l).length=x7.us.length))/\((0=0/\x1.of.length=x7.of.length)/\True))))/\(((RW [.int .i64,.int .i64,.int .i64] x7.g.es.length x1.g.es.length (encL encE x1.g.es) (encL encE x7.g.es))/\((RW [.int .i64] x7.ts.length x1.ts.length (encL encI x1.ts) (encL encI x7.ts))/\((RW kU x7.us.length (appU x3.us x3.l).length (encL encU (appU x3.us x3.l)) (encL encU x7.us))/\((RW [.int .i64] x7.of.length x1.of.length (encL encI x1.of) (encL encI x7.of))/\True))))/\(∃ x8:Nat,((((x8<=x1.l.length)/\(okMs x1.us x1.l=true))/\((((0:Int)=gaL (RgX.n x1) x8)/\((0=(x8:Int))/\(q68F9 x1 x3 x6 x7)))/\(q68F10 x1 x3)))/\(∀ x9:Nat,(((x9<=x1.l.length)/\(okMs x1.us x1.l=true))->(CB (decide ((x9:Int)<(x1.l.length:Int))) ((Ix (x9:Int) (x1.l.length:Int))/\((0+Int.toNat (x9:Int)<x1.l.length)/\(∃ x12:TkX,((TkOk x12)/\(((((x1.g.n:Int)=(x12.g.n:Int))/\((0=0/\x1.g.es.length=x12.g.es.length)/\True))/\((0=0/\x1.ts.length=x12.ts.length)/\((0=0/\x1.us.length=x12.us.length)/\(((Prod.fst (x1.l.getD (0+Int.toNat (x9:Int)) default)=Prod.fst x12.m)/\((Prod.snd (x1.l.getD (0+Int.toNat (x9:Int)) default)=Prod.snd x12.m)/\True))/\True))))/\(((RW [.int .i64,.int .i64,.int .i64] x12.g.es.length x1.g.es.length (encL encE x1.g.es) (encL encE x12.g.es))/\((RW [.int .i64] x12.ts.length x1.ts.length (encL encI x1.ts) (encL encI x12.ts))/\((RW kU x12.us.length x1.us.length (encL encU x1.us) (encL encU x12.us))/\True)))/\((R6 ((x9:Int)+1))/\(∃ x13:Nat,((x1.l.length-x13<x1.l.length-x9)/\(((x13<=x1.l.length)/\(okMs x1.us x1.l=true))/\(((max (gaL (RgX.n x1) x9) (tkU x12)=gaL (RgX.n x1) x13)/\(((x9:Int)+1=(x13:Int))/\(q68F9 x1 x3 x6 x7)))/\(q68F10 x1 x3)))))))))))) (CB (decide (Prod.fst (worstU x6.g x6.ts x6.us x6.of)=Prod.fst (worstU x7.g x7.ts x7.us x7.of))) ((((0:Int)=Prod.fst (gnR (RgX.n x1)))/\((gaL (RgX.n x1) x9=Prod.snd (gnR (RgX.n x1)))/\True))/\True) (CB (decide (Prod.fst (worstU x6.g x6.ts x6.us x6.of)=(4611686018427387904:Int))) ((((4611686018427387904:Int)=Prod.fst (gnR (RgX.n x1)))/\((gaL (RgX.n x1) x9=Prod.snd (gnR (RgX.n x1)))/\True))/\True) (CB (decide (Prod.fst (worstU x7.g x7.ts x7.us x7.of)=(4611686018427387904:Int))) ((((-4611686018427387904:Int)=Prod.fst (gnR (RgX.n x1)))/\((gaL (RgX.n x1) x9=Prod.snd (gnR (RgX.n x1)))/\True))/\True) ((R6 (Prod.fst (worstU x6.g x6.ts x6.us x6.of)-Prod.fst (worstU x7.g x7.ts x7.us x7.of)))/\(((Prod.fst (worstU x6.g x6.ts x6.us x6.of)-Prod.fst (worstU x7.g x7.ts x7.us x7.of)=Prod.fst (gnR (RgX.n x1)))/\((gaL (RgX.n x1) x9=Prod.snd (gnR (RgX.n x1)))/\True))/\True)))))))))))))))))))))))))=(Keeps cfgRg Tryz.f18 rgC rgI) by kernel_rfl) (fun x1=>fun h2=>⟨({ us:=RgX.us x1,l:=RgX.l x1:IdX }),⟨h2.us,h2.l⟩,⟨⟨rfl,rfl⟩,⟨rfl,rfl⟩,trivial⟩,⟨⟨rl,rr⟩,⟨rl,rr⟩,trivial⟩,fun g4=>have h4:=dT g4;⟨⟨((congrArg Prod.fst (gn_n (x:=x1.n) (gn_e (x:=x1.n) h4))).symm),((congrArg Prod.snd (gn_n (x:=x1.n) (gn_e (x:=x1.n) h4))).symm),trivial⟩,trivial⟩,fun g5=>have h5:=dF g5;⟨({ g:=RgX.g x1,ts:=RgX.ts x1,us:=RgX.us x1,of:=RgX.of x1:UX }),(rg_u h2),⟨⟨rfl,⟨rfl,rfl⟩,trivial⟩,⟨rfl,rfl⟩,⟨rfl,rfl⟩,⟨rfl,rfl⟩,trivial⟩,⟨⟨rl,rr⟩,⟨rl,rr⟩,⟨rl,rr⟩,⟨rl,rr⟩,trivial⟩,({ g:=RgX.g x1,ts:=RgX.ts x1,us:=appU (RgX.us x1) (RgX.l x1),of:=RgX.of x1:UX }),(rg_v h2),⟨⟨rfl,⟨rfl,rfl⟩,trivial⟩,⟨rfl,rfl⟩,⟨rfl,rfl⟩,⟨rfl,rfl⟩,trivial⟩,⟨⟨rl,rr⟩,⟨rl,rr⟩,⟨rl,rr⟩,⟨rl,rr⟩,trivial⟩,((0:Nat)),⟨⟨(by omega),(rg_m h5)⟩,⟨rfl,(by omega),q68f9⟩,q68f10⟩,fun x9=>fun h10=>⟨fun g11=>have h11:=dT g11;⟨⟨(by omega),(by omega)⟩,(by omega),({ g:=RgX.g x1,ts:=RgX.ts x1,us:=RgX.us x1,m:=List.getD (RgX.l x1) ((0:Nat)+Int.toNat (↑x9:Int)) default:TkX }),(⟨h2.g,h2.n,h2.us⟩),⟨⟨rfl,⟨rfl,rfl⟩,trivial⟩,⟨rfl,rfl⟩,⟨rfl,rfl⟩,⟨rfl,rfl,trivial⟩,trivial⟩,⟨⟨rl,rr⟩,⟨rl,rr⟩,⟨rl,rr⟩,trivial⟩,⟨(by omega),(by have:=h2.l;omega)⟩,(x9+(1:Nat)),(by omega),⟨(by omega),(by grind)⟩,⟨(rg_s h2 h10.2 h11),(by omega),q68f9⟩,q68f10⟩,fun g14=>have h14:=dF g14;⟨fun g15=>have h15:=dT g15;⟨⟨(gn_f (x:=x1.n) h10.2 (gd_0 h15)),(gn_l (x:=x1.n) h10 h14),trivial⟩,trivial⟩,fun g16=>have h16:=dF g16;⟨fun g17=>have h17:=dT g17;⟨⟨(gn_f (x:=x1.n) h10.2 (gd_1 h16 h17)),(gn_l (x:=x1.n) h10 h14),trivial⟩,trivial⟩,fun g18=>have h18:=dF g18;⟨fun g19=>have h19:=dT g19;⟨⟨(gn_f (x:=x1.n) h10.2 (gd_2 h16 h18 h19)),(gn_l (x:=x1.n) h10 h14),trivial⟩,trivial⟩,fun g20=>have h20:=dF g20;⟨⟨((rg_d h2).1),((rg_d h2).2)⟩,⟨(gn_f (x:=x1.n) h10.2 (gd_3 h16 h18 h20)),(gn_l (x:=x1.n) h10 h14),trivial⟩,trivial⟩⟩⟩⟩⟩⟩⟩)
theorem rg_good:Good Tryz.prog 18 rgC/\FnOk Tryz.prog 18:=good_of tok conRg (fn:=Tryz.f18) rfl (by decide+kernel) (fun _=>rfl) rg_keeps
end Go.Sym