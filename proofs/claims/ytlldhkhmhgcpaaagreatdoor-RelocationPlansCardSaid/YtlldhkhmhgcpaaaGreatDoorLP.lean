import Derived.Test.YtlldhkhmhgcpaaaGreatDoorBE
import Derived.Test.YtlldhkhmhgcpaaaGreatDoorNT
import Derived.Test.YtlldhkhmhgcpaaaGreatDoorXD
namespace Go.Sym
set_option linter.unusedVariables false
set_option linter.unusedSimpArgs false
open Go.Proofs
set_option maxRecDepth 100000
set_option maxHeartbeats 4000000
structure LpX where
 c:CaX
 of:List Int
 m:Int
def lpA (x:LpX):List SV:=[caseA x.c,.sl 100003 0 x.of.length,.i .i64 x.m]
def lpH (x:LpX):List (Nat × Blk):=caseH x.c++[(100003,.rows .bor k1 x.of.length (encL encI x.of))]
def fewP (x:LpX):Prop:=(x.of.length:Int)<=40/\(6<((frL x.c.us).length:Int)∨x.m<0∨3<x.m∨10<((nodesL x.c.g.n x.of).length:Int)∨(((frL x.c.us).length:Int)<=3/\((nodesL x.c.g.n x.of).length:Int)<=5/\x.m<=2))
instance (x:LpX):Decidable (fewP x):=by unfold fewP;infer_instance
def fewC:CT where
 X:=LpX
 pre:=fun x=>netOk x.c=true
 args:=lpA
 g0:=lpH
 res:=fun x=>.b (decide (fewP x))
 g1:=fun _=>[]
def fewI (x:LpX) (id:Nat):Option Inv:=match id with
 |0=>some { X:=Nat,ok:=fun k=>k<=x.c.us.length,fr:=fun k=>[(7,.i .i64 (frA x.c.us k).length),(11,.sl 100002 0 x.c.us.length),(12,.i .i64 x.c.us.length),(13,.i .i64 k)],hp:=fun k=>[],me:=fun k=>x.c.us.length-k }
 |_=>none
def cfgFe:Cfg:=⟨T,[],[(23,.one vnodesC)],noInv,70,{ kn:=true }⟩
theorem conFe:ConOk Tryz.prog cfgFe:=ConL.ok (.cons (ConL.one rnodes_good) .nil)
theorem fe_f {x:LpX} {k:Nat} (h:¬ (k:Int)<x.c.us.length):(frA x.c.us k).length=(frL x.c.us).length:=by rw[frA_t h]
def fewK (x:LpX) (f:Nat):Prop:=(x.of.length:Int)<=40/\(6<(f:Int)∨x.m<0∨3<x.m∨10<((nodesL x.c.g.n x.of).length:Int)∨((f:Int)<=3/\((nodesL x.c.g.n x.of).length:Int)<=5/\x.m<=2))
theorem fewK_e {x:LpX} {k:Nat} (h:¬ (k:Int)<x.c.us.length):fewK x (frA x.c.us k).length↔fewP x:=by rw[fe_f h];exact Iff.rfl
theorem fe_y {x:LpX} {k:Nat} (h:¬ (k:Int)<x.c.us.length) (q:fewK x (frA x.c.us k).length):true=decide (fewP x):=(decide_eq_true ((fewK_e h).1 q)).symm
theorem fe_n {x:LpX} {k:Nat} (h:¬ (k:Int)<x.c.us.length) (q:¬ fewK x (frA x.c.us k).length):false=decide (fewP x):=(decide_eq_false (fun r=>q ((fewK_e h).2 r))).symm
theorem fe_d {x:LpX} {k:Nat} (h:¬ (k:Int)<x.c.us.length) (h12:(x.of.length:Int)<=40) (h13:¬ 6<((frA x.c.us k).length:Int)) (h14:¬ x.m<0) (h15:¬ 3<x.m) (h17:¬ 10<((nodesL x.c.g.n x.of).length:Int)) (h18:((frA x.c.us k).length:Int)<=3) (h20:((nodesL x.c.g.n x.of).length:Int)<=5):decide (x.m<=2)=decide (fewP x):=
 decide_eq_decide.2 ⟨fun q=>(fewK_e h).1 ⟨h12,.inr (.inr (.inr (.inr ⟨h18,h20,q⟩)))⟩,fun q=>by
  rcases((fewK_e h).2 q).2 with r|r|r|r|r
  ·exact absurd r h13
  ·exact absurd r h14
  ·exact absurd r h15
  ·exact absurd r h17
  ·exact r.2.2⟩
abbrev q85F0 (x1:LpX):Prop:=(0=0/\x1.c.us.length=x1.c.us.length)
theorem q85f0 {x1:LpX}:q85F0 x1:=⟨rfl,rfl⟩
abbrev q85F1 (x1:LpX):Prop:=(x1.c.n=x1.c.n/\((0=0/\x1.c.es.length=x1.c.es.length)/\((0=0/\x1.c.ts.length=x1.c.ts.length)/\((q85F0 x1)/\True))))
theorem q85f1 {x1:LpX}:q85F1 x1:=⟨rfl,⟨rfl,rfl⟩,⟨rfl,rfl⟩,q85f0,trivial⟩
abbrev q85F2 (x1:LpX):Prop:=((0=0/\((3:Nat)=(3:Nat)))/\(false=false/\((0=0/\0=0)/\((q85F1 x1)/\((0=0/\x1.of.length=x1.of.length)/\(x1.m=x1.m/\True))))))
theorem q85f2 {x1:LpX}:q85F2 x1:=⟨⟨rfl,rfl⟩,rfl,⟨rfl,rfl⟩,q85f1,⟨rfl,rfl⟩,rfl,trivial⟩
abbrev q85F3 (x1:LpX):Prop:=((q85F1 x1)/\(((RLe x1.c.es.length x1.c.es.length)/\(RowsEq [.int .i64,.int .i64,.int .i64] x1.c.es.length (encL encE x1.c.es) (encL encE x1.c.es)))/\(((RLe x1.c.ts.length x1.c.ts.length)/\(RI x1.c.ts.length x1.c.ts x1.c.ts))/\(((RLe x1.c.us.length x1.c.us.length)/\(RowsEq kU x1.c.us.length (encL encU x1.c.us) (encL encU x1.c.us)))/\(((RLe x1.of.length x1.of.length)/\(RI x1.of.length x1.of x1.of))/\True)))))
theorem q85f3 {x1:LpX}:q85F3 x1:=⟨q85f1,⟨rl,rr⟩,⟨rl,rr⟩,⟨rl,rr⟩,⟨rl,rr⟩,trivial⟩
set_option maxRecDepth 100000 in
theorem few_keeps:Keeps cfgFe Tryz.f8 fewC fewI:=Eq.mp (show(∀ x1:LpX,((netOk x1.c=true)->(∃ x3:Nat,(((x3<=x1.c.us.length)/\(((0=(↑(frA x1.c.us x3).length:Int))/\((q85F0 x1)/\(((x1.c.us.length:Int)=(x1.c.us.length:Int))/\((0=(x3:Int))/\(q85F2 x1)))))/\(q85F3 x1)))/\(∀ x4:Nat,((x4<=x1.c.us.length)->(CB (decide ((x4:Int)<(x1.c.us.length:Int))) ((Ix (x4:Int) (x1.c.us.length:Int))/\((0+Int.toNat (x4:Int)<x1.c.us.length)/\(CB (decide ((x1.c.us.getD (0+Int.toNat (x4:Int)) default).st=(1:Int))) ((R6 ((↑(frA x1.c.us x4).length:Int)+1))/\((R6 ((x4:Int)+1))/\(∃ x8:Nat,((x1.c.us.length-x8<x1.c.us.length-x4)/\((x8<=x1.c.us.length)/\((((↑(frA x1.c.us x4).length:Int)+1=(↑(frA x1.c.us x8).length:Int))/\((q85F0 x1)/\(((x1.c.us.length:Int)=(x1.c.us.length:Int))/\(((x4:Int)+1=(x8:Int))/\(q85F2 x1)))))/\(q85F3 x1))))))) ((R6 ((x4:Int)+1))/\(∃ x10:Nat,((x1.c.us.length-x10<x1.c.us.length-x4)/\((x10<=x1.c.us.length)/\((((↑(frA x1.c.us x4).length:Int)=(↑(frA x1.c.us x10).length:Int))/\((q85F0 x1)/\(((x1.c.us.length:Int)=(x1.c.us.length:Int))/\(((x4:Int)+1=(x10:Int))/\(q85F2 x1)))))/\(q85F3 x1))))))))) (CB (decide ((x1.of.length:Int)<=(40:Int))) (CN (decide (6<(↑(frA x1.c.us x4).length:Int))) (CN (decide (x1.m<(0:Int))) (CN (decide (3<x1.m)) (∃ x16:NOX,((x16.of.length<=(1048576:Nat))/\((((x1.c.n=(x16.g.n:Int))/\((0=0/\x1.c.es.length=x16.g.es.length)/\True))/\((0=0/\x1.of.length=x16.of.length)/\True))/\(((RW [.int .i64,.int .i64,.int .i64] x16.g.es.length x1.c.es.length (encL encE x1.c.es) (encL encE x16.g.es))/\((RW [.int .i64] x16.of.length x1.of.length (encL encI x1.of) (encL encI x16.of))/\True))/\(CN (decide (10<(↑(nodesL x16.g.n x16.of).length:Int))) (CB (decide ((↑(frA x1.c.us x4).length:Int)<=(3:Int))) (∃ x19:NOX,((x19.of.length<=(1048576:Nat))/\((((x1.c.n=(x19.g.n:Int))/\((0=0/\x1.c.es.length=x19.g.es.length)/\True))/\((0=0/\x1.of.length=x19.of.length)/\True))/\(((RW [.int .i64,.int .i64,.int .i64] x19.g.es.length x1.c.es.length (encL encE x1.c.es) (encL encE x19.g.es))/\((RW [.int .i64] x19.of.length x1.of.length (encL encI x1.of) (encL encI x19.of))/\True))/\(CB (decide ((↑(nodesL x19.g.n x19.of).length:Int)<=(5:Int))) ((decide (x1.m<=(2:Int))=decide (fewP x1))/\True) ((false=decide (fewP x1))/\True)))))) ((false=decide (fewP x1))/\True)) ((true=decide (fewP x1))/\True)))))) ((true=decide (fewP x1))/\True)) ((true=decide (fewP x1))/\True)) ((true=decide (fewP x1))/\True)) ((false=decide (fewP x1))/\True)))))))))=(Keeps cfgFe Tryz.f8 fewC fewI) by kernel_rfl) (fun x1=>fun h2=>⟨((0:Nat)),⟨(by omega),⟨rfl,q85f0,rfl,(by omega),q85f2⟩,q85f3⟩,fun x4=>fun h5=>⟨fun g6=>have h6:=dT g6;⟨⟨(by omega),(by omega)⟩,(by omega),fun g7=>have h7:=dT g7;⟨⟨(by omega),(by have:=(net_gok h2).2.2.2.2;have:=frA_len x1.c.us x4;omega)⟩,⟨(by omega),(by have:=(net_gok h2).2.2.2.2;have:=frA_len x1.c.us x4;omega)⟩,(x4+(1:Nat)),(by omega),(by omega),⟨(by exact fr_y h6 ‹_›),q85f0,rfl,(by omega),q85f2⟩,q85f3⟩,fun g9=>have h9:=dF g9;⟨⟨(by omega),(by have:=(net_gok h2).2.2.2.2;have:=frA_len x1.c.us x4;omega)⟩,(x4+(1:Nat)),(by omega),(by omega),⟨(by exact fr_n h6 ‹_›),q85f0,rfl,(by omega),q85f2⟩,q85f3⟩⟩,fun g11=>have h11:=dF g11;⟨fun g12=>have h12:=dT g12;⟨fun g13=>have h13:=dF g13;⟨fun g14=>have h14:=dF g14;⟨fun g15=>have h15:=dF g15;⟨({ g:=CaX.g (LpX.c x1),of:=LpX.of x1:NOX }),(by(try dsimp only at *);omega),⟨⟨((net_gok h2).2.2.1.symm),⟨rfl,rfl⟩,trivial⟩,⟨rfl,rfl⟩,trivial⟩,⟨⟨⟨(Nat.le_refl _)⟩,rr⟩,⟨rl,rr⟩,trivial⟩,fun g17=>have h17:=dF g17;⟨fun g18=>have h18:=dT g18;⟨({ g:=CaX.g (LpX.c x1),of:=LpX.of x1:NOX }),(by(try dsimp only at *);omega),⟨⟨((net_gok h2).2.2.1.symm),⟨rfl,rfl⟩,trivial⟩,⟨rfl,rfl⟩,trivial⟩,⟨⟨⟨(Nat.le_refl _)⟩,rr⟩,⟨rl,rr⟩,trivial⟩,fun g20=>have h20:=dT g20;⟨(fe_d h11 h12 h13 h14 h15 h17 h18 h20),trivial⟩,fun g21=>have h21:=dF g21;⟨(fe_n h11 (fun q=>q.2.elim h13 fun q=>q.elim h14 fun q=>q.elim h15 fun q=>q.elim h17 fun q=>h21 q.2.1)),trivial⟩⟩,fun g22=>have h22:=dF g22;⟨(fe_n h11 (fun q=>q.2.elim h13 fun q=>q.elim h14 fun q=>q.elim h15 fun q=>q.elim h17 fun q=>h22 q.1)),trivial⟩⟩,fun g23=>have h23:=dT g23;⟨(fe_y h11 ⟨h12,.inr (.inr (.inr (.inl h23)))⟩),trivial⟩⟩,fun g24=>have h24:=dT g24;⟨(fe_y h11 ⟨h12,.inr (.inr (.inl h24))⟩),trivial⟩⟩,fun g25=>have h25:=dT g25;⟨(fe_y h11 ⟨h12,.inr (.inl h25)⟩),trivial⟩⟩,fun g26=>have h26:=dT g26;⟨(fe_y h11 ⟨h12,.inl h26⟩),trivial⟩⟩,fun g27=>have h27:=dF g27;⟨(fe_n h11 (fun q=>h27 q.1)),trivial⟩⟩⟩⟩)
theorem few_good:Good Tryz.prog 8 fewC/\FnOk Tryz.prog 8:=good_of tok conFe (fn:=Tryz.f8) rfl (by decide+kernel) (fun _=>rfl) few_keeps
def lpC (b:Bool):CT:=⟨LpX,fun x=>x.of.length<=9223372036854775807/\netOk x.c=b,lpA,lpH,fun _=>.b true,fun _=>[]⟩
def lpB (x:LpX):BeX:=⟨x.c.g,x.c.ts,x.c.us,x.of,x.m⟩
def CLp (b:CT):List (Nat × Con):=[(6,.one wakesC),(7,.one b),(8,.one fewC),(10,.one ofLC),(9,.one plC),(11,.one beC),(13,.one owC),(12,.one smeC)]
def cfgLp1:Cfg:=⟨T,[],CLp netYesC,noInv,70,{ kn:=true }⟩
def cfgLp0:Cfg:=⟨T,[],CLp netNoC,noInv,70,{ kn:=true }⟩
theorem conLp {b:CT} (h:Good Tryz.prog 7 b/\FnOk Tryz.prog 7):ConL Tryz.prog (CLp b):=.cons (ConL.one wakes_good) (.cons (ConL.one h) (.cons (ConL.one few_good) (.cons (ConL.one ofL_good) (.cons (ConL.one pl_good) (.cons (ConL.one be_good) (.cons (ConL.one pn_good) (.cons (ConL.one sme_good) .nil)))))))
theorem conLp1:ConOk Tryz.prog cfgLp1:=ConL.ok (conLp netYes_good)
theorem conLp0:ConOk Tryz.prog cfgLp0:=ConL.ok (conLp netNo_good)
theorem lp_be {x:LpX} (h:netOk x.c=true) (hf:fewP x):BeOk (lpB x):=by
 obtain⟨h1,h2,h3,h4,h5⟩:=net_gok h
 exact⟨h1,h2,h5,by have:=hf.1;show x.of.length<=1000;omega⟩
theorem lp_pl {x:LpX} (h:netOk x.c=true):PlOk (beP (lpB x)):=by
 obtain⟨h1,h2,h3,h4,h5⟩:=net_gok h
 exact⟨h1,h2,by show x.c.us.length<=12;omega,ofW_ok _ _⟩
theorem lp_len {x:BeX} (h:BeOk x):(resB (beP x)).best.length<=3:=by
 by_cases h1:badP (beP x)
 ·rw[(res_bad h1).1];exact Nat.zero_le _
 ·by_cases h2:manP (beP x)
  ·rw[(res_man h1 h2).1];exact Nat.zero_le _
  ·rw[(res_ok h1 h2).1]
   obtain⟨l,⟨a,_⟩,e,_⟩:=bst_spec (be_sr h) (be_d h1).1
   rw[e]
   have:=(be_d h1).2.2
   have a:l.length<=x.m.toNat:=a
   show l.length<=3
   omega
set_option maxRecDepth 100000 in
theorem lp_no:Keeps cfgLp0 Tryz.f3 (lpC false) noIv:=Eq.mp (show(∀ x1:LpX,(((x1.of.length<=(9223372036854775807:Nat))/\(netOk x1.c=false))->(∃ x3:Unit,(True/\(True/\(True/\(CB false (false=true/\True) (∃ x6:CaX,((netOk x6=false)/\(((x1.c.n=x6.n/\((0=0/\x1.c.es.length=x6.es.length)/\((0=0/\x1.c.ts.length=x6.ts.length)/\((0=0/\x1.c.us.length=x6.us.length)/\True))))/\True)/\(((RW [.int .i64,.int .i64,.int .i64] x6.es.length x1.c.es.length (encL encE x1.c.es) (encL encE x6.es))/\((RW [.int .i64] x6.ts.length x1.c.ts.length (encL encI x1.c.ts) (encL encI x6.ts))/\((RW kU x6.us.length x1.c.us.length (encL encU x1.c.us) (encL encU x6.us))/\True)))/\(true=true/\True))))))))))))=(Keeps cfgLp0 Tryz.f3 (lpC false) noIv) by kernel_rfl) (fun x1=>fun h2=>⟨(default),trivial,trivial,trivial,fun h4=>⟨(by omega),trivial⟩,fun h5=>⟨(LpX.c x1),(by grind),⟨⟨rfl,⟨rfl,rfl⟩,⟨rfl,rfl⟩,⟨rfl,rfl⟩,trivial⟩,trivial⟩,⟨⟨rl,rr⟩,⟨rl,rr⟩,⟨rl,rr⟩,trivial⟩,rfl,trivial⟩⟩)
set_option maxRecDepth 100000 in
theorem lp_yes:Keeps cfgLp1 Tryz.f3 (lpC true) noIv:=Eq.mp (show(∀ x1:LpX,(((x1.of.length<=(9223372036854775807:Nat))/\(netOk x1.c=true))->(∃ x3:Unit,(True/\(True/\(True/\(CB false (false=true/\True) (∃ x6:CaX,((netOk x6=true)/\(((x1.c.n=x6.n/\((0=0/\x1.c.es.length=x6.es.length)/\((0=0/\x1.c.ts.length=x6.ts.length)/\((0=0/\x1.c.us.length=x6.us.length)/\True))))/\True)/\(((RW [.int .i64,.int .i64,.int .i64] x6.es.length x1.c.es.length (encL encE x1.c.es) (encL encE x6.es))/\((RW [.int .i64] x6.ts.length x1.c.ts.length (encL encI x1.c.ts) (encL encI x6.ts))/\((RW kU x6.us.length x1.c.us.length (encL encU x1.c.us) (encL encU x6.us))/\True)))/\(∃ x7:LpX,((netOk x7.c=true)/\(((x1.c.n=x7.c.n/\((0=0/\x1.c.es.length=x7.c.es.length)/\((0=0/\x1.c.ts.length=x7.c.ts.length)/\((0=0/\x1.c.us.length=x7.c.us.length)/\True))))/\((0=0/\x1.of.length=x7.of.length)/\(x1.m=x7.m/\True)))/\(((RW [.int .i64,.int .i64,.int .i64] x7.c.es.length x1.c.es.length (encL encE x1.c.es) (encL encE x7.c.es))/\((RW [.int .i64] x7.c.ts.length x1.c.ts.length (encL encI x1.c.ts) (encL encI x7.c.ts))/\((RW kU x7.c.us.length x1.c.us.length (encL encU x1.c.us) (encL encU x7.c.us))/\((RW [.int .i64] x7.of.length x1.of.length (encL encI x1.of) (encL encI x7.of))/\True))))/\(CB (!decide (fewP x7)) (true=true/\True) (∃ x10:List Int,((x10.length<=(9223372036854775807:Nat))/\(((0=0/\x1.of.length=x10.length)/\True)/\(((RW [.int .i64] x10.length x1.of.length (encL encI x1.of) (encL encI x10))/\True)/\(∃ x11:PlX,((PlOk x11)/\(((0=0/\0=0)/\((0=0/\x1.c.ts.length=x11.ts.length)/\((0=0/\x1.c.us.length=x11.us.length)/\(((szW (ofW x10 x10.length)=szW x11.ws)/\True)/\(x1.m=x11.max/\True)))))/\(((RW [.sl [.int .i64,.int .i64,.int .i64],.sl [.sl [.int .i64]],.sl [.sl [.int .i64]]] 1 1 (encG (CaX.g x6)) (encG x11.g))/\((RW [.int .i64] x11.ts.length x1.c.ts.length (encL encI x1.c.ts) (encL encI x11.ts))/\((RW kU x11.us.length x1.c.us.length (encL encU x1.c.us) (encL encU x11.us))/\((RW [.int .u64] (szW x11.ws) (szW (ofW x10 x10.length)) (encL encW (ofW x10 x10.length)) (encL encW x11.ws))/\True))))/\(∃ x12:BeX,((BeOk x12)/\((((x1.c.n=(x12.g.n:Int))/\((0=0/\x1.c.es.length=x12.g.es.length)/\True))/\((0=0/\x1.c.ts.length=x12.ts.length)/\((0=0/\x1.c.us.length=x12.us.length)/\((0=0/\x1.of.length=x12.of.length)/\(x1.m=x12.m/\True)))))/\(((RW [.int .i64,.int .i64,.int .i64] x12.g.es.length x1.c.es.length (encL encE x1.c.es) (encL encE x12.g.es))/\((RW [.int .i64] x12.ts.length x1.c.ts.length (encL encI x1.c.ts) (encL encI x12.ts))/\((RW kU x12.us.length x1.c.us.length (encL encU x1.c.us) (encL encU x12.us))/\((RW [.int .i64] x12.of.length x1.of.length (encL encI x1.of) (encL encI x12.of))/\True))))/\(CB (decide (resE x11=resE (beP x12))) (CB (decide ((resB x11).worst=(resB (beP x12)).worst)) (∃ x15:List Mv,((x15.length<=(60:Nat))/\(((0=0/\((resB x11).best.length=x15.length))/\True)/\(((RW [.int .i64,.int .i64] x15.length (resB x11).best.length (encL encM (resB x11).best) (encL encM x15))/\True)/\(∃ x16:AhX,(((x16.a.length<=(1000:Nat))/\(x16.b.length<=(1000:Nat)))/\(((0=0/\x15.length=x16.a.length)/\((0=0/\((resB (beP x12)).best.length=x16.b.length))/\True))/\(((RW [.int .i64,.int .i64] x16.a.length x15.length (encL encM x15) (encL encM x16.a))/\((RW [.int .i64,.int .i64] x16.b.length (resB (beP x12)).best.length (encL encM (resB (beP x12)).best) (encL encM x16.b))/\True))/\((decide (x16.a=x16.b)=true)/\True))))))))) (false=true/\True)) (false=true/\True))))))))))))))))))))))))))))))=(Keeps cfgLp1 Tryz.f3 (lpC true) noIv) by kernel_rfl) (fun x1=>fun h2=>⟨(default),trivial,trivial,trivial,fun h4=>⟨(by omega),trivial⟩,fun h5=>⟨(LpX.c x1),(by grind),⟨⟨rfl,⟨rfl,rfl⟩,⟨rfl,rfl⟩,⟨rfl,rfl⟩,trivial⟩,trivial⟩,⟨⟨rl,rr⟩,⟨rl,rr⟩,⟨rl,rr⟩,trivial⟩,(x1),(by grind),⟨⟨rfl,⟨rfl,rfl⟩,⟨rfl,rfl⟩,⟨rfl,rfl⟩,trivial⟩,⟨rfl,rfl⟩,rfl,trivial⟩,⟨⟨rl,rr⟩,⟨rl,rr⟩,⟨rl,rr⟩,⟨rl,rr⟩,trivial⟩,fun g8=>have h8:=nT g8;⟨rfl,trivial⟩,fun g9=>have h9:=nF g9;⟨(LpX.of x1),(by omega),⟨⟨rfl,rfl⟩,trivial⟩,⟨⟨rl,rr⟩,trivial⟩,(beP (lpB x1)),(lp_pl h2.2),⟨⟨rfl,rfl⟩,⟨rfl,rfl⟩,⟨rfl,rfl⟩,⟨rfl,trivial⟩,rfl,trivial⟩,⟨⟨rl,rr⟩,⟨⟨(Nat.le_refl _)⟩,rr⟩,⟨⟨(Nat.le_refl _)⟩,rr⟩,⟨⟨(Nat.le_refl _)⟩,rr⟩,trivial⟩,(lpB x1),(lp_be h2.2 h9),⟨⟨((net_gok h2.2).2.2.1.symm),⟨rfl,rfl⟩,trivial⟩,⟨rfl,rfl⟩,⟨rfl,rfl⟩,⟨rfl,rfl⟩,rfl,trivial⟩,⟨⟨⟨(Nat.le_refl _)⟩,rr⟩,⟨⟨(Nat.le_refl _)⟩,rr⟩,⟨⟨(Nat.le_refl _)⟩,rr⟩,⟨⟨(Nat.le_refl _)⟩,rr⟩,trivial⟩,fun g13=>have h13:=dT g13;⟨fun g14=>have h14:=dT g14;⟨(Bst.best (resB (beP (lpB x1)))),(by have:=lp_len (lp_be h2.2 h9);show(resB (beP (lpB x1))).best.length<=_;omega),⟨⟨rfl,rfl⟩,trivial⟩,⟨⟨rl,rr⟩,trivial⟩,({ a:=Bst.best (resB (beP (lpB x1))),b:=Bst.best (resB (beP (lpB x1))):AhX }),⟨(by have:=lp_len (lp_be h2.2 h9);show(resB (beP (lpB x1))).best.length<=_;omega),(by have:=lp_len (lp_be h2.2 h9);show(resB (beP (lpB x1))).best.length<=_;omega)⟩,⟨⟨rfl,rfl⟩,⟨rfl,rfl⟩,trivial⟩,⟨⟨rl,rr⟩,⟨rl,rr⟩,trivial⟩,(by grind),trivial⟩,fun g17=>have h17:=dF g17;⟨(by omega),trivial⟩⟩,fun g18=>have h18:=dF g18;⟨(by omega),trivial⟩⟩⟩⟩)
theorem lp_good:Good Tryz.prog 3 ⟨LpX,fun x=>x.of.length<=9223372036854775807,lpA,lpH,fun _=>.b true,fun _=>[]⟩/\FnOk Tryz.prog 3:=
 ⟨both_b (b:=fun x:LpX=>netOk x.c) (good_of tok conLp1 (fn:=Tryz.f3) rfl (by decide+kernel) (fun _=>rfl) lp_yes).1 (good_of tok conLp0 (fn:=Tryz.f3) rfl (by decide+kernel) (fun _=>rfl) lp_no).1,Tryz.f3,rfl,by decide+kernel,rfl⟩
end Go.Sym