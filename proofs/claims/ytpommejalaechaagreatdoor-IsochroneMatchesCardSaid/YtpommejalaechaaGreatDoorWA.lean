import Derived.Test.YtpommejalaechaaGreatDoorW8
import Derived.Test.YtpommejalaechaaGreatDoorQ1
import Derived.Test.YtpommejalaechaaGreatDoorXD
namespace Go.Sym
set_option linter.unusedVariables false
set_option linter.unusedSimpArgs false
open Go.Proofs
set_option maxRecDepth 100000
set_option maxHeartbeats 4000000
def allL (n:Nat):List Int:=(List.range n).map fun(i:Nat)=>(i:Int)
theorem allL_len (n:Nat):(allL n).length=n:=by simp[allL]
theorem allL_succ (n:Nat):allL (n+1)=allL n++[(n:Int)]:=by unfold allL;rw[List.range_succ,List.map_append];rfl
def qallC:CT where
 X:=Nat
 pre:=fun n=>n<=12
 args:=fun n=>[.i .i64 n]
 g0:=fun _=>[]
 res:=fun n=>.sl 1 0 n
 g1:=fun n=>[(1,.rows .own k1 n (encL encI (allL n)))]
def qallI (n:Nat) (id:Nat):Option Inv:=match id with
 |0=>some { X:=Nat,ok:=fun k=>k<=n,fr:=fun k=>[(4,.i .i64 k),(3,.sl 61 0 k)],hp:=fun k=>[(61,.rows .own k1 k (encL encI (allL k)))],me:=fun k=>n-k }
 |_=>none
theorem all_rows (k:Nat):RowsEq k1 (k+1) (appRows k (encL encI (allL k)) 0 (litRows [[.i (k:Int)]])) (encL encI (allL (k+1))):=by
 rw[allL_succ];exact rowsEq_push (allL_len k).symm (by rw[allL_len];exact Nat.le_refl _) ⟨rfl,trivial⟩
set_option maxRecDepth 100000 in
theorem qall_keeps:Keeps cfgN0 Tryz.f9 qallC qallI:=Eq.mp (show((∀ x1:Nat,((x1<=(12:Nat))->(∃ x3:Nat,(((x3<=x1)/\(((0=(x3:Int))/\((True/\(0=0/\(x3=(0:Nat))))/\(True/\(((x1:Int)=(x1:Int))/\True))))/\((x3=(0:Nat))/\True)))/\(∀ x4:Nat,((x4<=x1)->(((decide ((x4:Int)<(x1:Int))=true)->(((decide ((x4:Int)<4096)=true)->(((True/\True)/\True)/\((0=0/\((x4<=x4)/\(((1:Nat)<=(1:Nat))/\(x4+(1:Nat)<=(1073741824:Nat)))))/\((((-9223372036854775808:Int)<=(x4:Int)+1)/\((x4:Int)+1<=(9223372036854775807:Int)))/\(∃ x8:Nat,((x1-x8<x1-x4)/\((x8<=x1)/\((((x4:Int)+1=(x8:Int))/\((0=0/\(x4+(1:Nat)=x8))/\(True/\(((x1:Int)=(x1:Int))/\True))))/\(((RLe x8 (x4+(1:Nat)))/\(RowsEq [.int .i64] x8 (appRows x4 (encL encI (allL x4)) 0 (litRows ((D.i (x4:Int)::@List.nil D)::@List.nil (List D)))) (encL encI (allL x8))))/\True)))))))))/\((decide ((x4:Int)<4096)=false)->((0=0/\x4=x1)/\((RLe x1 x4/\(RI x1 (allL x4) (allL x1)))/\True)))))/\((decide ((x4:Int)<(x1:Int))=false)->((0=0/\x4=x1)/\((RLe x1 x4/\(RI x1 (allL x4) (allL x1)))/\True)))))))))))=(Keeps cfgN0 Tryz.f9 qallC qallI) by kernel_rfl) (fun x1=>fun h2=>⟨((0:Nat)),
⟨(by omega),
⟨(by omega),
⟨trivial,rfl,rfl⟩,trivial,rfl,trivial⟩,rfl,trivial⟩,
fun x4=>fun h5=>⟨fun g6=>have h6:=dT g6;⟨fun g7=>have h7:=dT g7;⟨⟨⟨trivial,trivial⟩,trivial⟩,
⟨rfl,
(by omega),
(by omega),
(by omega)⟩,
⟨(by omega),
(by omega)⟩,
(x4+(1:Nat)),
(by omega),
(by omega),
⟨(by omega),
⟨rfl,rfl⟩,trivial,rfl,trivial⟩,
⟨rl,
(all_rows _)⟩,trivial⟩,
fun g9=>have h9:=dF g9;⟨⟨rfl,
(by omega)⟩,
⟨⟨(by omega)⟩,
(by omega)⟩,trivial⟩⟩,
fun g10=>have h10:=dF g10;⟨⟨rfl,
(by omega)⟩,
⟨⟨(by omega)⟩,
(by rw[show x4=x1 by omega];exact rr)⟩,trivial⟩⟩⟩)
theorem qall_good:Good Tryz.prog 9 qallC/\FnOk Tryz.prog 9:=good_of tok conN0 (fn:=Tryz.f9) rfl (by decide+kernel) (fun _=>rfl) qall_keeps
def arA (x:LX):List SV:=[.i .i64 x.a]
set_option maxRecDepth 100000 in
theorem ma_no:Keeps cfgLn Tryz.f3 (law10 arA false) noIv:=Eq.mp (show((∀ x1:LX,((True/\plOk x1.p=false)->(∃ x3:PLX,((plOk x3=false)/\(((x1.p.n=x3.n/\((0=0/\x1.p.es.length=x3.es.length)/\((0=0/\x1.p.ts.length=x3.ts.length)/\((0=0/\x1.p.acts.length=x3.acts.length)/\True))))/\True)/\((((RLe x3.es.length x1.p.es.length)/\(RowsEq [.int .i64,.int .i64,.int .i64] x3.es.length (encL encE x1.p.es) (encL encE x3.es)))/\(((RLe x3.ts.length x1.p.ts.length)/\(RI x3.ts.length x1.p.ts x3.ts))/\(((RLe x3.acts.length x1.p.acts.length)/\(RowsEq [.int .i64,.int .i64,.int .i64] x3.acts.length (encL encA x1.p.acts) (encL encA x3.acts)))/\True)))/\(∃ x4:Unit,(True/\(True/\(True/\(true=true/\True))))))))))))=(Keeps cfgLn Tryz.f3 (law10 arA false) noIv) by kernel_rfl) (fun x1=>fun h2=>⟨(LX.p x1),
(by grind),
⟨⟨rfl,
⟨rfl,rfl⟩,
⟨rfl,rfl⟩,
⟨rfl,rfl⟩,trivial⟩,trivial⟩,
⟨⟨rl,rr⟩,
⟨rl,rr⟩,
⟨rl,rr⟩,trivial⟩,
(default),trivial,trivial,trivial,rfl,trivial⟩)
def LX.ns (x:LX):List Int:=allL x.m.g.n++[x.a]
theorem ns_len (x:LX):x.ns.length=x.m.g.n+1:=by unfold LX.ns;rw[List.length_append,allL_len];rfl
theorem ns_rows (x:LX):RowsEq k1 (x.m.g.n+1) (appRows x.m.g.n (encL encI (allL x.m.g.n)) 0 (litRows [[.i x.a]])) (encL encI x.ns):=by
 unfold LX.ns;exact rowsEq_push (allL_len _).symm (by rw[allL_len];exact Nat.le_refl _) ⟨rfl,trivial⟩
theorem ma_t {x:LX} {s:SD} (hs:MSok (yS x.m s)) (v:Int):tmD (yS x.m s) v=(etm (rF x.m) v).1/\tmS (yS x.m s) v=(etm (rF x.m) v).2:=by
 have e:rF x.m=rF (yS x.m s):=rfl
 rw[e,etm_is hs];exact⟨rfl,rfl⟩
def maI (x:LX) (id:Nat):Option Inv:=match id with
 | 0 => some { X := SD, ok := fun s => s.k <= x.ns.length /\ MSok (yS x.m s), fr := fun s => [(44, .i .i64 s.k), (5, .p 2016 0 0), (42, .sl 191 0 (x.m.g.n + 1))], hp := fun s => (191, .rows .own k1 (x.m.g.n + 1) (encL encI x.ns)) :: lyB 16 x.m s, me := fun s => x.ns.length - s.k,
               inn:=fun s id=>match id with
                |100067=>some (cutT 67 false)
                |_=>none }
 |_=>none
def CA10:List (Nat × Con):=[(5,.one plYC),(6,.one awC),(8,.one srcsC),(7,.one sameC),(9,.one qallC),(10,.one timC),(11,.one etC)]
def cfgMa:Cfg:=⟨T,[],CA10,noInv,14,{}⟩
theorem conMa:ConOk Tryz.prog cfgMa:=ConL.ok (.cons (ConL.one plY_good) (.cons (ConL.one aw_good) (.cons (ConL.one srcs_good) (.cons (ConL.one same_good) (.cons (ConL.one qall_good) (.cons (ConL.one tim_good) (.cons (ConL.one et_good) .nil)))))))
set_option maxRecDepth 100000 in
theorem ma_yes:Keeps cfgMa Tryz.f3 (law10 arA true) maI:=Eq.mp (show((∀ x1:LX,((True/\plOk x1.p=true)->(∃ x3:PLX,((plOk x3=true)/\(((x1.p.n=x3.n/\((0=0/\x1.p.es.length=x3.es.length)/\((0=0/\x1.p.ts.length=x3.ts.length)/\((0=0/\x1.p.acts.length=x3.acts.length)/\True))))/\True)/\((((RLe x3.es.length x1.p.es.length)/\(RowsEq [.int .i64,.int .i64,.int .i64] x3.es.length (encL encE x1.p.es) (encL encE x3.es)))/\(((RLe x3.ts.length x1.p.ts.length)/\(RI x3.ts.length x1.p.ts x3.ts))/\(((RLe x3.acts.length x1.p.acts.length)/\(RowsEq [.int .i64,.int .i64,.int .i64] x3.acts.length (encL encA x1.p.acts) (encL encA x3.acts)))/\True)))/\((false=false->(∃ x5:MS,((x5.src.length=x5.g.n/\(x5.g.n<=(12:Nat)))/\(((0=0/\0=0)/\True)/\((((0=0/\0=0)/\((0=0/\((plM x3).g.es.length=x5.g.es.length))/\((0=0/\((plM x3).g.n=x5.g.n))/\((0=0/\((plM x3).dist.length=x5.dist.length))/\((0=0/\((plM x3).so.length=x5.so.length))/\(((plM x3).od=x5.od)/\True))))))/\((RLe 1 1/\(RowsEq [.sl [.int .i64,.int .i64,.int .i64],.sl [.sl [.int .i64]],.sl [.sl [.int .i64]]] 1 (encG (plM x3).g) (encG x5.g)))/\(((RLe x5.g.es.length (plM x3).g.es.length)/\(RI x5.g.es.length (plM x3).ts x5.ts))/\(((RLe x5.g.n (plM x3).g.n)/\(RowsEq (Kd.bool::[]) x5.g.n (encL encBo (plM x3).src) (encL encBo x5.src)))/\(((RLe x5.dist.length (plM x3).dist.length)/\(RI x5.dist.length (plM x3).dist x5.dist))/\(((RLe x5.so.length (plM x3).so.length)/\(RI x5.so.length (plM x3).so x5.so))/\True))))))/\(∃ x6:LLX,((x6.a.length<=(1073741824:Nat))/\(((0=0/\((srcL x5.src).length=x6.a.length))/\((0=0/\((srcL (plM x3).src).length=x6.b.length))/\True))/\((((RLe x6.a.length (srcL x5.src).length)/\(RI x6.a.length (srcL x5.src) x6.a))/\(((RLe x6.b.length (srcL (plM x3).src).length)/\(RI x6.b.length (srcL (plM x3).src) x6.b))/\True))/\((((!decide (x6.a=x6.b))=true)->(false=true/\True))/\(((!decide (x6.a=x6.b))=false)->(∃ x9:Nat,((x9<=(12:Nat))/\(((x1.p.n=(x9:Int))/\True)/\(True/\(((True/\True)/\True)/\((0=0/\((x9<=x9)/\(((1:Nat)<=(1:Nat))/\(x9+(1:Nat)<=(1073741824:Nat)))))/\(∃ x10:SD,((((x10.k<=(LX.ns x1).length)/\(MSok (yS (LX.m x1) x10)))/\(((0=(x10.k:Int))/\((0=0/\0=0)/\((0=0/\(x9+(1:Nat)=(LX.m x1).g.n+(1:Nat)))/\(((↑(x9+(1:Nat)):Int)=(↑(x9+(1:Nat)):Int))/\(true=true/\((0=0/\0=0)/\((0=0/\0=0)/\((x1.p.n=x1.p.n/\((0=0/\x1.p.es.length=x1.p.es.length)/\((0=0/\x1.p.ts.length=x1.p.ts.length)/\((0=0/\x1.p.acts.length=x1.p.acts.length)/\True))))/\(x1.a=x1.a/\True)))))))))/\(((RLe ((LX.m x1).g.n+(1:Nat)) (x9+(1:Nat)))/\(RowsEq [.int .i64] ((LX.m x1).g.n+(1:Nat)) (appRows x9 (encL encI (allL x9)) 0 (litRows ((D.i x1.a::@List.nil D)::@List.nil (List D)))) (encL encI (LX.ns x1))))/\(((0=0/\0=0)/\((0=0/\((plM x3).g.es.length=(LX.m x1).g.es.length))/\((0=0/\((plM x3).g.n=(LX.m x1).g.n))/\((0=0/\((plM x3).dist.length=x10.dist.length))/\((0=0/\((plM x3).so.length=x10.so.length))/\(((plM x3).od=x10.od)/\True))))))/\(((RLe (LX.m x1).g.es.length (plM x3).g.es.length)/\(RowsEq [.int .i64] (LX.m x1).g.es.length (encL encI (plM x3).ts) (encL encI (LX.m x1).ts)))/\(((RLe (LX.m x1).g.n (plM x3).g.n)/\(RowsEq (Kd.bool::[]) (LX.m x1).g.n (encL encBo (plM x3).src) (encL encBo (LX.m x1).src)))/\(((RLe x10.dist.length (plM x3).dist.length)/\(RI x10.dist.length (plM x3).dist x10.dist))/\(((RLe x10.so.length (plM x3).so.length)/\(RI x10.so.length (plM x3).so x10.so))/\((RLe 1 1/\(RowsEq [.int .i64] 1 (litRows ((D.i x1.a::@List.nil D)::@List.nil (List D))) (litRows ((D.i x1.a::@List.nil D)::@List.nil (List D)))))/\(((RLe (srcL x5.src).length (srcL x5.src).length)/\(RowsEq [.int .i64] (srcL x5.src).length (encL encI (srcL x5.src)) (encL encI (srcL x5.src))))/\((x3.n=x3.n/\((0=0/\((plM x3).g.es.length=(plM x3).g.es.length))/\((0=0/\((plM x3).g.es.length=(plM x3).g.es.length))/\((0=0/\((srcL (plM x3).src).length=(srcL (plM x3).src).length))/\True))))/\((RLe 1 1/\(RowsEq [.sl [.int .i64,.int .i64,.int .i64],.sl [.sl [.int .i64]],.sl [.sl [.int .i64]]] 1 (encG (plM x3).g) (encG (plM x3).g)))/\(((RLe (plM x3).g.es.length (plM x3).g.es.length)/\(RowsEq [.int .i64] (plM x3).g.es.length (encL encI (plM x3).ts) (encL encI (plM x3).ts)))/\(((RLe (srcL (plM x3).src).length (srcL (plM x3).src).length)/\(RowsEq [.int .i64] (srcL (plM x3).src).length (encL encI (srcL (plM x3).src)) (encL encI (srcL (plM x3).src))))/\((x1.p.n=x1.p.n/\((0=0/\x1.p.es.length=x1.p.es.length)/\((0=0/\x1.p.ts.length=x1.p.ts.length)/\((0=0/\x1.p.acts.length=x1.p.acts.length)/\True))))/\(((RLe x1.p.es.length x1.p.es.length)/\(RowsEq [.int .i64,.int .i64,.int .i64] x1.p.es.length (encL encE x1.p.es) (encL encE x1.p.es)))/\(((RLe x1.p.ts.length x1.p.ts.length)/\(RI x1.p.ts.length x1.p.ts x1.p.ts))/\(((RLe x1.p.acts.length x1.p.acts.length)/\(RowsEq [.int .i64,.int .i64,.int .i64] x1.p.acts.length (encL encA x1.p.acts) (encL encA x1.p.acts)))/\True))))))))))))))))))/\(∀ x11:SD,((x11.k<=(LX.ns x1).length/\MSok (yS (LX.m x1) x11))->(((decide ((x11.k:Int)<(↑(x9+(1:Nat)):Int))=true)->((((0:Int)<=(x11.k:Int))/\((x11.k:Int)<(↑((LX.m x1).g.n+(1:Nat)):Int)))/\((0+Int.toNat (x11.k:Int)<(LX.m x1).g.n+(1:Nat))/\(∃ x14:MNx,((MSok x14.m)/\(((0=0/\0=0)/\(((LX.ns x1).getD (0+Int.toNat (x11.k:Int)) default=x14.v)/\True))/\((((0=0/\0=0)/\((0=0/\((LX.m x1).g.es.length=x14.m.g.es.length))/\((0=0/\((LX.m x1).g.n=x14.m.g.n))/\((0=0/\x11.dist.length=x14.m.dist.length)/\((0=0/\x11.so.length=x14.m.so.length)/\(x11.od=x14.m.od/\True))))))/\((RLe 1 1/\(RowsEq [.sl [.int .i64,.int .i64,.int .i64],.sl [.sl [.int .i64]],.sl [.sl [.int .i64]]] 1 (encG (plM x3).g) (encG x14.m.g)))/\(((RLe x14.m.g.es.length (LX.m x1).g.es.length)/\(RI x14.m.g.es.length (LX.m x1).ts x14.m.ts))/\(((RLe x14.m.g.n (LX.m x1).g.n)/\(RowsEq (Kd.bool::[]) x14.m.g.n (encL encBo (LX.m x1).src) (encL encBo x14.m.src)))/\(((RLe x14.m.dist.length x11.dist.length)/\(RI x14.m.dist.length x11.dist x14.m.dist))/\(((RLe x14.m.so.length x11.so.length)/\(RI x14.m.so.length x11.so x14.m.so))/\True))))))/\(∃ x15:FVx,((FXok x15.x)/\((((x3.n=(x15.x.g.n:Int))/\((0=0/\((plM x3).g.es.length=x15.x.g.es.length))/\((0=0/\((plM x3).g.es.length=x15.x.ts.length))/\((0=0/\((srcL (plM x3).src).length=x15.x.src.length))/\True))))/\(((LX.ns x1).getD (0+Int.toNat (x11.k:Int)) default=x15.v)/\True))/\((((RLe x15.x.g.es.length x1.p.es.length)/\(RowsEq [.int .i64,.int .i64,.int .i64] x15.x.g.es.length (encL encE x1.p.es) (encL encE x15.x.g.es)))/\(((RLe x15.x.ts.length (plM x3).g.es.length)/\(RI x15.x.ts.length (plM x3).ts x15.x.ts))/\(((RLe x15.x.src.length (srcL (plM x3).src).length)/\(RI x15.x.src.length (srcL (plM x3).src) x15.x.src))/\True)))/\((((decide (tmD x14.m x14.v≠Prod.fst (etm x15.x x15.v))=false)->(∃ x17:Unit,(True/\((decide (tmS x14.m x14.v≠Prod.snd (etm x15.x x15.v))=false)/\True))))/\((decide (tmD x14.m x14.v≠Prod.fst (etm x15.x x15.v))=true)->(∃ x19:Unit,(True/\(true=false/\True)))))/\(∀ x20:Unit,(True->((((-9223372036854775808:Int)<=(x11.k:Int)+1)/\((x11.k:Int)+1<=(9223372036854775807:Int)))/\(∃ x22:SD,(((LX.ns x1).length-x22.k<(LX.ns x1).length-x11.k)/\(((x22.k<=(LX.ns x1).length)/\(MSok (yS (LX.m x1) x22)))/\((((x11.k:Int)+1=(x22.k:Int))/\((0=0/\0=0)/\((0=0/\((LX.m x1).g.n+(1:Nat)=(LX.m x1).g.n+(1:Nat)))/\(((↑(x9+(1:Nat)):Int)=(↑(x9+(1:Nat)):Int))/\(true=true/\((0=0/\0=0)/\((0=0/\0=0)/\((x1.p.n=x1.p.n/\((0=0/\x1.p.es.length=x1.p.es.length)/\((0=0/\x1.p.ts.length=x1.p.ts.length)/\((0=0/\x1.p.acts.length=x1.p.acts.length)/\True))))/\(x1.a=x1.a/\True)))))))))/\(((RLe ((LX.m x1).g.n+(1:Nat)) ((LX.m x1).g.n+(1:Nat)))/\(RI ((LX.m x1).g.n+(1:Nat)) (LX.ns x1) (LX.ns x1)))/\(((0=0/\0=0)/\((0=0/\(x14.m.g.es.length=(LX.m x1).g.es.length))/\((0=0/\(x14.m.g.n=(LX.m x1).g.n))/\((0=0/\((tmM x14.m x14.v).dist.length=x22.dist.length))/\((0=0/\((tmM x14.m x14.v).so.length=x22.so.length))/\(((tmM x14.m x14.v).od=x22.od)/\True))))))/\(((RLe (LX.m x1).g.es.length (LX.m x1).g.es.length)/\(RowsEq [.int .i64] (LX.m x1).g.es.length (encL encI (LX.m x1).ts) (encL encI (LX.m x1).ts)))/\(((RLe (LX.m x1).g.n (LX.m x1).g.n)/\(RowsEq (Kd.bool::[]) (LX.m x1).g.n (encL encBo (LX.m x1).src) (encL encBo (LX.m x1).src)))/\(((RLe x22.dist.length (tmM x14.m x14.v).dist.length)/\(RI x22.dist.length (tmM x14.m x14.v).dist x22.dist))/\(((RLe x22.so.length (tmM x14.m x14.v).so.length)/\(RI x22.so.length (tmM x14.m x14.v).so x22.so))/\((RLe 1 1/\(RowsEq [.int .i64] 1 (litRows ((D.i x1.a::@List.nil D)::@List.nil (List D))) (litRows ((D.i x1.a::@List.nil D)::@List.nil (List D)))))/\(((RLe (srcL x5.src).length (srcL x5.src).length)/\(RowsEq [.int .i64] (srcL x5.src).length (encL encI (srcL x5.src)) (encL encI (srcL x5.src))))/\((x3.n=x3.n/\((0=0/\((plM x3).g.es.length=(plM x3).g.es.length))/\((0=0/\((plM x3).g.es.length=(plM x3).g.es.length))/\((0=0/\((srcL (plM x3).src).length=(srcL (plM x3).src).length))/\True))))/\((RLe 1 1/\(RowsEq [.sl [.int .i64,.int .i64,.int .i64],.sl [.sl [.int .i64]],.sl [.sl [.int .i64]]] 1 (encG (plM x3).g) (encG (plM x3).g)))/\(((RLe (plM x3).g.es.length (plM x3).g.es.length)/\(RowsEq [.int .i64] (plM x3).g.es.length (encL encI (plM x3).ts) (encL encI (plM x3).ts)))/\(((RLe (srcL (plM x3).src).length (srcL (plM x3).src).length)/\(RowsEq [.int .i64] (srcL (plM x3).src).length (encL encI (srcL (plM x3).src)) (encL encI (srcL (plM x3).src))))/\((x1.p.n=x1.p.n/\((0=0/\x1.p.es.length=x1.p.es.length)/\((0=0/\x1.p.ts.length=x1.p.ts.length)/\((0=0/\x1.p.acts.length=x1.p.acts.length)/\True))))/\(((RLe x1.p.es.length x1.p.es.length)/\(RowsEq [.int .i64,.int .i64,.int .i64] x1.p.es.length (encL encE x1.p.es) (encL encE x1.p.es)))/\(((RLe x1.p.ts.length x1.p.ts.length)/\(RI x1.p.ts.length x1.p.ts x1.p.ts))/\(((RLe x1.p.acts.length x1.p.acts.length)/\(RowsEq [.int .i64,.int .i64,.int .i64] x1.p.acts.length (encL encA x1.p.acts) (encL encA x1.p.acts)))/\True)))))))))))))))))))))))))))))))))))/\((decide ((x11.k:Int)<(↑(x9+(1:Nat)):Int))=false)->(∃ x24:Unit,(True/\(True/\(True/\(true=true/\True))))))))))))))))))))))))))))/\(false=true->(false=true/\True))))))))))=(Keeps cfgMa Tryz.f3 (law10 arA true) maI) by kernel_rfl) (fun x1=>fun h2=>⟨(LX.p x1),
(by grind),
⟨⟨rfl,
⟨rfl,rfl⟩,
⟨rfl,rfl⟩,
⟨rfl,rfl⟩,trivial⟩,trivial⟩,
⟨⟨rl,rr⟩,
⟨rl,rr⟩,
⟨rl,rr⟩,trivial⟩,
fun h4=>⟨(LX.m x1),
⟨((lm_ok h2).1.src),
((lm_l h2).2.2.1)⟩,
⟨⟨rfl,rfl⟩,trivial⟩,
⟨⟨⟨rfl,rfl⟩,
⟨rfl,rfl⟩,
⟨rfl,rfl⟩,
⟨rfl,rfl⟩,
⟨rfl,rfl⟩,rfl,trivial⟩,
⟨rl,rr⟩,
⟨⟨(Nat.le_refl _)⟩,rr⟩,
⟨⟨(Nat.le_refl _)⟩,rr⟩,
⟨⟨(Nat.le_refl _)⟩,rr⟩,
⟨⟨(Nat.le_refl _)⟩,rr⟩,trivial⟩,
({ a:=srcL (MS.src (LX.m x1)),b:=srcL (MS.src (LX.m x1)):LLX }),
(by have:(srcL x1.m.src).length<=12:=Nat.le_trans (srcL_len _) (by rw[(lm_ok h2).1.src];exact(lm_l h2).2.2.1);show(srcL x1.m.src).length<=_;omega),
⟨⟨rfl,rfl⟩,
⟨rfl,rfl⟩,trivial⟩,
⟨⟨rl,rr⟩,
⟨⟨(Nat.le_refl _)⟩,rr⟩,trivial⟩,
fun g7=>have h7:=nT g7;⟨(by grind),trivial⟩,
fun g8=>have h8:=nF g8;⟨(Gr.n (MS.g (LX.m x1))),
((lm_l h2).2.2.1),
⟨((lm_ok h2).2.2.symm),trivial⟩,trivial,
⟨⟨trivial,trivial⟩,trivial⟩,
⟨rfl,
(by omega),
(by omega),
(by have:=(lm_l h2).2.2.1;omega)⟩,
(sD (0:Nat) (LX.m x1)),
⟨⟨(Nat.zero_le _),
((lm_ok h2).1)⟩,
⟨rfl,
⟨rfl,rfl⟩,
⟨rfl,rfl⟩,rfl,rfl,
⟨rfl,rfl⟩,
⟨rfl,rfl⟩,
⟨rfl,
⟨rfl,rfl⟩,
⟨rfl,rfl⟩,
⟨rfl,rfl⟩,trivial⟩,rfl,trivial⟩,
⟨rl,
(ns_rows x1)⟩,
⟨⟨rfl,rfl⟩,
⟨rfl,rfl⟩,
⟨rfl,rfl⟩,
⟨rfl,rfl⟩,
⟨rfl,rfl⟩,rfl,trivial⟩,
⟨⟨(Nat.le_refl _)⟩,rr⟩,
⟨⟨(Nat.le_refl _)⟩,rr⟩,
⟨⟨(Nat.le_refl _)⟩,rr⟩,
⟨⟨(Nat.le_refl _)⟩,rr⟩,
⟨rl,rr⟩,
⟨rl,rr⟩,
⟨rfl,
⟨rfl,rfl⟩,
⟨rfl,rfl⟩,
⟨rfl,rfl⟩,trivial⟩,
⟨rl,rr⟩,
⟨rl,rr⟩,
⟨rl,rr⟩,
⟨rfl,
⟨rfl,rfl⟩,
⟨rfl,rfl⟩,
⟨rfl,rfl⟩,trivial⟩,
⟨rl,rr⟩,
⟨rl,rr⟩,
⟨rl,rr⟩,trivial⟩,
fun x11=>fun h12=>⟨fun g13=>have h13:=dT g13;⟨⟨(by omega),
(by omega)⟩,
(by omega),
({ m:=yS (LX.m x1) x11,v:=List.getD (LX.ns x1) (SD.k x11) default:MNx }),
(by grind),
⟨⟨rfl,rfl⟩,
(by grind),trivial⟩,
⟨⟨⟨rfl,rfl⟩,
⟨rfl,rfl⟩,
⟨rfl,rfl⟩,
⟨rfl,rfl⟩,
⟨rfl,rfl⟩,rfl,trivial⟩,
⟨rl,rr⟩,
⟨⟨(Nat.le_refl _)⟩,rr⟩,
⟨⟨(Nat.le_refl _)⟩,rr⟩,
⟨⟨(Nat.le_refl _)⟩,rr⟩,
⟨⟨(Nat.le_refl _)⟩,rr⟩,trivial⟩,
({ x:=rF (LX.m x1),v:=List.getD (LX.ns x1) (SD.k x11) default:FVx }),
((lm_l h2).2.2.2),
⟨⟨((lm_ok h2).2.2.symm),
⟨rfl,rfl⟩,
⟨rfl,
((lm_l h2).2.1.symm)⟩,
⟨rfl,rfl⟩,trivial⟩,
(by grind),trivial⟩,
⟨⟨⟨(Nat.le_of_eq (lm_l h2).1)⟩,
(lm_r h2 _)⟩,
⟨⟨(Nat.le_of_eq (lm_l h2).2.1)⟩,rr⟩,
⟨⟨(Nat.le_refl _)⟩,rr⟩,trivial⟩,
⟨fun g16=>have h16:=dF g16;⟨(default),trivial,
(decide_eq_false (fun q=>q (ma_t h12.2 _).2)),trivial⟩,
fun g18=>have h18:=dT g18;⟨(default),trivial,
(by exact absurd (ma_t h12.2 _).1 ‹_›),trivial⟩⟩,
fun x20=>fun h21=>⟨⟨(by omega),
(by have:=(lm_l h2).2.2.1;omega)⟩,
(sD (SD.k x11+(1:Nat)) (tmM (yS (LX.m x1) x11) (List.getD (LX.ns x1) (SD.k x11) default))),
(by have:=ns_len x1;show x1.ns.length-(x11.k+1)<x1.ns.length-x11.k;omega),
⟨(by have:=ns_len x1;show x11.k+1<=x1.ns.length;omega),
(yS_tm h12.2 _ _)⟩,
⟨rfl,
⟨rfl,rfl⟩,
⟨rfl,rfl⟩,rfl,rfl,
⟨rfl,rfl⟩,
⟨rfl,rfl⟩,
⟨rfl,
⟨rfl,rfl⟩,
⟨rfl,rfl⟩,
⟨rfl,rfl⟩,trivial⟩,rfl,trivial⟩,
⟨rl,rr⟩,
⟨⟨rfl,rfl⟩,
⟨rfl,rfl⟩,
⟨rfl,rfl⟩,
⟨rfl,rfl⟩,
⟨rfl,rfl⟩,rfl,trivial⟩,
⟨rl,rr⟩,
⟨rl,rr⟩,
⟨⟨(Nat.le_refl _)⟩,rr⟩,
⟨⟨(Nat.le_refl _)⟩,rr⟩,
⟨rl,rr⟩,
⟨rl,rr⟩,
⟨rfl,
⟨rfl,rfl⟩,
⟨rfl,rfl⟩,
⟨rfl,rfl⟩,trivial⟩,
⟨rl,rr⟩,
⟨rl,rr⟩,
⟨rl,rr⟩,
⟨rfl,
⟨rfl,rfl⟩,
⟨rfl,rfl⟩,
⟨rfl,rfl⟩,trivial⟩,
⟨rl,rr⟩,
⟨rl,rr⟩,
⟨rl,rr⟩,trivial⟩⟩,
fun g23=>have h23:=dF g23;⟨(default),trivial,trivial,trivial,rfl,trivial⟩⟩⟩⟩,
fun h25=>⟨(by omega),trivial⟩⟩)
theorem maN_good:Good Tryz.prog 3 (law10 arA false)/\FnOk Tryz.prog 3:=good_of tok conLn (fn:=Tryz.f3) rfl (by decide+kernel) (fun _=>rfl) ma_no
theorem maY_good:Good Tryz.prog 3 (law10 arA true)/\FnOk Tryz.prog 3:=good_of tok conMa (fn:=Tryz.f3) rfl (by decide+kernel) (fun _=>rfl) ma_yes
theorem ma_good:Good Tryz.prog 3 ⟨LX,fun _=>True,fun x=>plA x.p::arA x,fun x=>plH x.p,fun _=>.b true,fun _=>[]⟩:=both_b (X:=LX) (t:=fun x:LX=>plOk x.p) maY_good.1 maN_good.1
end Go.Sym