import Derived.Test.YtpommejalaechaaGreatDoorW8
import Derived.Test.YtpommejalaechaaGreatDoorWL
import Derived.Test.YtpommejalaechaaGreatDoorQ1
import Derived.Test.YtpommejalaechaaGreatDoorWQ
import Derived.Test.YtpommejalaechaaGreatDoorXD
namespace Go.Sym
set_option linter.unusedVariables false
set_option linter.unusedSimpArgs false
open Go.Proofs
set_option maxRecDepth 100000
set_option maxHeartbeats 4000000
theorem wi_out {x:FX} (h:FXok x) {t:Int} {k:Nat} (h1:k<=x.g.n) (h2:¬ (k:Int)<x.g.n):wiAt x.d t k=wiL x.d t:=by
 have hl:x.d.length=x.g.n:=distF_len (netG_ok h.g (wsOk_tt x.g x.ts) true) _
 unfold wiL;rw[hl,show k=x.g.n by omega]
theorem fx_rng {x:FX} (h:FXok x) {v:Nat} (hv:v<x.g.n):0<=x.d.getD v default/\x.d.getD v default<=4611686018427387904:=dist_rng h.g x.ts x.src true hv
def encEw (x:FX) (t:Int) (k:Nat):Bool:=decide (x.d.getD k default<=t/\x.d.getD k default≠4611686018427387904)
def ewC:CT where
 X:=FVx
 pre:=fun x=>FXok x.x/\x.x.g.n<=12
 args:=fun x=>[rmA x.x 100000,.i .i64 x.v]
 g0:=fun x=>rmH x.x 100000
 res:=fun x=>.sl 1 0 (wiL x.x.d x.v).length
 g1:=fun x=>[(1,.rows .own k1 (wiL x.x.d x.v).length (encL encI (wiL x.x.d x.v)))]
def ewI (x:FVx) (id:Nat):Option Inv:=match id with
 | 0 => some { X := Nat, ok := fun k => k <= x.x.g.n, fr := fun k => [(11, .i .i64 k), (5, .sl 91 0 (wiAt x.x.d x.v k).length)], hp := fun k => [(91, .rows .own k1 (wiAt x.x.d x.v k).length (encL encI (wiAt x.x.d x.v k)))], me := fun k => x.x.g.n - k,
               inn:=fun k id=>match id with
                |100022=>some (cutB 22 (encEw x.x x.v k))
                |_=>none }
 |_=>none
set_option maxRecDepth 100000 in
theorem ew_keeps:Keeps cfgW5 Tryz.f16 ewC ewI:=Eq.mp (show((∀ x1:FVx,((FXok x1.x/\x1.x.g.n<=(12:Nat))->(∃ x3:FX,((FXok x3)/\(((((x1.x.g.n:Int)=(x3.g.n:Int))/\((0=0/\x1.x.g.es.length=x3.g.es.length)/\((0=0/\x1.x.ts.length=x3.ts.length)/\((0=0/\x1.x.src.length=x3.src.length)/\True))))/\True)/\((((RLe x3.g.es.length x1.x.g.es.length)/\(RowsEq [.int .i64,.int .i64,.int .i64] x3.g.es.length (encL encE x1.x.g.es) (encL encE x3.g.es)))/\(((RLe x3.ts.length x1.x.ts.length)/\(RI x3.ts.length x1.x.ts x3.ts))/\(((RLe x3.src.length x1.x.src.length)/\(RI x3.src.length x1.x.src x3.src))/\True)))/\(∃ x4:Nat,(((x4<=x1.x.g.n)/\(((0=(x4:Int))/\((True/\(0=0/\((wiAt (FX.d x1.x) x1.v x4).length=(0:Nat))))/\(((x3.g.n:Int)=(x3.g.n:Int))/\((0=0/\x3.g.n=x3.g.n)/\((((x1.x.g.n:Int)=(x1.x.g.n:Int))/\((0=0/\x1.x.g.es.length=x1.x.g.es.length)/\((0=0/\x1.x.ts.length=x1.x.ts.length)/\((0=0/\x1.x.src.length=x1.x.src.length)/\True))))/\(True/\((0=0/\0=0)/\((((x1.x.g.n:Int)=(x1.x.g.n:Int))/\((0=0/\x1.x.g.es.length=x1.x.g.es.length)/\((0=0/\x1.x.ts.length=x1.x.ts.length)/\((0=0/\x1.x.src.length=x1.x.src.length)/\True))))/\(x1.v=x1.v/\True)))))))))/\(((wiAt (FX.d x1.x) x1.v x4).length=(0:Nat))/\(((RLe x3.g.n x3.g.n)/\(RI x3.g.n (FX.d x3) (FX.d x3)))/\((((x1.x.g.n:Int)=(x1.x.g.n:Int))/\((0=0/\x1.x.g.es.length=x1.x.g.es.length)/\((0=0/\x1.x.ts.length=x1.x.ts.length)/\((0=0/\x1.x.src.length=x1.x.src.length)/\True))))/\(((RLe x1.x.g.es.length x1.x.g.es.length)/\(RowsEq [.int .i64,.int .i64,.int .i64] x1.x.g.es.length (encL encE x1.x.g.es) (encL encE x1.x.g.es)))/\(((RLe x1.x.ts.length x1.x.ts.length)/\(RI x1.x.ts.length x1.x.ts x1.x.ts))/\(((RLe x1.x.src.length x1.x.src.length)/\(RI x1.x.src.length x1.x.src x1.x.src))/\True))))))))/\(∀ x5:Nat,((x5<=x1.x.g.n)->(((decide ((x5:Int)<(x3.g.n:Int))=true)->((((0:Int)<=(x5:Int))/\((x5:Int)<(x3.g.n:Int)))/\((0+Int.toNat (x5:Int)<x3.g.n)/\((((decide ((FX.d x3).getD (0+Int.toNat (x5:Int)) default<=x1.v)=true)->(∃ x9:Unit,(True/\((decide ((FX.d x3).getD (0+Int.toNat (x5:Int)) default<4611686018427387904)=decide ((FX.d x1.x).getD x5 default<=x1.v/\(FX.d x1.x).getD x5 default≠(4611686018427387904:Int)))/\True))))/\((decide ((FX.d x3).getD (0+Int.toNat (x5:Int)) default<=x1.v)=false)->(∃ x11:Unit,(True/\((false=decide ((FX.d x1.x).getD x5 default<=x1.v/\(FX.d x1.x).getD x5 default≠(4611686018427387904:Int)))/\True)))))/\(∀ x12:Unit,(True->(((decide ((FX.d x1.x).getD x5 default<=x1.v/\(FX.d x1.x).getD x5 default≠(4611686018427387904:Int))=true)->(((True/\True)/\True)/\((0=0/\(((wiAt (FX.d x1.x) x1.v x5).length<=(wiAt (FX.d x1.x) x1.v x5).length)/\(((1:Nat)<=(1:Nat))/\((wiAt (FX.d x1.x) x1.v x5).length+(1:Nat)<=(1073741824:Nat)))))/\((((-9223372036854775808:Int)<=(x5:Int)+1)/\((x5:Int)+1<=(9223372036854775807:Int)))/\(∃ x15:Nat,((x1.x.g.n-x15<x1.x.g.n-x5)/\((x15<=x1.x.g.n)/\((((x5:Int)+1=(x15:Int))/\((0=0/\((wiAt (FX.d x1.x) x1.v x5).length+(1:Nat)=(wiAt (FX.d x1.x) x1.v x15).length))/\(((x3.g.n:Int)=(x3.g.n:Int))/\((0=0/\x3.g.n=x3.g.n)/\((((x1.x.g.n:Int)=(x1.x.g.n:Int))/\((0=0/\x1.x.g.es.length=x1.x.g.es.length)/\((0=0/\x1.x.ts.length=x1.x.ts.length)/\((0=0/\x1.x.src.length=x1.x.src.length)/\True))))/\(True/\((0=0/\0=0)/\((((x1.x.g.n:Int)=(x1.x.g.n:Int))/\((0=0/\x1.x.g.es.length=x1.x.g.es.length)/\((0=0/\x1.x.ts.length=x1.x.ts.length)/\((0=0/\x1.x.src.length=x1.x.src.length)/\True))))/\(x1.v=x1.v/\True)))))))))/\(((RLe (wiAt (FX.d x1.x) x1.v x15).length ((wiAt (FX.d x1.x) x1.v x5).length+(1:Nat)))/\(RowsEq [.int .i64] (wiAt (FX.d x1.x) x1.v x15).length (appRows (wiAt (FX.d x1.x) x1.v x5).length (encL encI (wiAt (FX.d x1.x) x1.v x5)) 0 (litRows ((D.i (x5:Int)::@List.nil D)::@List.nil (List D)))) (encL encI (wiAt (FX.d x1.x) x1.v x15))))/\(((RLe x3.g.n x3.g.n)/\(RI x3.g.n (FX.d x3) (FX.d x3)))/\((((x1.x.g.n:Int)=(x1.x.g.n:Int))/\((0=0/\x1.x.g.es.length=x1.x.g.es.length)/\((0=0/\x1.x.ts.length=x1.x.ts.length)/\((0=0/\x1.x.src.length=x1.x.src.length)/\True))))/\(((RLe x1.x.g.es.length x1.x.g.es.length)/\(RowsEq [.int .i64,.int .i64,.int .i64] x1.x.g.es.length (encL encE x1.x.g.es) (encL encE x1.x.g.es)))/\(((RLe x1.x.ts.length x1.x.ts.length)/\(RI x1.x.ts.length x1.x.ts x1.x.ts))/\(((RLe x1.x.src.length x1.x.src.length)/\(RI x1.x.src.length x1.x.src x1.x.src))/\True))))))))))))))/\((decide ((FX.d x1.x).getD x5 default<=x1.v/\(FX.d x1.x).getD x5 default≠(4611686018427387904:Int))=false)->((((-9223372036854775808:Int)<=(x5:Int)+1)/\((x5:Int)+1<=(9223372036854775807:Int)))/\(∃ x17:Nat,((x1.x.g.n-x17<x1.x.g.n-x5)/\((x17<=x1.x.g.n)/\((((x5:Int)+1=(x17:Int))/\((0=0/\((wiAt (FX.d x1.x) x1.v x5).length=(wiAt (FX.d x1.x) x1.v x17).length))/\(((x3.g.n:Int)=(x3.g.n:Int))/\((0=0/\x3.g.n=x3.g.n)/\((((x1.x.g.n:Int)=(x1.x.g.n:Int))/\((0=0/\x1.x.g.es.length=x1.x.g.es.length)/\((0=0/\x1.x.ts.length=x1.x.ts.length)/\((0=0/\x1.x.src.length=x1.x.src.length)/\True))))/\(True/\((0=0/\0=0)/\((((x1.x.g.n:Int)=(x1.x.g.n:Int))/\((0=0/\x1.x.g.es.length=x1.x.g.es.length)/\((0=0/\x1.x.ts.length=x1.x.ts.length)/\((0=0/\x1.x.src.length=x1.x.src.length)/\True))))/\(x1.v=x1.v/\True)))))))))/\(((RLe (wiAt (FX.d x1.x) x1.v x17).length (wiAt (FX.d x1.x) x1.v x5).length)/\(RowsEq [.int .i64] (wiAt (FX.d x1.x) x1.v x17).length (encL encI (wiAt (FX.d x1.x) x1.v x5)) (encL encI (wiAt (FX.d x1.x) x1.v x17))))/\(((RLe x3.g.n x3.g.n)/\(RI x3.g.n (FX.d x3) (FX.d x3)))/\((((x1.x.g.n:Int)=(x1.x.g.n:Int))/\((0=0/\x1.x.g.es.length=x1.x.g.es.length)/\((0=0/\x1.x.ts.length=x1.x.ts.length)/\((0=0/\x1.x.src.length=x1.x.src.length)/\True))))/\(((RLe x1.x.g.es.length x1.x.g.es.length)/\(RowsEq [.int .i64,.int .i64,.int .i64] x1.x.g.es.length (encL encE x1.x.g.es) (encL encE x1.x.g.es)))/\(((RLe x1.x.ts.length x1.x.ts.length)/\(RI x1.x.ts.length x1.x.ts x1.x.ts))/\(((RLe x1.x.src.length x1.x.src.length)/\(RI x1.x.src.length x1.x.src x1.x.src))/\True)))))))))))))))))))/\((decide ((x5:Int)<(x3.g.n:Int))=false)->((0=0/\((wiAt (FX.d x1.x) x1.v x5).length=(wiL (FX.d x1.x) x1.v).length))/\(((RLe (wiL (FX.d x1.x) x1.v).length (wiAt (FX.d x1.x) x1.v x5).length)/\(RowsEq [.int .i64] (wiL (FX.d x1.x) x1.v).length (encL encI (wiAt (FX.d x1.x) x1.v x5)) (encL encI (wiL (FX.d x1.x) x1.v))))/\True)))))))))))))))=(Keeps cfgW5 Tryz.f16 ewC ewI) by kernel_rfl) (fun x1=>fun h2=>⟨(FVx.x x1),
(by grind),
⟨⟨rfl,
⟨rfl,rfl⟩,
⟨rfl,rfl⟩,
⟨rfl,rfl⟩,trivial⟩,trivial⟩,
⟨⟨rl,rr⟩,
⟨rl,rr⟩,
⟨rl,rr⟩,trivial⟩,
((0:Nat)),
⟨(by omega),
⟨(by omega),
⟨trivial,rfl,rfl⟩,rfl,
⟨rfl,rfl⟩,
⟨rfl,
⟨rfl,rfl⟩,
⟨rfl,rfl⟩,
⟨rfl,rfl⟩,trivial⟩,trivial,
⟨rfl,rfl⟩,
⟨rfl,
⟨rfl,rfl⟩,
⟨rfl,rfl⟩,
⟨rfl,rfl⟩,trivial⟩,rfl,trivial⟩,rfl,
⟨rl,rr⟩,
⟨rfl,
⟨rfl,rfl⟩,
⟨rfl,rfl⟩,
⟨rfl,rfl⟩,trivial⟩,
⟨rl,rr⟩,
⟨rl,rr⟩,
⟨rl,rr⟩,trivial⟩,
fun x5=>fun h6=>⟨fun g7=>have h7:=dT g7;⟨⟨(by omega),
(by omega)⟩,
(by omega),
⟨fun g8=>have h8:=dT g8;⟨(default),trivial,
(by simp only[nat0]at *;have:=(fx_rng h2.1 (v:=x5) (by omega)).2;apply decide_eq_decide.2;omega),trivial⟩,
fun g10=>have h10:=dF g10;⟨(default),trivial,
(by grind),trivial⟩⟩,
fun x12=>fun h13=>⟨fun g14=>have h14:=dT g14;⟨⟨⟨trivial,trivial⟩,trivial⟩,
⟨rfl,
(by omega),
(by omega),
(by have:=wiAt_len x1.x.d x1.v x5;have:=h2.2;omega)⟩,
⟨(by omega),
(by omega)⟩,
(x5+(1:Nat)),
(by omega),
(by omega),
⟨(by omega),
⟨rfl,
(by(try simp only[Nat.zero_add,Int.toNat_natCast]at *);have e:=wiAt_yes (d:=x1.x.d) (t:=x1.v) (k:=x5) h14.1 h14.2;(simp only[e,List.length_append,List.length_cons,List.length_nil];done))⟩,rfl,
⟨rfl,rfl⟩,
⟨rfl,
⟨rfl,rfl⟩,
⟨rfl,rfl⟩,
⟨rfl,rfl⟩,trivial⟩,trivial,
⟨rfl,rfl⟩,
⟨rfl,
⟨rfl,rfl⟩,
⟨rfl,rfl⟩,
⟨rfl,rfl⟩,trivial⟩,rfl,trivial⟩,
⟨⟨(by(try simp only[Nat.zero_add,Int.toNat_natCast]at *);have e:=wiAt_yes (d:=x1.x.d) (t:=x1.v) (k:=x5) h14.1 h14.2;(simp only[e,List.length_append,List.length_cons,List.length_nil];omega))⟩,
(by rw[(wiAt_yes (d:=x1.x.d) (t:=x1.v) (k:=x5) h14.1 h14.2)];exact srcs_rows)⟩,
⟨rl,rr⟩,
⟨rfl,
⟨rfl,rfl⟩,
⟨rfl,rfl⟩,
⟨rfl,rfl⟩,trivial⟩,
⟨rl,rr⟩,
⟨rl,rr⟩,
⟨rl,rr⟩,trivial⟩,
fun g16=>have h16:=dF g16;⟨⟨(by omega),
(by omega)⟩,
(x5+(1:Nat)),
(by omega),
(by omega),
⟨(by omega),
⟨rfl,
(by rw[(wiAt_no (d:=x1.x.d) (t:=x1.v) (k:=x5) h16)])⟩,rfl,
⟨rfl,rfl⟩,
⟨rfl,
⟨rfl,rfl⟩,
⟨rfl,rfl⟩,
⟨rfl,rfl⟩,trivial⟩,trivial,
⟨rfl,rfl⟩,
⟨rfl,
⟨rfl,rfl⟩,
⟨rfl,rfl⟩,
⟨rfl,rfl⟩,trivial⟩,rfl,trivial⟩,
⟨⟨(by rw[(wiAt_no (d:=x1.x.d) (t:=x1.v) (k:=x5) h16)];exact Nat.le_refl _)⟩,
(by rw[(wiAt_no (d:=x1.x.d) (t:=x1.v) (k:=x5) h16)];exact rr)⟩,
⟨rl,rr⟩,
⟨rfl,
⟨rfl,rfl⟩,
⟨rfl,rfl⟩,
⟨rfl,rfl⟩,trivial⟩,
⟨rl,rr⟩,
⟨rl,rr⟩,
⟨rl,rr⟩,trivial⟩⟩⟩,
fun g18=>have h18:=dF g18;⟨⟨rfl,
(by rw[wi_out h2.1 h6 h18];first|done|exact Nat.le_refl _|exact rr)⟩,
⟨⟨(by rw[wi_out h2.1 h6 h18];first|done|exact Nat.le_refl _|exact rr)⟩,
(by rw[wi_out h2.1 h6 h18];first|done|exact Nat.le_refl _|exact rr)⟩,trivial⟩⟩⟩)
theorem ew_good:Good Tryz.prog 16 ewC/\FnOk Tryz.prog 16:=good_of tok conW5 (fn:=Tryz.f16) rfl (by decide+kernel) (fun _=>rfl) ew_keeps
def woAt (d:List Int) (k:Nat):Int × Int:=(List.range k).foldl (fun s i=>faSt s d i) (-1,0)
theorem woAt_yes {d:List Int} {k:Nat} (h:(woAt d k).1<d.getD k default):woAt d (k+1)=(d.getD k default,(k:Int)):=by
 unfold woAt at h ⊢;rw[List.range_succ,List.foldl_append];exact if_pos h
theorem woAt_no {d:List Int} {k:Nat} (h:¬ (woAt d k).1<d.getD k default):woAt d (k+1)=woAt d k:=by
 unfold woAt at h ⊢;rw[List.range_succ,List.foldl_append];exact if_neg h
theorem wo_fa {d:List Int} (h0:0<=d.getD 0 default):∀ k,woAt d (k+1)=faAt d (k+1)
 |0=>by
  have a:(-1:Int)<d.getD 0 default:=by omega
  rw[woAt_yes (d:=d) (k:=0) a,faAt_yes (d:=d) (k:=0) a]
 |k+1=>by
  have e:=wo_fa h0 k
  by_cases q:(faAt d (k+1)).1<d.getD (k+1) default
  ·rw[faAt_yes q,woAt_yes (by rw[e];exact q)]
  ·rw[faAt_no q,woAt_no (by rw[e];exact q),e]
def woC:CT where
 X:=FX
 pre:=fun x=>FXok x/\1<=x.g.n/\x.g.n<=12
 args:=fun x=>[rmA x 100000]
 g0:=fun x=>rmH x 100000
 res:=fun x=>.tup [.i .i64 (faL x.d).1,.i .i64 (faL x.d).2]
 g1:=fun _=>[]
def woI (x:FX) (id:Nat):Option Inv:=match id with
 |0=>some { X:=Nat,ok:=fun k=>k<=x.g.n,fr:=fun k=>[(11,.i .i64 k),(4,.i .i64 (woAt x.d k).1),(5,.i .i64 (woAt x.d k).2)],hp:=fun _=>[],me:=fun k=>x.g.n-k }
 |_=>none
theorem wo_full {x:FX} (h:FXok x/\1<=x.g.n/\x.g.n<=12) {k:Nat} (h1:k<=x.g.n) (h2:¬ (k:Int)<x.g.n):woAt x.d k=faL x.d:=by
 have hl:x.d.length=x.g.n:=distF_len (netG_ok h.1.g (wsOk_tt x.g x.ts) true) _
 unfold faL
 rw[hl,show k=(x.g.n-1)+1 by omega,wo_fa (fx_rng h.1 (by omega)).1,show x.g.n-1+1=x.g.n by omega]
set_option maxRecDepth 100000 in
theorem wo_keeps:Keeps cfgW5 Tryz.f14 woC woI:=Eq.mp (show((∀ x1:FX,((FXok x1/\(1:Nat)<=x1.g.n/\x1.g.n<=(12:Nat))->(∃ x3:FX,((FXok x3)/\(((((x1.g.n:Int)=(x3.g.n:Int))/\((0=0/\x1.g.es.length=x3.g.es.length)/\((0=0/\x1.ts.length=x3.ts.length)/\((0=0/\x1.src.length=x3.src.length)/\True))))/\True)/\((((RLe x3.g.es.length x1.g.es.length)/\(RowsEq [.int .i64,.int .i64,.int .i64] x3.g.es.length (encL encE x1.g.es) (encL encE x3.g.es)))/\(((RLe x3.ts.length x1.ts.length)/\(RI x3.ts.length x1.ts x3.ts))/\(((RLe x3.src.length x1.src.length)/\(RI x3.src.length x1.src x3.src))/\True)))/\(∃ x4:Nat,(((x4<=x1.g.n)/\(((0=(x4:Int))/\(((-1:Int)=Prod.fst (woAt (FX.d x1) x4))/\(((0:Int)=Prod.snd (woAt (FX.d x1) x4))/\(((x3.g.n:Int)=(x3.g.n:Int))/\((0=0/\x3.g.n=x3.g.n)/\((((x1.g.n:Int)=(x1.g.n:Int))/\((0=0/\x1.g.es.length=x1.g.es.length)/\((0=0/\x1.ts.length=x1.ts.length)/\((0=0/\x1.src.length=x1.src.length)/\True))))/\(((0:Int)=0)/\(((0:Int)=0)/\((0=0/\0=0)/\((((x1.g.n:Int)=(x1.g.n:Int))/\((0=0/\x1.g.es.length=x1.g.es.length)/\((0=0/\x1.ts.length=x1.ts.length)/\((0=0/\x1.src.length=x1.src.length)/\True))))/\True))))))))))/\(((RLe x3.g.n x3.g.n)/\(RI x3.g.n (FX.d x3) (FX.d x3)))/\((((x1.g.n:Int)=(x1.g.n:Int))/\((0=0/\x1.g.es.length=x1.g.es.length)/\((0=0/\x1.ts.length=x1.ts.length)/\((0=0/\x1.src.length=x1.src.length)/\True))))/\(((RLe x1.g.es.length x1.g.es.length)/\(RowsEq [.int .i64,.int .i64,.int .i64] x1.g.es.length (encL encE x1.g.es) (encL encE x1.g.es)))/\(((RLe x1.ts.length x1.ts.length)/\(RI x1.ts.length x1.ts x1.ts))/\(((RLe x1.src.length x1.src.length)/\(RI x1.src.length x1.src x1.src))/\True)))))))/\(∀ x5:Nat,((x5<=x1.g.n)->(((decide ((x5:Int)<(x3.g.n:Int))=true)->((((0:Int)<=(x5:Int))/\((x5:Int)<(x3.g.n:Int)))/\((0+Int.toNat (x5:Int)<x3.g.n)/\(((decide (Prod.fst (woAt (FX.d x1) x5)<(FX.d x3).getD (0+Int.toNat (x5:Int)) default)=true)->((((-9223372036854775808:Int)<=(x5:Int)+1)/\((x5:Int)+1<=(9223372036854775807:Int)))/\(∃ x9:Nat,((x1.g.n-x9<x1.g.n-x5)/\((x9<=x1.g.n)/\((((x5:Int)+1=(x9:Int))/\(((FX.d x3).getD (0+Int.toNat (x5:Int)) default=Prod.fst (woAt (FX.d x1) x9))/\(((x5:Int)=Prod.snd (woAt (FX.d x1) x9))/\(((x3.g.n:Int)=(x3.g.n:Int))/\((0=0/\x3.g.n=x3.g.n)/\((((x1.g.n:Int)=(x1.g.n:Int))/\((0=0/\x1.g.es.length=x1.g.es.length)/\((0=0/\x1.ts.length=x1.ts.length)/\((0=0/\x1.src.length=x1.src.length)/\True))))/\(((0:Int)=0)/\(((0:Int)=0)/\((0=0/\0=0)/\((((x1.g.n:Int)=(x1.g.n:Int))/\((0=0/\x1.g.es.length=x1.g.es.length)/\((0=0/\x1.ts.length=x1.ts.length)/\((0=0/\x1.src.length=x1.src.length)/\True))))/\True))))))))))/\(((RLe x3.g.n x3.g.n)/\(RI x3.g.n (FX.d x3) (FX.d x3)))/\((((x1.g.n:Int)=(x1.g.n:Int))/\((0=0/\x1.g.es.length=x1.g.es.length)/\((0=0/\x1.ts.length=x1.ts.length)/\((0=0/\x1.src.length=x1.src.length)/\True))))/\(((RLe x1.g.es.length x1.g.es.length)/\(RowsEq [.int .i64,.int .i64,.int .i64] x1.g.es.length (encL encE x1.g.es) (encL encE x1.g.es)))/\(((RLe x1.ts.length x1.ts.length)/\(RI x1.ts.length x1.ts x1.ts))/\(((RLe x1.src.length x1.src.length)/\(RI x1.src.length x1.src x1.src))/\True)))))))))))/\((decide (Prod.fst (woAt (FX.d x1) x5)<(FX.d x3).getD (0+Int.toNat (x5:Int)) default)=false)->((((-9223372036854775808:Int)<=(x5:Int)+1)/\((x5:Int)+1<=(9223372036854775807:Int)))/\(∃ x11:Nat,((x1.g.n-x11<x1.g.n-x5)/\((x11<=x1.g.n)/\((((x5:Int)+1=(x11:Int))/\((Prod.fst (woAt (FX.d x1) x5)=Prod.fst (woAt (FX.d x1) x11))/\((Prod.snd (woAt (FX.d x1) x5)=Prod.snd (woAt (FX.d x1) x11))/\(((x3.g.n:Int)=(x3.g.n:Int))/\((0=0/\x3.g.n=x3.g.n)/\((((x1.g.n:Int)=(x1.g.n:Int))/\((0=0/\x1.g.es.length=x1.g.es.length)/\((0=0/\x1.ts.length=x1.ts.length)/\((0=0/\x1.src.length=x1.src.length)/\True))))/\(((0:Int)=0)/\(((0:Int)=0)/\((0=0/\0=0)/\((((x1.g.n:Int)=(x1.g.n:Int))/\((0=0/\x1.g.es.length=x1.g.es.length)/\((0=0/\x1.ts.length=x1.ts.length)/\((0=0/\x1.src.length=x1.src.length)/\True))))/\True))))))))))/\(((RLe x3.g.n x3.g.n)/\(RI x3.g.n (FX.d x3) (FX.d x3)))/\((((x1.g.n:Int)=(x1.g.n:Int))/\((0=0/\x1.g.es.length=x1.g.es.length)/\((0=0/\x1.ts.length=x1.ts.length)/\((0=0/\x1.src.length=x1.src.length)/\True))))/\(((RLe x1.g.es.length x1.g.es.length)/\(RowsEq [.int .i64,.int .i64,.int .i64] x1.g.es.length (encL encE x1.g.es) (encL encE x1.g.es)))/\(((RLe x1.ts.length x1.ts.length)/\(RI x1.ts.length x1.ts x1.ts))/\(((RLe x1.src.length x1.src.length)/\(RI x1.src.length x1.src x1.src))/\True)))))))))))))))/\((decide ((x5:Int)<(x3.g.n:Int))=false)->(((Prod.fst (woAt (FX.d x1) x5)=Prod.fst (faL (FX.d x1)))/\((Prod.snd (woAt (FX.d x1) x5)=Prod.snd (faL (FX.d x1)))/\True))/\True))))))))))))))=(Keeps cfgW5 Tryz.f14 woC woI) by kernel_rfl) (fun x1=>fun h2=>⟨(x1),
(by grind),
⟨⟨rfl,
⟨rfl,rfl⟩,
⟨rfl,rfl⟩,
⟨rfl,rfl⟩,trivial⟩,trivial⟩,
⟨⟨rl,rr⟩,
⟨rl,rr⟩,
⟨rl,rr⟩,trivial⟩,
((0:Nat)),
⟨(by omega),
⟨(by omega),rfl,rfl,rfl,
⟨rfl,rfl⟩,
⟨rfl,
⟨rfl,rfl⟩,
⟨rfl,rfl⟩,
⟨rfl,rfl⟩,trivial⟩,rfl,rfl,
⟨rfl,rfl⟩,
⟨rfl,
⟨rfl,rfl⟩,
⟨rfl,rfl⟩,
⟨rfl,rfl⟩,trivial⟩,trivial⟩,
⟨rl,rr⟩,
⟨rfl,
⟨rfl,rfl⟩,
⟨rfl,rfl⟩,
⟨rfl,rfl⟩,trivial⟩,
⟨rl,rr⟩,
⟨rl,rr⟩,
⟨rl,rr⟩,trivial⟩,
fun x5=>fun h6=>⟨fun g7=>have h7:=dT g7;⟨⟨(by omega),
(by omega)⟩,
(by omega),
fun g8=>have h8:=dT g8;⟨⟨(by omega),
(by omega)⟩,
(x5+(1:Nat)),
(by omega),
(by omega),
⟨(by omega),
(by(try simp only[Nat.zero_add,Int.toNat_natCast]at *);have e:=woAt_yes (d:=x1.d) (k:=x5) h8;(rw[e];done)),
(by(try simp only[Nat.zero_add,Int.toNat_natCast]at *);have e:=woAt_yes (d:=x1.d) (k:=x5) h8;(rw[e];done)),rfl,
⟨rfl,rfl⟩,
⟨rfl,
⟨rfl,rfl⟩,
⟨rfl,rfl⟩,
⟨rfl,rfl⟩,trivial⟩,rfl,rfl,
⟨rfl,rfl⟩,
⟨rfl,
⟨rfl,rfl⟩,
⟨rfl,rfl⟩,
⟨rfl,rfl⟩,trivial⟩,trivial⟩,
⟨rl,rr⟩,
⟨rfl,
⟨rfl,rfl⟩,
⟨rfl,rfl⟩,
⟨rfl,rfl⟩,trivial⟩,
⟨rl,rr⟩,
⟨rl,rr⟩,
⟨rl,rr⟩,trivial⟩,
fun g10=>have h10:=dF g10;⟨⟨(by omega),
(by omega)⟩,
(x5+(1:Nat)),
(by omega),
(by omega),
⟨(by omega),
(by(try simp only[Nat.zero_add,Int.toNat_natCast]at *);have e:=woAt_no (d:=x1.d) (k:=x5) h10;(rw[e];done)),
(by(try simp only[Nat.zero_add,Int.toNat_natCast]at *);have e:=woAt_no (d:=x1.d) (k:=x5) h10;(rw[e];done)),rfl,
⟨rfl,rfl⟩,
⟨rfl,
⟨rfl,rfl⟩,
⟨rfl,rfl⟩,
⟨rfl,rfl⟩,trivial⟩,rfl,rfl,
⟨rfl,rfl⟩,
⟨rfl,
⟨rfl,rfl⟩,
⟨rfl,rfl⟩,
⟨rfl,rfl⟩,trivial⟩,trivial⟩,
⟨rl,rr⟩,
⟨rfl,
⟨rfl,rfl⟩,
⟨rfl,rfl⟩,
⟨rfl,rfl⟩,trivial⟩,
⟨rl,rr⟩,
⟨rl,rr⟩,
⟨rl,rr⟩,trivial⟩⟩,
fun g12=>have h12:=dF g12;⟨⟨(by rw[(wo_full h2 h6 h12)]),
(by rw[(wo_full h2 h6 h12)]),trivial⟩,trivial⟩⟩⟩)
theorem wo_good:Good Tryz.prog 14 woC/\FnOk Tryz.prog 14:=good_of tok conW5 (fn:=Tryz.f14) rfl (by decide+kernel) (fun _=>rfl) wo_keeps
def arW (x:LX):List SV:=[.i .i64 x.a]
set_option maxRecDepth 100000 in
theorem wt_no:Keeps cfgLn Tryz.f4 (law10 arW false) noIv:=Eq.mp (show((∀ x1:LX,((True/\plOk x1.p=false)->(∃ x3:PLX,((plOk x3=false)/\(((x1.p.n=x3.n/\((0=0/\x1.p.es.length=x3.es.length)/\((0=0/\x1.p.ts.length=x3.ts.length)/\((0=0/\x1.p.acts.length=x3.acts.length)/\True))))/\True)/\((((RLe x3.es.length x1.p.es.length)/\(RowsEq [.int .i64,.int .i64,.int .i64] x3.es.length (encL encE x1.p.es) (encL encE x3.es)))/\(((RLe x3.ts.length x1.p.ts.length)/\(RI x3.ts.length x1.p.ts x3.ts))/\(((RLe x3.acts.length x1.p.acts.length)/\(RowsEq [.int .i64,.int .i64,.int .i64] x3.acts.length (encL encA x1.p.acts) (encL encA x3.acts)))/\True)))/\(∃ x4:Unit,(True/\(True/\(True/\(true=true/\True))))))))))))=(Keeps cfgLn Tryz.f4 (law10 arW false) noIv) by kernel_rfl) (fun x1=>fun h2=>⟨(LX.p x1),
(by grind),
⟨⟨rfl,
⟨rfl,rfl⟩,
⟨rfl,rfl⟩,
⟨rfl,rfl⟩,trivial⟩,trivial⟩,
⟨⟨rl,rr⟩,
⟨rl,rr⟩,
⟨rl,rr⟩,trivial⟩,
(default),trivial,trivial,trivial,rfl,trivial⟩)
def LX.ws (x:LX):List Nat:=ofW (wiL x.m.dI x.a) (wiL x.m.dI x.a).length
theorem wiL_sorted (d:List Int) (t:Int):(wiL d t).Pairwise (· <·):=by
 unfold wiL wiAt
 rw[List.pairwise_map]
 exact(List.pairwise_lt_range.filter _).imp fun h=>by omega
theorem wiL_mem {d:List Int} {t x:Int} (h:x∈wiL d t):0<=x/\x<d.length:=by
 unfold wiL wiAt at h
 obtain⟨i,hi,rfl⟩:=List.mem_map.1 h
 have:=List.mem_range.1 (List.mem_filter.1 hi).1
 omega
theorem ws_is {x:LX} (h:True/\plOk x.p=true):elemsZ x.ws=wiL x.m.dI x.a:=by
 have hl:=(lm_ok h).1.dlen
 have:=(lm_l h).2.2.1
 exact ofW_sorted (wiL_sorted _ _) fun y hy=>by have:=wiL_mem hy;omega
theorem ws_len {x:LX} (h:True/\plOk x.p=true):(elemsW x.ws).length=(wiL x.m.dI x.a).length:=by rw[<- elemsZ_len,ws_is h]
def CI10:List (Nat × Con):=[(5,.one plYC),(6,.one awC),(12,.one wiC),(13,.one farC),(14,.one woC),(15,.one listC),(16,.one ewC),(7,.one sameC)]
def cfgWt:Cfg:=⟨T,[],CI10,noInv,14,{}⟩
theorem conWt:ConOk Tryz.prog cfgWt:=ConL.ok (.cons (ConL.one plY_good) (.cons (ConL.one aw_good) (.cons (ConL.one wi_good) (.cons (ConL.one far_good) (.cons (ConL.one wo_good) (.cons (ConL.one list_good) (.cons (ConL.one ew_good) (.cons (ConL.one same_good) .nil))))))))
set_option maxRecDepth 100000 in
theorem wt_yes:Keeps cfgWt Tryz.f4 (law10 arW true) noIv:=Eq.mp (show((∀ x1:LX,((True/\plOk x1.p=true)->(∃ x3:PLX,((plOk x3=true)/\(((x1.p.n=x3.n/\((0=0/\x1.p.es.length=x3.es.length)/\((0=0/\x1.p.ts.length=x3.ts.length)/\((0=0/\x1.p.acts.length=x3.acts.length)/\True))))/\True)/\((((RLe x3.es.length x1.p.es.length)/\(RowsEq [.int .i64,.int .i64,.int .i64] x3.es.length (encL encE x1.p.es) (encL encE x3.es)))/\(((RLe x3.ts.length x1.p.ts.length)/\(RI x3.ts.length x1.p.ts x3.ts))/\(((RLe x3.acts.length x1.p.acts.length)/\(RowsEq [.int .i64,.int .i64,.int .i64] x3.acts.length (encL encA x1.p.acts) (encL encA x3.acts)))/\True)))/\(∃ x4:MNx,((MSok x4.m)/\(((0=0/\0=0)/\(x1.a=x4.v/\True))/\((((0=0/\0=0)/\((0=0/\((plM x3).g.es.length=x4.m.g.es.length))/\((0=0/\((plM x3).g.n=x4.m.g.n))/\((0=0/\((plM x3).dist.length=x4.m.dist.length))/\((0=0/\((plM x3).so.length=x4.m.so.length))/\(((plM x3).od=x4.m.od)/\True))))))/\((RLe 1 1/\(RowsEq [.sl [.int .i64,.int .i64,.int .i64],.sl [.sl [.int .i64]],.sl [.sl [.int .i64]]] 1 (encG (plM x3).g) (encG x4.m.g)))/\(((RLe x4.m.g.es.length (plM x3).g.es.length)/\(RI x4.m.g.es.length (plM x3).ts x4.m.ts))/\(((RLe x4.m.g.n (plM x3).g.n)/\(RowsEq (Kd.bool::[]) x4.m.g.n (encL encBo (plM x3).src) (encL encBo x4.m.src)))/\(((RLe x4.m.dist.length (plM x3).dist.length)/\(RI x4.m.dist.length (plM x3).dist x4.m.dist))/\(((RLe x4.m.so.length (plM x3).so.length)/\(RI x4.m.so.length (plM x3).so x4.m.so))/\True))))))/\(∃ x5:MS,((MSok x5)/\(((0=0/\0=0)/\True)/\((((0=0/\0=0)/\((0=0/\x4.m.g.es.length=x5.g.es.length)/\((0=0/\x4.m.g.n=x5.g.n)/\((0=0/\x4.m.g.n=x5.dist.length)/\((0=0/\x4.m.g.n=x5.so.length)/\(false=x5.od/\True))))))/\((RLe 1 1/\(RowsEq [.sl [.int .i64,.int .i64,.int .i64],.sl [.sl [.int .i64]],.sl [.sl [.int .i64]]] 1 (encG (plM x3).g) (encG x5.g)))/\(((RLe x5.g.es.length (plM x3).g.es.length)/\(RI x5.g.es.length (plM x3).ts x5.ts))/\(((RLe x5.g.n (plM x3).g.n)/\(RowsEq (Kd.bool::[]) x5.g.n (encL encBo (plM x3).src) (encL encBo x5.src)))/\(((RLe x5.dist.length x4.m.g.n)/\(RI x5.dist.length (MS.dI x4.m) x5.dist))/\(((RLe x5.so.length x4.m.g.n)/\(RI x5.so.length (soF x4.m (MS.dI x4.m)) x5.so))/\True))))))/\(∃ x6:FX,(((FXok x6)/\(((1:Nat)<=x6.g.n)/\(x6.g.n<=(12:Nat))))/\((((x3.n=(x6.g.n:Int))/\((0=0/\((plM x3).g.es.length=x6.g.es.length))/\((0=0/\((plM x3).g.es.length=x6.ts.length))/\((0=0/\((srcL (plM x3).src).length=x6.src.length))/\True))))/\True)/\((((RLe x6.g.es.length x1.p.es.length)/\(RowsEq [.int .i64,.int .i64,.int .i64] x6.g.es.length (encL encE x1.p.es) (encL encE x6.g.es)))/\(((RLe x6.ts.length (plM x3).g.es.length)/\(RI x6.ts.length (plM x3).ts x6.ts))/\(((RLe x6.src.length (srcL (plM x3).src).length)/\(RI x6.src.length (srcL (plM x3).src) x6.src))/\True)))/\((true=true->(∃ x8:List Nat,((WOk x8)/\((((szW (ofW (wiL (MS.dI x4.m) x4.v) (wiL (MS.dI x4.m) x4.v).length)=szW x8)/\True)/\True)/\((((RLe (szW x8) (szW (ofW (wiL (MS.dI x4.m) x4.v) (wiL (MS.dI x4.m) x4.v).length)))/\(RowsEq [.int .u64] (szW x8) (encL encW (ofW (wiL (MS.dI x4.m) x4.v) (wiL (MS.dI x4.m) x4.v).length)) (encL encW x8)))/\True)/\(∃ x9:FVx,(((FXok x9.x)/\(x9.x.g.n<=(12:Nat)))/\((((x3.n=(x9.x.g.n:Int))/\((0=0/\((plM x3).g.es.length=x9.x.g.es.length))/\((0=0/\((plM x3).g.es.length=x9.x.ts.length))/\((0=0/\((srcL (plM x3).src).length=x9.x.src.length))/\True))))/\(x1.a=x9.v/\True))/\((((RLe x9.x.g.es.length x1.p.es.length)/\(RowsEq [.int .i64,.int .i64,.int .i64] x9.x.g.es.length (encL encE x1.p.es) (encL encE x9.x.g.es)))/\(((RLe x9.x.ts.length (plM x3).g.es.length)/\(RI x9.x.ts.length (plM x3).ts x9.x.ts))/\(((RLe x9.x.src.length (srcL (plM x3).src).length)/\(RI x9.x.src.length (srcL (plM x3).src) x9.x.src))/\True)))/\(∃ x10:LLX,((x10.a.length<=(1073741824:Nat))/\(((0=0/\((elemsW x8).length=x10.a.length))/\((0=0/\((wiL (FX.d x9.x) x9.v).length=x10.b.length))/\True))/\((((RLe x10.a.length (elemsW x8).length)/\(RI x10.a.length (elemsZ x8) x10.a))/\(((RLe x10.b.length (wiL (FX.d x9.x) x9.v).length)/\(RI x10.b.length (wiL (FX.d x9.x) x9.v) x10.b))/\True))/\(((decide (x10.a=x10.b)=true)->(((decide (Prod.fst (faL (MS.dI x5))=Prod.fst (faL (FX.d x6)))=true)->(((decide (Prod.snd (faL (MS.dI x5))=Prod.snd (faL (FX.d x6)))=true)->(∃ x14:Unit,(True/\(True/\(True/\(true=true/\True))))))/\((decide (Prod.snd (faL (MS.dI x5))=Prod.snd (faL (FX.d x6)))=false)->(false=true/\True))))/\((decide (Prod.fst (faL (MS.dI x5))=Prod.fst (faL (FX.d x6)))=false)->(false=true/\True))))/\((decide (x10.a=x10.b)=false)->(false=true/\True))))))))))))))))/\(true=false->(false=true/\True))))))))))))))))))))))=(Keeps cfgWt Tryz.f4 (law10 arW true) noIv) by kernel_rfl) (fun x1=>fun h2=>⟨(LX.p x1),
(by grind),
⟨⟨rfl,
⟨rfl,rfl⟩,
⟨rfl,rfl⟩,
⟨rfl,rfl⟩,trivial⟩,trivial⟩,
⟨⟨rl,rr⟩,
⟨rl,rr⟩,
⟨rl,rr⟩,trivial⟩,
({ m:=LX.m x1,v:=LX.a x1:MNx }),
((lm_ok h2).1),
⟨⟨rfl,rfl⟩,rfl,trivial⟩,
⟨⟨⟨rfl,rfl⟩,
⟨rfl,rfl⟩,
⟨rfl,rfl⟩,
⟨rfl,rfl⟩,
⟨rfl,rfl⟩,rfl,trivial⟩,
⟨rl,rr⟩,
⟨⟨(Nat.le_refl _)⟩,rr⟩,
⟨⟨(Nat.le_refl _)⟩,rr⟩,
⟨⟨(Nat.le_refl _)⟩,rr⟩,
⟨⟨(Nat.le_refl _)⟩,rr⟩,trivial⟩,
(MS.up (LX.m x1)),
(mup_ok (lm_ok h2).1),
⟨⟨rfl,rfl⟩,trivial⟩,
⟨⟨⟨rfl,rfl⟩,
⟨rfl,rfl⟩,
⟨rfl,rfl⟩,
⟨rfl,
((mup_len (lm_ok h2).1).1.symm)⟩,
⟨rfl,
((mup_len (lm_ok h2).1).2.symm)⟩,rfl,trivial⟩,
⟨rl,rr⟩,
⟨⟨(Nat.le_refl _)⟩,rr⟩,
⟨⟨(Nat.le_refl _)⟩,rr⟩,
⟨⟨(Nat.le_of_eq (mup_len (lm_ok h2).1).1)⟩,rr⟩,
⟨⟨(Nat.le_of_eq (mup_len (lm_ok h2).1).2)⟩,rr⟩,trivial⟩,
(rF (LX.m x1)),
⟨((lm_l h2).2.2.2),
(by have a:=(pl_n h2.2).1;have b:=(lm_ok h2).2.2;show 1<=x1.m.g.n;omega),
((lm_l h2).2.2.1)⟩,
⟨⟨((lm_ok h2).2.2.symm),
⟨rfl,rfl⟩,
⟨rfl,
((lm_l h2).2.1.symm)⟩,
⟨rfl,rfl⟩,trivial⟩,trivial⟩,
⟨⟨⟨(Nat.le_of_eq (lm_l h2).1)⟩,
(lm_r h2 _)⟩,
⟨⟨(Nat.le_of_eq (lm_l h2).2.1)⟩,rr⟩,
⟨⟨(Nat.le_refl _)⟩,rr⟩,trivial⟩,
fun h7=>⟨(LX.ws x1),
(ofW_ok _ _),
⟨⟨rfl,trivial⟩,trivial⟩,
⟨⟨⟨(Nat.le_refl _)⟩,rr⟩,trivial⟩,
({ x:=rF (LX.m x1),v:=LX.a x1:FVx }),
⟨((lm_l h2).2.2.2),
((lm_l h2).2.2.1)⟩,
⟨⟨((lm_ok h2).2.2.symm),
⟨rfl,rfl⟩,
⟨rfl,
((lm_l h2).2.1.symm)⟩,
⟨rfl,rfl⟩,trivial⟩,rfl,trivial⟩,
⟨⟨⟨(Nat.le_of_eq (lm_l h2).1)⟩,
(lm_r h2 _)⟩,
⟨⟨(Nat.le_of_eq (lm_l h2).2.1)⟩,rr⟩,
⟨⟨(Nat.le_refl _)⟩,rr⟩,trivial⟩,
({ a:=wiL (MS.dI (LX.m x1)) (LX.a x1),b:=wiL (MS.dI (LX.m x1)) (LX.a x1):LLX }),
(by have:=wiAt_len x1.m.dI x1.a x1.m.dI.length;have:=(lm_ok h2).1.dlen;have:=(lm_l h2).2.2.1;show(wiL x1.m.dI x1.a).length<=_;unfold wiL;omega),
⟨⟨rfl,
(ws_len h2)⟩,
⟨rfl,rfl⟩,trivial⟩,
⟨⟨⟨(Nat.le_of_eq (ws_len h2).symm)⟩,
(by rw[ws_is h2];exact rr)⟩,
⟨⟨(Nat.le_refl _)⟩,rr⟩,trivial⟩,
fun g11=>have h11:=dT g11;⟨fun g12=>have h12:=dT g12;⟨fun g13=>have h13:=dT g13;⟨(default),trivial,trivial,trivial,rfl,trivial⟩,
fun g15=>have h15:=dF g15;⟨(by exact absurd rfl ‹_›),trivial⟩⟩,
fun g16=>have h16:=dF g16;⟨(by exact absurd rfl ‹_›),trivial⟩⟩,
fun g17=>have h17:=dF g17;⟨(by grind),trivial⟩⟩,
fun h18=>⟨(by grind),trivial⟩⟩)
theorem wtN_good:Good Tryz.prog 4 (law10 arW false)/\FnOk Tryz.prog 4:=good_of tok conLn (fn:=Tryz.f4) rfl (by decide+kernel) (fun _=>rfl) wt_no
theorem wtY_good:Good Tryz.prog 4 (law10 arW true)/\FnOk Tryz.prog 4:=good_of tok conWt (fn:=Tryz.f4) rfl (by decide+kernel) (fun _=>rfl) wt_yes
theorem wt_good:Good Tryz.prog 4 ⟨LX,fun _=>True,fun x=>plA x.p::arW x,fun x=>plH x.p,fun _=>.b true,fun _=>[]⟩:=both_b (X:=LX) (t:=fun x:LX=>plOk x.p) wtY_good.1 wtN_good.1
end Go.Sym