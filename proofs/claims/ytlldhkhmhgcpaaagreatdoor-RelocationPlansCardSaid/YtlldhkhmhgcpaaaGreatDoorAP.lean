import Derived.Test.YtlldhkhmhgcpaaaGreatDoorFP
import Derived.Test.YtlldhkhmhgcpaaaGreatDoorSX
import Derived.Test.YtlldhkhmhgcpaaaGreatDoorXD
import Derived.Test.YtlldhkhmhgcpaaaGreatDoorS3
namespace Go.Sym
set_option linter.unusedVariables false
set_option linter.unusedSimpArgs false
open Go.Proofs Go.RowKit
set_option maxRecDepth 100000
set_option maxHeartbeats 8000000
structure IdX where
 us:List Un
 l:List Mv
def idOk (x:IdX) (i:Nat):Prop:=i<=x.l.length/\dstU x.us=true/\∀ j,j<i->okM x.us x.l j
def okA (us:List Un) (l:List Mv) (i:Nat):Prop:=0<=fndU us (l.getD i default).1/\(us.getD (fndU us (l.getD i default).1).toNat default).st=1/\(i=0∨(l.getD (i-1) default).1<(l.getD i default).1)
def okB (us:List Un) (l:List Mv) (i:Nat):Prop:=(0<=(l.getD i default).2/\(l.getD i default).2<4096)/\(l.getD i default).2≠(us.getD (fndU us (l.getD i default).1).toNat default).nd
instance (us:List Un) (l:List Mv) (i:Nat):Decidable (okA us l i):=by unfold okA;infer_instance
instance (us:List Un) (l:List Mv) (i:Nat):Decidable (okB us l i):=by unfold okB;infer_instance
theorem okM_ab {us:List Un} {l:List Mv} {i:Nat}:okM us l i↔okA us l i/\okB us l i:=by
 unfold okM okA okB
 constructor
 ·rintro⟨a,b,c,d⟩;exact⟨⟨a,b,c⟩,d⟩
 ·rintro⟨⟨a,b,c⟩,d⟩;exact⟨a,b,c,d⟩
theorem fnd_lt {us:List Un} {i:Int} (h:0<=fndU us i):(fndU us i).toNat<us.length:=by
 rcases fnd_cases us i with⟨k,h1,h2,_⟩|⟨h1,_⟩
 ·omega
 ·omega
theorem di_all {us:List Un} (h:dstU us=true):(us.map (·.id)).Nodup:=of_decide_eq_true h
def atM (l:List Mv) (k:Nat):Mv:=l.getD (0+(k:Int).toNat) default
theorem atM_e (l:List Mv) (k:Nat):atM l k=l.getD k default:=by unfold atM;rw[nat0]
theorem ms_f {x:IdX} {k:Nat} (h:(k:Int)<x.l.length) (h1:¬ okM x.us x.l k):okMs x.us x.l=false:=by
 unfold okMs
 rw[Bool.and_eq_false_iff]
 exact .inr (decide_eq_false fun q=>h1 (q k (by omega)))
theorem ms_d {x:IdX} (h:(!dstU x.us)=true):okMs x.us x.l=false:=by
 unfold okMs
 rw[Bool.and_eq_false_iff]
 exact .inl (by simpa using h)
theorem ms_t {x:IdX} {k:Nat} (h:idOk x k) (hk:¬ (k:Int)<x.l.length):okMs x.us x.l=true:=by
 unfold okMs
 rw[h.2.1,Bool.true_and]
 exact decide_eq_true fun i hi=>h.2.2 i (by omega)
theorem id_ok {x:IdX} {k:Nat} (h:idOk x k) (hk:(k:Int)<x.l.length) (h1:¬ ¬ okA x.us x.l k) (h2:¬ ¬ okB x.us x.l k):idOk x (k+1):=by
 refine⟨by omega,h.2.1,fun j hj=>?_⟩
 rcases Nat.lt_or_ge j k with q|q
 ·exact h.2.2 j q
 ·have:j=k:=by omega
  subst this
  exact okM_ab.2 ⟨Decidable.not_not.1 h1,Decidable.not_not.1 h2⟩
def apC:CT where
 X:=IdX
 pre:=fun x=>x.us.length<=1000/\x.l.length<=1000
 args:=fun x=>[.sl 100000 0 x.us.length,.sl 100001 0 x.l.length]
 g0:=fun x=>[(100000,.rows .bor kU x.us.length (encL encU x.us)),(100001,.rows .bor kM x.l.length (encL encM x.l))]
 res:=fun x=>.tup [.sl 1 0 (appU x.us x.l).length,.i .i64 (appE2 x.us x.l)]
 g1:=fun x=>[(1,.rows .own kU (appU x.us x.l).length (encL encU (appU x.us x.l)))]
theorem app_len (us:List Un) (l:List Mv) (k:Nat):(appA us l k).length=us.length:=by
 have key:∀(l:List Mv) (o:List Un),(l.foldl (putU us) o).length=o.length:=by
  intro l
  induction l with
  |nil=>intro o;rfl
  |cons m l ih=>intro o;rw[List.foldl_cons,ih];unfold putU;rw[List.length_set]
 exact key _ _
theorem app_s {us:List Un} {l:List Mv} {k:Nat} (h:k<l.length):appA us l (k+1)=putU us (appA us l k) (l.getD k default):=by
 unfold appA
 rw[take_succ_getD (d:=default) h,List.foldl_append]
 rfl
theorem ap_y {us:List Un} {l:List Mv} (h:okMs us l=true):appU us l=appA us l l.length/\appE2 us l=0:=by unfold appU appE2;rw[if_pos h,if_pos h];exact⟨rfl,rfl⟩
theorem ap_n {us:List Un} {l:List Mv} (h:okMs us l=false):appU us l=[]/\appE2 us l=1:=by unfold appU appE2;rw[h];exact⟨rfl,rfl⟩
theorem ap_t {x:IdX} (h:okMs x.us x.l=true) {k:Nat} (hk:¬ (k:Int)<x.l.length) (hl:k<=x.l.length):appA x.us x.l k=appU x.us x.l:=by
 rw[(ap_y h).1,show k=x.l.length by omega]
theorem ap_tl {x:IdX} (h:okMs x.us x.l=true):x.us.length=(appU x.us x.l).length:=by
 rw[(ap_y h).1,app_len]
end Go.Sym
namespace Go.Sym
set_option linter.unusedVariables false
set_option linter.unusedSimpArgs false
open Go.Proofs
set_option maxRecDepth 100000
set_option maxHeartbeats 4000000
def neverC:CT where
 X:=Unit
 pre:=fun _=>True
 args:=fun _=>[]
 g0:=fun _=>[]
 res:=fun _=>.i .i64 4611686018427387904
 g1:=fun _=>[]
set_option maxRecDepth 100000 in
theorem never_keeps:Keeps cfgN0 Tryz.f49 neverC noIv:=Eq.mp (show(∀ x1:Unit,(True->(((4611686018427387904:Int)=4611686018427387904)/\True)))=(Keeps cfgN0 Tryz.f49 neverC noIv) by kernel_rfl) (fun x1=>fun h2=>⟨rfl,trivial⟩)
theorem never_good:Good Tryz.prog 49 neverC/\FnOk Tryz.prog 49:=good_of tok conN0 (fn:=Tryz.f49) rfl (by decide+kernel) (fun _=>rfl) never_keeps
def cfgNv:Cfg:=⟨T,[],[(49,.one neverC)],noInv,20,{}⟩
theorem conNv:ConOk Tryz.prog cfgNv:=ConL.ok (.cons (ConL.one never_good) .nil)
set_option maxRecDepth 100000 in
theorem time_keeps:Keeps cfgNv Tryz.f91 travelC noIv:=Eq.mp (show(∀ x1:TX,((x1.i<=(1073741824:Nat))->(CN (decide ((x1.ts.length:Int)<=(x1.i:Int))) ((Ix (x1.i:Int) (x1.ts.length:Int))/\((0+Int.toNat (x1.i:Int)<x1.ts.length)/\(CN (decide (x1.ts.getD (0+Int.toNat (x1.i:Int)) default<1)) ((Ix (x1.i:Int) (x1.ts.length:Int))/\((0+Int.toNat (x1.i:Int)<x1.ts.length)/\(CB (decide (1048576<x1.ts.getD (0+Int.toNat (x1.i:Int)) default)) (∃ x6:Unit,(True/\(True/\(True/\(((4611686018427387904:Int)=tt x1.ts x1.i)/\True))))) ((Ix (x1.i:Int) (x1.ts.length:Int))/\((0+Int.toNat (x1.i:Int)<x1.ts.length)/\((x1.ts.getD (0+Int.toNat (x1.i:Int)) default=tt x1.ts x1.i)/\True)))))) (∃ x9:Unit,(True/\(True/\(True/\(((4611686018427387904:Int)=tt x1.ts x1.i)/\True)))))))) (∃ x11:Unit,(True/\(True/\(True/\(((4611686018427387904:Int)=tt x1.ts x1.i)/\True))))))))=(Keeps cfgNv Tryz.f91 travelC noIv) by kernel_rfl) (fun x1=>fun h2=>⟨fun g3=>have h3:=dF g3;⟨⟨(by omega),(by omega)⟩,(by omega),fun g4=>have h4:=dF g4;⟨⟨(by omega),(by omega)⟩,(by omega),fun g5=>have h5:=dT g5;⟨(default),trivial,trivial,trivial,(by(try dsimp only at *);(try simp only[nat0]at *);rw[tt_no (by omega)]),trivial⟩,fun g7=>have h7:=dF g7;⟨⟨(by(try dsimp only at *);omega),(by(try dsimp only at *);omega)⟩,(by(try dsimp only at *);omega),(by(try dsimp only at *);(simp only[nat0]at *;rw[tt_yes (by omega)])),trivial⟩⟩,fun g8=>have h8:=dT g8;⟨(default),trivial,trivial,trivial,(by(try dsimp only at *);(try simp only[nat0]at *);rw[tt_no (by omega)]),trivial⟩⟩,fun g10=>have h10:=dT g10;⟨(default),trivial,trivial,trivial,(by(try dsimp only at *);(try simp only[nat0]at *);rw[tt_no (by omega)]),trivial⟩⟩)
theorem time_good:Good Tryz.prog 91 travelC/\FnOk Tryz.prog 91:=good_of tok conNv (fn:=Tryz.f91) rfl (by decide+kernel) (fun _=>rfl) time_keeps
end Go.Sym