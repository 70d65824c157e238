import Derived.Test.YtpommejalaechaaDoorR1
import Derived.Test.YtpommejalaechaaDoorXD
import Derived.Test.YtpommejalaechaaDoorN6
namespace Go.Sym
set_option linter.unusedVariables false
set_option linter.unusedSimpArgs false
open Go.Proofs
set_option maxRecDepth 100000
set_option maxHeartbeats 4000000
structure LLX where
 a:List Int
 b:List Int
def sameC:CT where
 X:=LLX
 pre:=fun x=>x.a.length<=1073741824
 args:=fun x=>[.sl 100000 0 x.a.length,.sl 100001 0 x.b.length]
 g0:=fun x=>[(100000,.rows .bor k1 x.a.length (encL encI x.a)),(100001,.rows .bor k1 x.b.length (encL encI x.b))]
 res:=fun x=>.b (decide (x.a=x.b))
 g1:=fun _=>[]
def sameI (x:LLX) (id:Nat):Option Inv:=match id with
 |0=>some { X:=Nat,ok:=fun k=>k<=x.a.length/\x.a.take k=x.b.take k,fr:=fun k=>[(13,.i .i64 k)],hp:=fun _=>[],me:=fun k=>x.a.length-k }
 |_=>none
theorem same_step {a b:List Int} {k:Nat} (hl:¬ (a.length:Int)≠b.length) (hk:(k:Int)<a.length) (h:¬ a.getD (0+(k:Int).toNat) default≠b.getD (0+(k:Int).toNat) default) (ht:k<=a.length/\a.take k=b.take k):a.take (k+1)=b.take (k+1):=by
 rw[nat0]at h
 rw[take_succ_getD (d:=default) (by omega),take_succ_getD (d:=default) (by omega),ht.2]
 have:a.getD k default=b.getD k default:=by omega
 rw[this]
set_option maxRecDepth 100000 in
theorem same_keeps:Keeps cfgN0 Tryd.f19 sameC sameI:=Eq.mp (show((∀ x1:LLX,((x1.a.length<=(1073741824:Nat))->(((decide ((x1.a.length:Int)≠(x1.b.length:Int))=true)->((false=decide (x1.a=x1.b))/\True))/\((decide ((x1.a.length:Int)≠(x1.b.length:Int))=false)->(∃ x5:Nat,((((x5<=x1.a.length)/\(List.take x5 x1.a=List.take x5 x1.b))/\(((0=(x5:Int))/\(((x1.a.length:Int)=(x1.a.length:Int))/\((0=0/\x1.a.length=x1.a.length)/\((decide ((x1.a.length:Int)≠(x1.b.length:Int))=decide ((x1.a.length:Int)≠(x1.b.length:Int)))/\(((x1.b.length:Int)=(x1.b.length:Int))/\((0=0/\x1.b.length=x1.b.length)/\(((x1.a.length:Int)=(x1.a.length:Int))/\((0=0/\x1.a.length=x1.a.length)/\((0=0/\x1.a.length=x1.a.length)/\((0=0/\x1.b.length=x1.b.length)/\True))))))))))/\(((RLe x1.a.length x1.a.length)/\(RI x1.a.length x1.a x1.a))/\(((RLe x1.b.length x1.b.length)/\(RI x1.b.length x1.b x1.b))/\True))))/\(∀ x6:Nat,((x6<=x1.a.length/\List.take x6 x1.a=List.take x6 x1.b)->(((decide ((x6:Int)<(x1.a.length:Int))=true)->((((0:Int)<=(x6:Int))/\((x6:Int)<(x1.a.length:Int)))/\((0+Int.toNat (x6:Int)<x1.a.length)/\((((0:Int)<=(x6:Int))/\((x6:Int)<(x1.b.length:Int)))/\((0+Int.toNat (x6:Int)<x1.b.length)/\(((decide (x1.a.getD (0+Int.toNat (x6:Int)) default≠x1.b.getD (0+Int.toNat (x6:Int)) default)=true)->((false=decide (x1.a=x1.b))/\True))/\((decide (x1.a.getD (0+Int.toNat (x6:Int)) default≠x1.b.getD (0+Int.toNat (x6:Int)) default)=false)->((((-9223372036854775808:Int)<=(x6:Int)+1)/\((x6:Int)+1<=(9223372036854775807:Int)))/\(∃ x11:Nat,((x1.a.length-x11<x1.a.length-x6)/\(((x11<=x1.a.length)/\(List.take x11 x1.a=List.take x11 x1.b))/\((((x6:Int)+1=(x11:Int))/\(((x1.a.length:Int)=(x1.a.length:Int))/\((0=0/\x1.a.length=x1.a.length)/\((decide ((x1.a.length:Int)≠(x1.b.length:Int))=decide ((x1.a.length:Int)≠(x1.b.length:Int)))/\(((x1.b.length:Int)=(x1.b.length:Int))/\((0=0/\x1.b.length=x1.b.length)/\(((x1.a.length:Int)=(x1.a.length:Int))/\((0=0/\x1.a.length=x1.a.length)/\((0=0/\x1.a.length=x1.a.length)/\((0=0/\x1.b.length=x1.b.length)/\True))))))))))/\(((RLe x1.a.length x1.a.length)/\(RI x1.a.length x1.a x1.a))/\(((RLe x1.b.length x1.b.length)/\(RI x1.b.length x1.b x1.b))/\True))))))))))))))/\((decide ((x6:Int)<(x1.a.length:Int))=false)->((true=decide (x1.a=x1.b))/\True))))))))))))=(Keeps cfgN0 Tryd.f19 sameC sameI) by kernel_rfl) (fun x1=>fun h2=>⟨fun g3=>have h3:=dT g3;⟨(by grind),trivial⟩,
fun g4=>have h4:=dF g4;⟨((0:Nat)),
⟨⟨(by omega),
(by grind)⟩,
⟨(by omega),rfl,
⟨rfl,rfl⟩,rfl,rfl,
⟨rfl,rfl⟩,rfl,
⟨rfl,rfl⟩,
⟨rfl,rfl⟩,
⟨rfl,rfl⟩,trivial⟩,
⟨rl,rr⟩,
⟨rl,rr⟩,trivial⟩,
fun x6=>fun h7=>⟨fun g8=>have h8:=dT g8;⟨⟨(by omega),
(by omega)⟩,
(by omega),
⟨(by omega),
(by omega)⟩,
(by omega),
fun g9=>have h9:=dT g9;⟨(by grind),trivial⟩,
fun g10=>have h10:=dF g10;⟨⟨(by omega),
(by omega)⟩,
(x6+(1:Nat)),
(by omega),
⟨(by omega),
(same_step (by assumption) (by assumption) (by assumption) (by assumption))⟩,
⟨(by omega),rfl,
⟨rfl,rfl⟩,rfl,rfl,
⟨rfl,rfl⟩,rfl,
⟨rfl,rfl⟩,
⟨rfl,rfl⟩,
⟨rfl,rfl⟩,trivial⟩,
⟨rl,rr⟩,
⟨rl,rr⟩,trivial⟩⟩,
fun g12=>have h12:=dF g12;⟨(by grind),trivial⟩⟩⟩⟩)
theorem same_good:Good Tryd.prog 19 sameC/\FnOk Tryd.prog 19:=good_of tok conN0 (fn:=Tryd.f19) rfl (by decide+kernel) (fun _=>rfl) same_keeps
end Go.Sym
namespace Go.Sym
set_option linter.unusedVariables false
set_option linter.unusedSimpArgs false
open Go.Proofs
set_option maxRecDepth 100000
def equalC:CT where
 X:=TwoX
 pre:=fun x=>WOk x.a/\WOk x.b
 args:=fun x=>[setV x.a 100000,setV x.b 100001]
 g0:=fun x=>setH x.a .bor 100000++setH x.b .bor 100001
 res:=fun x=>.b (decide (x.a=x.b))
 g1:=fun x=>[]
set_option maxRecDepth 100000 in
theorem equal_keeps:Keeps cfgN0 Tryd.f21 equalC noIv:=Eq.mp (show((∀ x1:TwoX,((WOk x1.a/\WOk x1.b)->(((decide (szW x1.a=(0:Nat))=false)->(((decide (szW x1.b=(0:Nat))=true)->((szW x1.a=(0:Nat)∨szW x1.b=(0:Nat))/\((decide (szW x1.a=(0:Nat)/\szW x1.b=(0:Nat))=decide (x1.a=x1.b))/\True)))/\((decide (szW x1.b=(0:Nat))=false)->((szW x1.a≠(0:Nat))/\((0=0/\((64:Nat)<=szW x1.a))/\((szW x1.b≠(0:Nat))/\((0=0/\((64:Nat)<=szW x1.b))/\((decide (∀(r:Nat),r<(64:Nat)->(↑(x1.a.getD r default):Int)=(↑(x1.b.getD r default):Int))=decide (x1.a=x1.b))/\True))))))))/\((decide (szW x1.a=(0:Nat))=true)->((szW x1.a=(0:Nat)∨szW x1.b=(0:Nat))/\((decide (szW x1.a=(0:Nat)/\szW x1.b=(0:Nat))=decide (x1.a=x1.b))/\True)))))))=(Keeps cfgN0 Tryd.f21 equalC noIv) by kernel_rfl) (fun x1=>fun h2=>⟨fun g3=>have h3:=dF g3;⟨fun g4=>have h4:=dT g4;⟨(by omega),
(by apply decide_eq_decide.2;rw[szW_zero,szW_zero];have q:=szW_zero.1 h4;exact⟨fun h=>h.1.trans h.2.symm,fun h=>⟨h.trans q,q⟩⟩),trivial⟩,
fun g5=>have h5:=dF g5;⟨(by omega),
⟨rfl,
(by rw[szW_full ‹_›];exact Nat.le_refl _)⟩,
(by omega),
⟨rfl,
(by rw[szW_full ‹_›];exact Nat.le_refl _)⟩,
(by apply decide_eq_decide.2;exact⟨fun h=>words_eq h2.1 h2.2 h,fun h r _=>by rw[h]⟩),trivial⟩⟩,
fun g6=>have h6:=dT g6;⟨(by omega),
(by apply decide_eq_decide.2;rw[szW_zero,szW_zero];have q:=szW_zero.1 h6;exact⟨fun h=>h.1.trans h.2.symm,fun h=>⟨q,h▸q⟩⟩),trivial⟩⟩)
theorem equal_good:Good Tryd.prog 21 equalC/\FnOk Tryd.prog 21:=good_of tok conN0 (fn:=Tryd.f21) rfl (by decide+kernel) (fun _=>rfl) equal_keeps
end Go.Sym