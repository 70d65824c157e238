import Derived.Test.YtlldhkhmhgcpaaaDoorAL
import Derived.Test.YtlldhkhmhgcpaaaDoorR3
import Derived.Test.YtlldhkhmhgcpaaaDoorXD
import Derived.Test.YtlldhkhmhgcpaaaDoorN3
namespace Go.Sym
set_option linter.unusedVariables false
set_option linter.unusedSimpArgs false
open Go.Proofs
set_option maxRecDepth 100000
set_option maxHeartbeats 4000000
theorem den_q0 {ρ:Env} {l:Nat} {v:Value} (h:Den ρ (.q l 0) v):Den ρ .np v:=by
 simp only[Den]at h ⊢
 rcases h with⟨_,q⟩|⟨pl,q,_⟩
 ·exact q
 ·exact absurd rfl q
theorem den_q2 {ρ:Env} {l:Nat} {v:Value} (h:Den ρ (.q l 1) v):Den ρ (.p l 0 0) v:=by
 simp only[Den]at h ⊢
 rcases h with⟨q,_⟩|⟨pl,_,q1,q2⟩
 ·cases q
 ·exact⟨pl,q1,q2⟩
structure CaX where
 n:Int
 es:List Ed
 ts:List Int
 us:List Un
def netOk (x:CaX):Bool:=rightB ⟨x.n,x.es⟩&&decide (x.ts.length<=60/\x.us.length<=7)
def netSz (x:CaX):Nat:=if netOk x=true then 1 else 0
def caseA (x:CaX):SV:=.agg [.i .i64 x.n,.sl 100000 0 x.es.length,.sl 100001 0 x.ts.length,.sl 100002 0 x.us.length]
def caseH (x:CaX):List (Nat × Blk):=[(100000,.rows .bor kE x.es.length (encL encE x.es)),(100001,.rows .bor k1 x.ts.length (encL encI x.ts)),(100002,.rows .bor kU x.us.length (encL encU x.us))]
def CaX.g (x:CaX):Gr:=⟨x.n.toNat,x.es⟩
def netC:CT where
 X:=CaX
 pre:=fun x=>True
 args:=fun x=>[caseA x]
 g0:=caseH
 res:=fun x=>.q 1 (netSz x)
 g1:=fun x=>[(1,.rows .own kG (netSz x) (encG x.g))]
def cfgNt:Cfg:=⟨T,[],[(25,.one rightC),(16,.one newC)],noInv,60,{ kn:=true }⟩
theorem conNt:ConOk Tryd.prog cfgNt:=ConL.ok (.cons (ConL.one right_good) (.cons (ConL.one new_good) .nil))
theorem right_dim {x:NewX} (h:rightB x=true):1<=x.n/\x.n<=12/\x.es.length<=40:=by
 unfold rightB at h
 rw[Bool.and_eq_true]at h
 exact of_decide_eq_true h.1
theorem right_err {x:NewX} (h:rightB x=true):errN x=0:=by
 have:=right_dim h
 unfold rightB at h
 rw[Bool.and_eq_true]at h
 exact err_ok (by omega) (by omega) (by omega) h.2
theorem rt_y {x:NewX} (h:(!rightB x)=false):rightB x=true:=by simpa using h
theorem nt_no {x:CaX} (h:(!rightB ⟨x.n,x.es⟩)=true∨12<x.n∨40<(x.es.length:Int)∨60<(x.ts.length:Int)∨7<(x.us.length:Int)):netSz x=0:=by
 refine if_neg fun q=>?_
 unfold netOk at q
 rw[Bool.and_eq_true]at q
 have h2:=of_decide_eq_true q.2
 have h3:=right_dim q.1
 rcases h with h|h|h|h|h
 ·rw[q.1]at h;cases h
 ·have h4:x.n<=12:=h3.2.1
  omega
 ·have h4:x.es.length<=40:=h3.2.2
  omega
 ·omega
 ·omega
theorem nt_yes {x:CaX} (h:(!rightB ⟨x.n,x.es⟩)=false) (h1:¬ 60<(x.ts.length:Int)) (h2:¬ 7<(x.us.length:Int)):netSz x=1:=by
 refine if_pos ?_
 unfold netOk
 rw[rt_y h,Bool.true_and]
 exact decide_eq_true (by omega)
theorem nt_sz {x:CaX} (h:(!rightB ⟨x.n,x.es⟩)=false):szN ⟨x.n,x.es⟩=1:=if_pos (right_err (rt_y h))
set_option maxRecDepth 100000 in
theorem net_keeps:Keeps cfgNt Tryd.f12 netC noIv:=Eq.mp (show((∀ x1:CaX,(True->(∃ x3:NewX,(True/\(((x1.n=x3.n/\((0=0/\x1.es.length=x3.es.length)/\True))/\True)/\((((RLe x3.es.length x1.es.length)/\(RowsEq [.int .i64,.int .i64,.int .i64] x3.es.length (encL encE x1.es) (encL encE x3.es)))/\True)/\((((!rightB x3)=false)->(((decide (12<x1.n)=false)->(((decide (40<(x1.es.length:Int))=false)->(((decide (60<(x1.ts.length:Int))=false)->(((decide (7<(x1.us.length:Int))=true)->((netSz x1=(0:Nat))/\((netSz x1=(0:Nat))/\True)))/\((decide (7<(x1.us.length:Int))=false)->(∃ x10:NewX,((x10.es.length<=(1073741824:Nat))/\((x1.n=x10.n/\((0=0/\x1.es.length=x10.es.length)/\True))/\((((RLe x10.es.length x1.es.length)/\(RowsEq [.int .i64,.int .i64,.int .i64] x10.es.length (encL encE x1.es) (encL encE x10.es)))/\True)/\(((decide (errN x10≠(0:Int))=true)->((netSz x1=(0:Nat))/\((netSz x1=(0:Nat))/\True)))/\((decide (errN x10≠(0:Int))=false)->((szN x10=netSz x1)/\(((RLe (netSz x1) (szN x10))/\(RowsEq [.sl [.int .i64,.int .i64,.int .i64],.sl [.sl [.int .i64]],.sl [.sl [.int .i64]]] (netSz x1) (encG (NewX.g x10)) (encG (CaX.g x1))))/\True)))))))))))/\((decide (60<(x1.ts.length:Int))=true)->((netSz x1=(0:Nat))/\((netSz x1=(0:Nat))/\True)))))/\((decide (40<(x1.es.length:Int))=true)->((netSz x1=(0:Nat))/\((netSz x1=(0:Nat))/\True)))))/\((decide (12<x1.n)=true)->((netSz x1=(0:Nat))/\((netSz x1=(0:Nat))/\True)))))/\(((!rightB x3)=true)->((netSz x1=(0:Nat))/\((netSz x1=(0:Nat))/\True)))))))))))=(Keeps cfgNt Tryd.f12 netC noIv) by kernel_rfl) (fun x1=>fun h2=>⟨({ n:=CaX.n x1,es:=CaX.es x1:NewX }),trivial,
⟨⟨rfl,
⟨rfl,rfl⟩,trivial⟩,trivial⟩,
⟨⟨rl,rr⟩,trivial⟩,
fun h4=>⟨fun g5=>have h5:=dF g5;⟨fun g6=>have h6:=dF g6;⟨fun g7=>have h7:=dF g7;⟨fun g8=>have h8:=dT g8;⟨(by(try dsimp only at *);exact nt_no (.inr (.inr (.inr (.inr h8))))),
(by(try dsimp only at *);exact nt_no (.inr (.inr (.inr (.inr h8))))),trivial⟩,
fun g9=>have h9:=dF g9;⟨({ n:=CaX.n x1,es:=CaX.es x1:NewX }),
(by(try dsimp only at *);omega),
⟨rfl,
⟨rfl,rfl⟩,trivial⟩,
⟨⟨rl,rr⟩,trivial⟩,
fun g11=>have h11:=dT g11;⟨(by(try dsimp only at *);exact absurd (right_err (rt_y h4)) h11),
(by(try dsimp only at *);exact absurd (right_err (rt_y h4)) h11),trivial⟩,
fun g12=>have h12:=dF g12;⟨(by(try dsimp only at *);exact(nt_sz h4).trans (nt_yes h4 h7 h9).symm),
⟨⟨(by(try dsimp only at *);exact Nat.le_of_eq ((nt_yes h4 h7 h9).trans (nt_sz h4).symm))⟩,
(by(try dsimp only at *);exact rr)⟩,trivial⟩⟩⟩,
fun g13=>have h13:=dT g13;⟨(by(try dsimp only at *);exact nt_no (.inr (.inr (.inr (.inl h13))))),
(by(try dsimp only at *);exact nt_no (.inr (.inr (.inr (.inl h13))))),trivial⟩⟩,
fun g14=>have h14:=dT g14;⟨(by(try dsimp only at *);exact nt_no (.inr (.inr (.inl h14)))),
(by(try dsimp only at *);exact nt_no (.inr (.inr (.inl h14)))),trivial⟩⟩,
fun g15=>have h15:=dT g15;⟨(by(try dsimp only at *);exact nt_no (.inr (.inl h15))),
(by(try dsimp only at *);exact nt_no (.inr (.inl h15))),trivial⟩⟩,
fun h16=>⟨(by(try dsimp only at *);exact nt_no (.inl h16)),
(by(try dsimp only at *);exact nt_no (.inl h16)),trivial⟩⟩)
theorem net_good:Good Tryd.prog 12 netC/\FnOk Tryd.prog 12:=good_of tok conNt (fn:=Tryd.f12) rfl (by decide+kernel) (fun _=>rfl) net_keeps
def netYesC:CT where
 X:=CaX
 pre:=fun x=>netOk x=true
 args:=fun x=>[caseA x]
 g0:=caseH
 res:=fun x=>.p 1 0 0
 g1:=fun x=>[(1,.rows .own kG 1 (encG x.g))]
def netNoC:CT where
 X:=CaX
 pre:=fun x=>netOk x=false
 args:=fun x=>[caseA x]
 g0:=caseH
 res:=fun x=>.np
 g1:=fun x=>[(1,.rows .own kG 0 (encG x.g))]
theorem netYes_good:Good Tryd.prog 12 netYesC/\FnOk Tryd.prog 12:=by
 refine⟨good_say (ct:=netC) (ct':=netYesC) (fun x=>x) net_good.1 (fun x h=>trivial) (fun _=>rfl) (fun _=>rfl) (fun x h=>?_) (fun x h ρ v hd=>?_) (fun x=>rfl),net_good.2⟩
 ·have e:netSz x=1:=if_pos h
  show [(1,Blk.rows .own kG (netSz x) (encG x.g))]=_
  rw[e];rfl
 ·have e:netSz x=1:=if_pos h
  have hd:Den ρ (.q 1 (netSz x)) v:=hd
  rw[e]at hd
  exact den_q2 hd
theorem netNo_good:Good Tryd.prog 12 netNoC/\FnOk Tryd.prog 12:=by
 refine⟨good_say (ct:=netC) (ct':=netNoC) (fun x=>x) net_good.1 (fun x h=>trivial) (fun _=>rfl) (fun _=>rfl) (fun x h=>?_) (fun x h ρ v hd=>?_) (fun x=>rfl),net_good.2⟩
 ·have e:netSz x=0:=if_neg (by rw[h];decide)
  show [(1,Blk.rows .own kG (netSz x) (encG x.g))]=_
  rw[e];rfl
 ·have e:netSz x=0:=if_neg (by rw[h];decide)
  have hd:Den ρ (.q 1 (netSz x)) v:=hd
  rw[e]at hd
  exact den_q0 hd
theorem net_gok {x:CaX} (h:netOk x=true):GOk x.g/\x.g.n<=12/\((x.g.n:Nat):Int)=x.n/\x.ts.length<=60/\x.us.length<=7:=by
 unfold netOk at h
 rw[Bool.and_eq_true]at h
 have h2:=of_decide_eq_true h.2
 have h3:=right_dim h.1
 have h3:1<=x.n/\x.n<=12/\x.es.length<=40:=h3
 have ha:=h.1
 unfold rightB at ha
 rw[Bool.and_eq_true]at ha
 refine⟨gok (x:=⟨x.n,x.es⟩) (by show ¬ x.n<1;omega) (by show ¬ 4096<x.n;omega) (by show ¬ 16384<x.es.length;omega) ha.2,?_,?_,h2.1,h2.2⟩
 ·show x.n.toNat<=12;omega
 ·show((x.n.toNat:Nat):Int)=x.n;omega
theorem both_b {P:Program} [Glob] {f:Nat} {X:Type} {p:X->Prop} {b:X->Bool} {a:X->List SV} {g0:X->List (Nat × Blk)} {r:X->SV} {g1:X->List (Nat × Blk)} (h1:Good P f ⟨X,fun x=>p x/\b x=true,a,g0,r,g1⟩) (h2:Good P f ⟨X,fun x=>p x/\b x=false,a,g0,r,g1⟩):Good P f ⟨X,p,a,g0,r,g1⟩:=by
 intro x hx
 cases hb:b x with
 |true=>exact h1 x ⟨hx,hb⟩
 |false=>exact h2 x ⟨hx,hb⟩
end Go.Sym
namespace Go.Sym
set_option linter.unusedVariables false
set_option linter.unusedSimpArgs false
open Go.Proofs
set_option maxRecDepth 100000
set_option maxHeartbeats 4000000
def ofLC:CT:={ ofC with pre:=fun l=>l.length<=9223372036854775807 }
set_option maxRecDepth 100000 in
theorem ofL_keeps:Keeps cfgN1 Tryd.f13 ofLC ofI:=Eq.mp (show((∀ x1:List Int,((x1.length<=(9223372036854775807:Nat))->(∃ x3:Nat,(((x3<=x1.length)/\(((0=(x3:Int))/\((0=0/\0=0)/\((0=0/\0=0)/\(((x1.length:Int)=(x1.length:Int))/\((0=0/\x1.length=x1.length)/\((0=0/\x1.length=x1.length)/\True))))))/\((True/\True)/\((RLe 64 64/\(RowsEq [.int .u64] 64 (fun(x j:Nat)=>zRow [.int .u64] j) (encL encW (ofW x1 x3))))/\(((RLe x1.length x1.length)/\(RI x1.length x1 x1))/\True)))))/\(∀ x4:Nat,((x4<=x1.length)->(((decide ((x4:Int)<(x1.length:Int))=true)->((((0:Int)<=(x4:Int))/\((x4:Int)<(x1.length:Int)))/\((0+Int.toNat (x4:Int)<x1.length)/\(((decide ((0:Int)<=x1.getD (0+Int.toNat (x4:Int)) default)=true)->(((decide (x1.getD (0+Int.toNat (x4:Int)) default<4096)=true)->(∃ x9:BitX,(((WOk x9.ws)/\(((0:Int)<=x9.n)/\(x9.n<(4096:Int))))/\(((0=0/\0=0)/\((x1.getD (0+Int.toNat (x4:Int)) default=x9.n)/\True))/\(((RLe 64 64/\(RowsEq [.int .u64] 64 (encL encW (ofW x1 x4)) (encL encW x9.ws)))/\True)/\((((-9223372036854775808:Int)<=(x4:Int)+1)/\((x4:Int)+1<=(9223372036854775807:Int)))/\(∃ x10:Nat,((x1.length-x10<x1.length-x4)/\((x10<=x1.length)/\((((x4:Int)+1=(x10:Int))/\((0=0/\0=0)/\((0=0/\0=0)/\(((x1.length:Int)=(x1.length:Int))/\((0=0/\x1.length=x1.length)/\((0=0/\x1.length=x1.length)/\True))))))/\((True/\True)/\((RLe 64 64/\(RowsEq [.int .u64] 64 (encL encW (addW x9.ws x9.n)) (encL encW (ofW x1 x10))))/\(((RLe x1.length x1.length)/\(RI x1.length x1 x1))/\True)))))))))))))/\((decide (x1.getD (0+Int.toNat (x4:Int)) default<4096)=false)->((((-9223372036854775808:Int)<=(x4:Int)+1)/\((x4:Int)+1<=(9223372036854775807:Int)))/\(∃ x12:Nat,((x1.length-x12<x1.length-x4)/\((x12<=x1.length)/\((((x4:Int)+1=(x12:Int))/\((0=0/\0=0)/\((0=0/\0=0)/\(((x1.length:Int)=(x1.length:Int))/\((0=0/\x1.length=x1.length)/\((0=0/\x1.length=x1.length)/\True))))))/\((True/\True)/\((RLe 64 64/\(RowsEq [.int .u64] 64 (encL encW (ofW x1 x4)) (encL encW (ofW x1 x12))))/\(((RLe x1.length x1.length)/\(RI x1.length x1 x1))/\True)))))))))))/\((decide ((0:Int)<=x1.getD (0+Int.toNat (x4:Int)) default)=false)->((((-9223372036854775808:Int)<=(x4:Int)+1)/\((x4:Int)+1<=(9223372036854775807:Int)))/\(∃ x14:Nat,((x1.length-x14<x1.length-x4)/\((x14<=x1.length)/\((((x4:Int)+1=(x14:Int))/\((0=0/\0=0)/\((0=0/\0=0)/\(((x1.length:Int)=(x1.length:Int))/\((0=0/\x1.length=x1.length)/\((0=0/\x1.length=x1.length)/\True))))))/\((True/\True)/\((RLe 64 64/\(RowsEq [.int .u64] 64 (encL encW (ofW x1 x4)) (encL encW (ofW x1 x14))))/\(((RLe x1.length x1.length)/\(RI x1.length x1 x1))/\True)))))))))))))/\((decide ((x4:Int)<(x1.length:Int))=false)->(∃ x16:List Nat,((WOk x16)/\(((0=0/\0=0)/\True)/\(((RLe 64 64/\(RowsEq [.int .u64] 64 (encL encW (ofW x1 x4)) (encL encW x16)))/\True)/\(((szW x16=szW (ofW x1 x1.length))/\True)/\(((RLe (szW (ofW x1 x1.length)) (szW x16))/\(RowsEq [.int .u64] (szW (ofW x1 x1.length)) (encL encW x16) (encL encW (ofW x1 x1.length))))/\True)))))))))))))))=(Keeps cfgN1 Tryd.f13 ofLC ofI) by kernel_rfl) (fun x1=>fun h2=>⟨((0:Nat)),
⟨(by(try dsimp only at *);omega),
⟨(by(try dsimp only at *);omega),
⟨rfl,rfl⟩,
⟨rfl,rfl⟩,rfl,
⟨rfl,rfl⟩,
⟨rfl,rfl⟩,trivial⟩,
⟨trivial,trivial⟩,
⟨rl,
(by(try dsimp only at *);exact nil_rows)⟩,
⟨rl,rr⟩,trivial⟩,
fun x4=>fun h5=>⟨fun g6=>have h6:=dT g6;⟨⟨(by(try dsimp only at *);omega),
(by(try dsimp only at *);omega)⟩,
(by(try dsimp only at *);omega),
fun g7=>have h7:=dT g7;⟨fun g8=>have h8:=dT g8;⟨({ ws:=ofW x1 x4,n:=List.getD x1 ((0:Nat)+Int.toNat (↑x4:Int)) default:BitX }),
⟨(by(try dsimp only at *);exact ofW_ok _ _),
(by(try dsimp only at *);omega),
(by(try dsimp only at *);omega)⟩,
⟨⟨rfl,rfl⟩,rfl,trivial⟩,
⟨⟨rl,rr⟩,trivial⟩,
⟨(by(try dsimp only at *);omega),
(by(try dsimp only at *);omega)⟩,
(x4+(1:Nat)),
(by(try dsimp only at *);omega),
(by(try dsimp only at *);omega),
⟨(by(try dsimp only at *);omega),
⟨rfl,rfl⟩,
⟨rfl,rfl⟩,rfl,
⟨rfl,rfl⟩,
⟨rfl,rfl⟩,trivial⟩,
⟨trivial,trivial⟩,
⟨rl,
(by
       (dsimp only;rw[of_yes h6 h7 h8];exact rr))⟩,
⟨rl,rr⟩,trivial⟩,
fun g11=>have h11:=dF g11;⟨⟨(by(try dsimp only at *);omega),
(by(try dsimp only at *);omega)⟩,
(x4+(1:Nat)),
(by(try dsimp only at *);omega),
(by(try dsimp only at *);omega),
⟨(by(try dsimp only at *);omega),
⟨rfl,rfl⟩,
⟨rfl,rfl⟩,rfl,
⟨rfl,rfl⟩,
⟨rfl,rfl⟩,trivial⟩,
⟨trivial,trivial⟩,
⟨rl,
(by
       (rw[<- of_no h6 (fun h=>h11 h.2)];exact rr))⟩,
⟨rl,rr⟩,trivial⟩⟩,
fun g13=>have h13:=dF g13;⟨⟨(by(try dsimp only at *);omega),
(by(try dsimp only at *);omega)⟩,
(x4+(1:Nat)),
(by(try dsimp only at *);omega),
(by(try dsimp only at *);omega),
⟨(by(try dsimp only at *);omega),
⟨rfl,rfl⟩,
⟨rfl,rfl⟩,rfl,
⟨rfl,rfl⟩,
⟨rfl,rfl⟩,trivial⟩,
⟨trivial,trivial⟩,
⟨rl,
(by
       (rw[<- of_no h6 (fun h=>h13 h.1)];exact rr))⟩,
⟨rl,rr⟩,trivial⟩⟩,
fun g15=>have h15:=dF g15;⟨(ofW x1 x4),
(by(try dsimp only at *);exact ofW_ok _ _),
⟨⟨rfl,rfl⟩,trivial⟩,
⟨⟨rl,rr⟩,trivial⟩,
⟨(by(try dsimp only at *);grind),trivial⟩,
⟨⟨(by(try dsimp only at *);grind)⟩,
(by
       (obtain rfl:x4=x1.length:=(by omega);exact rr))⟩,trivial⟩⟩⟩)
theorem ofL_good:Good Tryd.prog 13 ofLC/\FnOk Tryd.prog 13:=good_of tok conN1 (fn:=Tryd.f13) rfl (by decide+kernel) (fun _=>rfl) ofL_keeps
end Go.Sym