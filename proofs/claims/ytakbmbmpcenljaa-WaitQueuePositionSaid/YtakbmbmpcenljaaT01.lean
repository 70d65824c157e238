import Derived.Test.YtakbmbmpcenljaaN6
import Derived.Test.YtakbmbmpcenljaaXD
namespace Go.Sym
set_option linter.unusedVariables false
set_option linter.unusedSimpArgs false
open Go.Proofs
set_option maxRecDepth 100000
set_option maxHeartbeats 4000000
def nanC:CT where
 X:=Int
 pre:=fun _=>True
 args:=fun a=>[.i .i64 a]
 g0:=fun _=>[]
 res:=fun _=>.b false
 g1:=fun _=>[]
set_option maxRecDepth 100000 in
theorem nan_keeps:Keeps cfgN0 Try.f57 nanC noIv:=Eq.mp (show((∀ x1:Int,(True->((decide (x1≠x1)=false)/\True))))=(Keeps cfgN0 Try.f57 nanC noIv) by kernel_rfl) (fun x1=>fun h2=>⟨(by grind),trivial⟩)
theorem nan_good:Good Try.prog 57 nanC/\FnOk Try.prog 57:=good_of tok conN0 (fn:=Try.f57) rfl (by decide+kernel) (fun _=>rfl) nan_keeps
structure I2x where
 a:Int
 b:Int
def cmpI (a b:Int):Int:=if a<b then -1 else if b<a then 1 else 0
theorem cmp_lt {a b:Int} (h:a<b):cmpI a b= -1:=if_pos h
theorem cmp_gt {a b:Int} (h:¬ a<b) (h2:b<a):cmpI a b=1:=by unfold cmpI;rw[if_neg h,if_pos h2]
theorem cmp_eq {a b:Int} (h:¬ a<b) (h2:¬ b<a):cmpI a b=0:=by unfold cmpI;rw[if_neg h,if_neg h2]
def cmpC:CT where
 X:=I2x
 pre:=fun _=>True
 args:=fun x=>[.i .i64 x.a,.i .i64 x.b]
 g0:=fun _=>[]
 res:=fun x=>.i .i64 (cmpI x.a x.b)
 g1:=fun _=>[]
def cfgJ1:Cfg:=⟨T,[],[(57,.one nanC)],noInv,20,{}⟩
theorem conJ1:ConOk Try.prog cfgJ1:=ConL.ok (.cons (ConL.one nan_good) .nil)
set_option maxRecDepth 100000 in
theorem cmp_keeps:Keeps cfgJ1 Try.f43 cmpC noIv:=Eq.mp (show((∀ x1:I2x,(True->(∃ x3:Int,(True/\((x1.a=x3/\True)/\(True/\(∃ x4:Int,(True/\((x1.b=x4/\True)/\(True/\((false=true->((false=true->(((0:Int)=cmpI x1.a x1.b)/\True))/\(false=false->(((-1:Int)=cmpI x1.a x1.b)/\True))))/\(false=false->((false=true->(((1:Int)=cmpI x1.a x1.b)/\True))/\(false=false->(((decide (x1.a<x1.b)=true)->(((-1:Int)=cmpI x1.a x1.b)/\True))/\((decide (x1.a<x1.b)=false)->(((decide (x1.b<x1.a)=true)->(((1:Int)=cmpI x1.a x1.b)/\True))/\((decide (x1.b<x1.a)=false)->(((0:Int)=cmpI x1.a x1.b)/\True))))))))))))))))))))=(Keeps cfgJ1 Try.f43 cmpC noIv) by kernel_rfl) (fun x1=>fun h2=>⟨(I2x.a x1),trivial,
⟨rfl,trivial⟩,trivial,
(I2x.b x1),trivial,
⟨rfl,trivial⟩,trivial,
fun h5=>⟨fun h6=>⟨(by(try dsimp only at *);grind),trivial⟩,
fun h7=>⟨(by(try dsimp only at *);grind),trivial⟩⟩,
fun h8=>⟨fun h9=>⟨(by(try dsimp only at *);grind),trivial⟩,
fun h10=>⟨fun g11=>have h11:=dT g11;⟨(by(try dsimp only at *);exact(cmp_lt ‹_›).symm),trivial⟩,
fun g12=>have h12:=dF g12;⟨fun g13=>have h13:=dT g13;⟨(by(try dsimp only at *);exact(cmp_gt ‹_› ‹_›).symm),trivial⟩,
fun g14=>have h14:=dF g14;⟨(by(try dsimp only at *);exact(cmp_eq ‹_› ‹_›).symm),trivial⟩⟩⟩⟩⟩)
theorem cmp_good:Good Try.prog 43 cmpC/\FnOk Try.prog 43:=good_of tok conJ1 (fn:=Try.f43) rfl (by decide+kernel) (fun _=>rfl) cmp_keeps
def orF:List Int->Int
 | []=>0
 |x::r=>if x=0 then orF r else x
theorem orF_take {l:List Int} {k:Nat} (hk:k<l.length) (h:∀ z∈l.take k,z=0) (hn:l.getD k default≠0):orF l=l.getD k default:=by
 induction l generalizing k with
 |nil=>simp at hk
 |cons x r ih=>
  cases k with
  |zero=>unfold orF;rw[if_neg (by simpa using hn)];rfl
  |succ k=>
   unfold orF
   rw[if_pos (h x (by simp))]
   exact ih (by simpa using hk) (fun z hz=>h z (by simp[hz])) hn
theorem orF_none {l:List Int} (h:∀ z∈l,z=0):orF l=0:=by
 induction l with
 |nil=>rfl
 |cons x r ih=>unfold orF;rw[if_pos (h x (by simp))];exact ih fun z hz=>h z (by simp[hz])
def orC:CT where
 X:=List Int
 pre:=fun l=>l.length<=100
 args:=fun l=>[.sl 100000 0 l.length]
 g0:=fun l=>[(100000,.rows .bor k1 l.length (encL encI l))]
 res:=fun l=>.i .i64 (orF l)
 g1:=fun _=>[]
def orI (l:List Int) (id:Nat):Option Inv:=match id with
 |0=>some { X:=Nat,ok:=fun k=>k<=l.length/\∀ z∈l.take k,z=0,fr:=fun k=>[(8,.i .i64 k)],hp:=fun _=>[],me:=fun k=>l.length-k }
 |_=>none
theorem or_step {l:List Int} {k:Nat} (h:k<=l.length/\∀ z∈l.take k,z=0) (hk:(k:Int)<l.length) (h0:¬ l.getD (0+(k:Int).toNat) default≠0):∀ z∈l.take (k+1),z=0:=by
 rw[nat0]at h0
 rw[take_succ_getD (d:=default) (by omega)]
 intro z hz
 rcases List.mem_append.1 hz with q|q
 ·exact h.2 z q
 ·rw[List.mem_singleton]at q;subst q;exact Classical.not_not.1 h0
set_option maxRecDepth 100000 in
theorem or_keeps:Keeps cfgN0 Try.f42 orC orI:=Eq.mp (show((∀ x1:List Int,((x1.length<=(100:Nat))->(∃ x3:Nat,((((x3<=x1.length)/\(∀ z4:Int,((z4∈List.take x3 x1)->z4=0)))/\(((0=(x3:Int))/\(((x1.length:Int)=(x1.length:Int))/\((0=0/\x1.length=x1.length)/\(((0:Int)=0)/\((0=0/\x1.length=x1.length)/\True)))))/\(((RLe x1.length x1.length)/\(RI x1.length x1 x1))/\True)))/\(∀ x6:Nat,((x6<=x1.length/\∀(z:Int),z∈List.take x6 x1->z=(0:Int))->(((decide ((x6:Int)<(x1.length:Int))=true)->((((0:Int)<=(x6:Int))/\((x6:Int)<(x1.length:Int)))/\((0+Int.toNat (x6:Int)<x1.length)/\(((decide (x1.getD (0+Int.toNat (x6:Int)) default≠(0:Int))=true)->((x1.getD (0+Int.toNat (x6:Int)) default=orF x1)/\True))/\((decide (x1.getD (0+Int.toNat (x6:Int)) default≠(0:Int))=false)->((((-9223372036854775808:Int)<=(x6:Int)+1)/\((x6:Int)+1<=(9223372036854775807:Int)))/\(∃ x11:Nat,((x1.length-x11<x1.length-x6)/\(((x11<=x1.length)/\(∀ z12:Int,((z12∈List.take x11 x1)->z12=0)))/\((((x6:Int)+1=(x11:Int))/\(((x1.length:Int)=(x1.length:Int))/\((0=0/\x1.length=x1.length)/\(((0:Int)=0)/\((0=0/\x1.length=x1.length)/\True)))))/\(((RLe x1.length x1.length)/\(RI x1.length x1 x1))/\True)))))))))))/\((decide ((x6:Int)<(x1.length:Int))=false)->(((0:Int)=orF x1)/\True))))))))))=(Keeps cfgN0 Try.f42 orC orI) by kernel_rfl) (fun x1=>fun h2=>⟨((0:Nat)),
⟨⟨(by(try dsimp only at *);omega),
fun z4=>fun h5=>(by(try dsimp only at *);grind)⟩,
⟨(by(try dsimp only at *);omega),rfl,
⟨rfl,rfl⟩,rfl,
⟨rfl,rfl⟩,trivial⟩,
⟨rl,rr⟩,trivial⟩,
fun x6=>fun h7=>⟨fun g8=>have h8:=dT g8;⟨⟨(by(try dsimp only at *);omega),
(by(try dsimp only at *);omega)⟩,
(by(try dsimp only at *);omega),
fun g9=>have h9:=dT g9;⟨(by(try dsimp only at *);(rw[nat0]at *;exact(orF_take (by omega) h7.2 ‹_›).symm)),trivial⟩,
fun g10=>have h10:=dF g10;⟨⟨(by(try dsimp only at *);omega),
(by(try dsimp only at *);omega)⟩,
(x6+(1:Nat)),
(by(try dsimp only at *);omega),
⟨(by(try dsimp only at *);omega),
fun z12=>fun h13=>(by(try dsimp only at *);exact or_step h7 ‹_› ‹_› _ h13)⟩,
⟨(by(try dsimp only at *);omega),rfl,
⟨rfl,rfl⟩,rfl,
⟨rfl,rfl⟩,trivial⟩,
⟨rl,rr⟩,trivial⟩⟩,
fun g14=>have h14:=dF g14;⟨(by(try dsimp only at *);(have q:=h7.2;rw[List.take_of_length_le (by omega)]at q;exact(orF_none q).symm)),trivial⟩⟩⟩)
theorem or_good:Good Try.prog 42 orC/\FnOk Try.prog 42:=good_of tok conN0 (fn:=Try.f42) rfl (by decide+kernel) (fun _=>rfl) or_keeps
structure Pl where
 rk:Int
 si:Int
 ca:Int
deriving Inhabited
def kP:List Kd:=[.int .i64,.int .i64,.int .i64]
def encP (p:Pl):Nat->D:=encN [.i p.rk,.i p.si,.i p.ca]
def plV (p:Pl):SV:=.agg [.i .i64 p.rk,.i .i64 p.si,.i .i64 p.ca]
def cmpP (a b:Pl):Int:=orF [cmpI a.rk b.rk,cmpI a.si b.si,cmpI a.ca b.ca]
structure P2x where
 a:Pl
 b:Pl
def qcC:CT where
 X:=P2x
 pre:=fun _=>True
 args:=fun x=>[plV x.a,plV x.b]
 g0:=fun _=>[]
 res:=fun x=>.i .i64 (cmpP x.a x.b)
 g1:=fun _=>[]
def cfgQc:Cfg:=⟨T,[],[(43,.one cmpC),(42,.one orC)],noInv,20,{}⟩
theorem conQc:ConOk Try.prog cfgQc:=ConL.ok (.cons (ConL.one cmp_good) (.cons (ConL.one or_good) .nil))
theorem lit3 (a b c:Int):RowsEq k1 3 (litRows [[.i a],[.i b],[.i c]]) (encL encI [a,b,c]):=
 ⟨fun r hr=>by
  rcases(show r=0∨r=1∨r=2 by omega)with h|h|h <;>subst h <;>exact⟨rfl,trivial⟩⟩
set_option maxRecDepth 100000 in
theorem qc_keeps:Keeps cfgQc Try.f35 qcC noIv:=Eq.mp (show((∀ x1:P2x,(True->(∃ x3:I2x,(True/\((x1.a.rk=x3.a/\(x1.b.rk=x3.b/\True))/\(True/\(∃ x4:I2x,(True/\((x1.a.si=x4.a/\(x1.b.si=x4.b/\True))/\(True/\(∃ x5:I2x,(True/\((x1.a.ca=x5.a/\(x1.b.ca=x5.b/\True))/\(True/\(((True/\True)/\((True/\True)/\((True/\True)/\True)))/\(∃ x6:List Int,((x6.length<=(100:Nat))/\(((0=0/\((3:Nat)=x6.length))/\True)/\((((RLe x6.length 3)/\(RowsEq [.int .i64] x6.length (litRows ((D.i (cmpI x3.a x3.b)::@List.nil D)::(D.i (cmpI x4.a x4.b)::@List.nil D)::(D.i (cmpI x5.a x5.b)::@List.nil D)::@List.nil (List D))) (encL encI x6)))/\True)/\((orF x6=cmpP x1.a x1.b)/\True)))))))))))))))))))))=(Keeps cfgQc Try.f35 qcC noIv) by kernel_rfl) (fun x1=>fun h2=>⟨({ a:=Pl.rk (P2x.a x1),b:=Pl.rk (P2x.b x1):I2x }),trivial,
⟨rfl,rfl,trivial⟩,trivial,
({ a:=Pl.si (P2x.a x1),b:=Pl.si (P2x.b x1):I2x }),trivial,
⟨rfl,rfl,trivial⟩,trivial,
({ a:=Pl.ca (P2x.a x1),b:=Pl.ca (P2x.b x1):I2x }),trivial,
⟨rfl,rfl,trivial⟩,trivial,
⟨⟨trivial,trivial⟩,
⟨trivial,trivial⟩,
⟨trivial,trivial⟩,trivial⟩,
(cmpI (Pl.rk (P2x.a x1)) (Pl.rk (P2x.b x1))::cmpI (Pl.si (P2x.a x1)) (Pl.si (P2x.b x1))::cmpI (Pl.ca (P2x.a x1)) (Pl.ca (P2x.b x1))::@List.nil Int),
(by(try dsimp only at *);grind),
⟨⟨rfl,
(by(try dsimp only at *);grind)⟩,trivial⟩,
⟨⟨⟨(by(try dsimp only at *);grind)⟩,
(by(try dsimp only at *);exact lit3 _ _ _)⟩,trivial⟩,
(by(try dsimp only at *);rfl),trivial⟩)
theorem qc_good:Good Try.prog 35 qcC/\FnOk Try.prog 35:=good_of tok conQc (fn:=Try.f35) rfl (by decide+kernel) (fun _=>rfl) qc_keeps
def ltP (a b:Pl):Bool:=decide (cmpP a b<0)
theorem ltP_iff (a b:Pl):ltP a b=true↔a.rk<b.rk∨(a.rk=b.rk/\(a.si<b.si∨(a.si=b.si/\a.ca<b.ca))):=by
 unfold ltP cmpP
 rw[decide_eq_true_iff]
 simp only[orF,cmpI]
 by_cases h1:a.rk<b.rk
 ·simp[h1]
 ·by_cases h2:b.rk<a.rk
  ·simp[h1,h2];omega
  ·by_cases h3:a.si<b.si
   ·simp[h1,h2,h3];omega
   ·by_cases h4:b.si<a.si
    ·simp[h1,h2,h3,h4];omega
    ·by_cases h5:a.ca<b.ca
     ·simp[h1,h2,h3,h4,h5];omega
     ·by_cases h6:b.ca<a.ca
      ·simp[h1,h2,h3,h4,h5,h6]
      ·simp[h1,h2,h3,h4,h5,h6]
end Go.Sym