import Derived.Test.YtpnnecijeoipfaaGreatDoorOA
import Derived.Test.YtpnnecijeoipfaaGreatDoorXD
namespace Go.Sym
set_option linter.unusedVariables false
set_option linter.unusedSimpArgs false
open Go.Proofs
set_option maxRecDepth 100000
set_option maxHeartbeats 4000000
def grC:CT where
 X:=Int
 pre:=fun n=>0<=n/\n<=100000
 args:=fun n=>[.ns,.i .i64 n]
 g0:=fun _=>[]
 res:=fun _=>.sl 1 0 0
 g1:=fun _=>[(1,.rows .own k1 0 (encL encI []))]
def grI (_:Int) (id:Nat):Option Inv:=match id with
 |100006=>some (cutT 6 false)
 |_=>none
set_option maxRecDepth 100000 in
theorem grL_keeps:Keeps cfgN0 Tryz.f51 grC grI:=Eq.mp (show((∀ x1:Int,(((0:Int)<=x1/\x1<=(100000:Int))->((∃ x3:Unit,(True/\((decide (x1<0)=false)/\True)))/\(∀ x4:Unit,(True->((((-9223372036854775808:Int)<=(0:Int)-0)/\((0:Int)-0<=(9223372036854775807:Int)))/\((((-9223372036854775808:Int)<=x1-((0:Int)-0))/\(x1-((0:Int)-0)<=(9223372036854775807:Int)))/\(((decide (0<x1-((0:Int)-0))=true)->((((0:Int)=0)/\((0:Int)=0))/\((((0:Int)<=x1-((0:Int)-0))/\(x1-((0:Int)-0)<=(1048576:Int)))/\((((0:Int)<=(0:Int))/\(((0:Int)<=(0:Int))/\((0:Int)<=(↑(Int.toNat (x1-((0:Int)-0))):Int))))/\(((0+Int.toNat (0:Int)=(0:Nat))/\(Int.toNat (0:Int)-Int.toNat (0:Int)=(0:Nat)))/\(((RLe 0 (Int.toNat (x1-((0:Int)-0))))/\(RowsEq [.int .i64] 0 (fun(x j:Nat)=>zRow [.int .i64] j) (encL encI (@List.nil Int))))/\True))))))/\((decide (0<x1-((0:Int)-0))=false)->((True/\(0=0/\0=0))/\(0=0/\True))))))))))))=(Keeps cfgN0 Tryz.f51 grC grI) by kernel_rfl) (fun x1=>fun h2=>⟨⟨(default),trivial,
(by(try dsimp only at *);grind),trivial⟩,
fun x4=>fun h5=>⟨⟨(by(try dsimp only at *);omega),
(by(try dsimp only at *);omega)⟩,
⟨(by(try dsimp only at *);omega),
(by(try dsimp only at *);omega)⟩,
fun g6=>have h6:=dT g6;⟨⟨rfl,rfl⟩,
⟨(by(try dsimp only at *);omega),
(by(try dsimp only at *);omega)⟩,
⟨(by(try dsimp only at *);omega),
(by(try dsimp only at *);omega),
(by(try dsimp only at *);omega)⟩,
⟨(by(try dsimp only at *);omega),
(by(try dsimp only at *);omega)⟩,
⟨⟨(by(try dsimp only at *);omega)⟩,
(by(try dsimp only at *);exact rowsEq0)⟩,trivial⟩,
fun g7=>have h7:=dF g7;⟨⟨trivial,rfl,rfl⟩,rfl,trivial⟩⟩⟩)
theorem grL_good:Good Tryz.prog 51 grC/\FnOk Tryz.prog 51:=good_of tok conN0 (fn:=Tryz.f51) rfl (by decide+kernel) (fun _=>rfl) grL_keeps
set_option maxRecDepth 100000 in
theorem grI_keeps:Keeps cfgN0 Tryz.f52 grC grI:=Eq.mp (show((∀ x1:Int,(((0:Int)<=x1/\x1<=(100000:Int))->((∃ x3:Unit,(True/\((decide (x1<0)=false)/\True)))/\(∀ x4:Unit,(True->((((-9223372036854775808:Int)<=(0:Int)-0)/\((0:Int)-0<=(9223372036854775807:Int)))/\((((-9223372036854775808:Int)<=x1-((0:Int)-0))/\(x1-((0:Int)-0)<=(9223372036854775807:Int)))/\(((decide (0<x1-((0:Int)-0))=true)->((((0:Int)=0)/\((0:Int)=0))/\((((0:Int)<=x1-((0:Int)-0))/\(x1-((0:Int)-0)<=(1048576:Int)))/\((((0:Int)<=(0:Int))/\(((0:Int)<=(0:Int))/\((0:Int)<=(↑(Int.toNat (x1-((0:Int)-0))):Int))))/\(((0+Int.toNat (0:Int)=(0:Nat))/\(Int.toNat (0:Int)-Int.toNat (0:Int)=(0:Nat)))/\(((RLe 0 (Int.toNat (x1-((0:Int)-0))))/\(RowsEq [.int .i64] 0 (fun(x j:Nat)=>zRow [.int .i64] j) (encL encI (@List.nil Int))))/\True))))))/\((decide (0<x1-((0:Int)-0))=false)->((True/\(0=0/\0=0))/\(0=0/\True))))))))))))=(Keeps cfgN0 Tryz.f52 grC grI) by kernel_rfl) (fun x1=>fun h2=>⟨⟨(default),trivial,
(by(try dsimp only at *);grind),trivial⟩,
fun x4=>fun h5=>⟨⟨(by(try dsimp only at *);omega),
(by(try dsimp only at *);omega)⟩,
⟨(by(try dsimp only at *);omega),
(by(try dsimp only at *);omega)⟩,
fun g6=>have h6:=dT g6;⟨⟨rfl,rfl⟩,
⟨(by(try dsimp only at *);omega),
(by(try dsimp only at *);omega)⟩,
⟨(by(try dsimp only at *);omega),
(by(try dsimp only at *);omega),
(by(try dsimp only at *);omega)⟩,
⟨(by(try dsimp only at *);omega),
(by(try dsimp only at *);omega)⟩,
⟨⟨(by(try dsimp only at *);omega)⟩,
(by(try dsimp only at *);exact rowsEq0)⟩,trivial⟩,
fun g7=>have h7:=dF g7;⟨⟨trivial,rfl,rfl⟩,rfl,trivial⟩⟩⟩)
theorem grI_good:Good Tryz.prog 52 grC/\FnOk Tryz.prog 52:=good_of tok conN0 (fn:=Tryz.f52) rfl (by decide+kernel) (fun _=>rfl) grI_keeps
structure CTx where
 a:List Int
 b:List Int
def rowPP (a b:List Int) (r:Nat) (_:Nat):D:=if r=0 then .l a.length (encL encI a)else .l b.length (encL encI b)
def atPP (q:CTx) (k:Nat):List Int:=if k=0 then q.a else q.b
def catPP (q:CTx) (k:Nat):List Int:=if k=0 then []else if k=1 then q.a else q.a++q.b
theorem rowPP_at (q:CTx) (k:Nat):rowPP q.a q.b k 0= .l (atPP q k).length (encL encI (atPP q k)):=by unfold rowPP atPP;split <;>rfl
theorem catPP_succ (q:CTx) {k:Nat} (h:k<2):catPP q (k+1)=catPP q k++atPP q k:=by
 rcases(show k=0∨k=1 by omega)with e|e <;>subst e <;>simp[catPP,atPP]
structure CTok (q:CTx):Prop where
 a:q.a.length<=1000
 b:q.b.length<=1000
theorem CTok.at {q:CTx} (h:CTok q) (k:Nat):(atPP q k).length<=1000:=by unfold atPP;split;exact h.a;exact h.b
theorem CTok.cat {q:CTx} (h:CTok q) (k:Nat):(catPP q k).length<=2000:=by
 have:=h.a;have:=h.b
 unfold catPP;split
 ·simp
 ·split
  ·omega
  ·simp;omega
def kPP:List Kd:=[.sl [.int .i64]]
def ctC:CT where
 X:=CTx
 pre:=CTok
 args:=fun _=>[.sl 100000 0 2]
 g0:=fun q=>[(100000,.rows .bor kPP 2 (rowPP q.a q.b))]
 res:=fun q=>.sl 1 0 (q.a++q.b).length
 g1:=fun q=>[(1,.rows .own k1 (q.a++q.b).length (encL encI (q.a++q.b)))]
def ctI (q:CTx) (id:Nat):Option Inv:=match id with
 |0=>some { X:=Nat,ok:=fun k=>k<=2,fr:=fun k=>[(11,.i .i64 k),(3,.i .i64 (catPP q k).length)],hp:=fun _=>[],me:=fun k=>2-k,inn:=fun _ id=>match id with|100020=>some (cutT 20 false)|_=>none }
 |2=>some { X:=Nat,ok:=fun k=>k<=2,fr:=fun k=>[(27,.i .i64 k),(6,.sl 41 0 (catPP q k).length)],hp:=fun k=>[(41,.rows .own k1 (catPP q k).length (encL encI (catPP q k)))],me:=fun k=>2-k }
 |_=>none
theorem ct_len {q:CTx} {k:Nat} (h:(k:Int)<(2:Nat)):((catPP q k).length:Int)+((rowPP q.a q.b k 0).toN:Nat)=(catPP q (k+1)).length:=by
 rw[rowPP_at,catPP_succ q (by omega),List.length_append];show _+((atPP q k).length:Int)=_;omega
theorem ct_lenN {q:CTx} {k:Nat} (h:(k:Int)<(2:Nat)):(catPP q k).length+(rowPP q.a q.b k 0).toN=(catPP q (k+1)).length:=by
 rw[rowPP_at,catPP_succ q (by omega),List.length_append];rfl
theorem ct_app {q:CTx} {k n:Nat} (h:(k:Int)<(2:Nat)) (hn:n<=(catPP q (k+1)).length):RowsEq k1 n (appRows (catPP q k).length (encL encI (catPP q k)) 0 (rowPP q.a q.b k 0).toF) (encL encI (catPP q (k+1))):=by
 rw[rowPP_at,catPP_succ q (by omega)]at*
 exact rowsEq_app rfl (by rw[List.length_append]at hn;exact hn) fun i _=>by show rowEq k1 (encL encI (atPP q k) (0+i)) _ 0;rw[Nat.zero_add];exact rowEq_rfl _ _ _
theorem ct_rng {q:CTx} (h:CTok q) (k:Nat):(rowPP q.a q.b k 0).toN<=1000:=by rw[rowPP_at];exact h.at k
theorem ct_end {q:CTx} {k:Nat} (h:k<=2) (h2:¬ (k:Int)<(2:Nat)):catPP q k=q.a++q.b:=by
 have e:k=2:=by omega
 subst e
 rfl
def cfgCtL:Cfg:=⟨T,[],[(51,.one grC)],noInv,11,{}⟩
theorem conCtL:ConOk Tryz.prog cfgCtL:=ConL.ok (.cons (ConL.one grL_good) .nil)
set_option maxRecDepth 100000 in
theorem ctL_keeps:Keeps cfgCtL Tryz.f33 ctC ctI:=Eq.mp (show((∀ x1:CTx,((CTok x1)->(∃ x3:Nat,(((x3<=(2:Nat))/\(((0=(x3:Int))/\((0=(↑(catPP x1 x3).length:Int))/\(((↑(2:Nat):Int)=(↑(2:Nat):Int))/\((0=0/\((2:Nat)=(2:Nat)))/\(True/\((0=0/\((2:Nat)=(2:Nat)))/\True))))))/\((RLe 2 2/\(RowsEq [.sl [.int .i64]] 2 (rowPP x1.a x1.b) (rowPP x1.a x1.b)))/\True)))/\(∀ x4:Nat,((x4<=(2:Nat))->(((decide ((x4:Int)<(↑(2:Nat):Int))=true)->((((0:Int)<=(x4:Int))/\((x4:Int)<(↑(2:Nat):Int)))/\((0+Int.toNat (x4:Int)<(2:Nat))/\((((-9223372036854775808:Int)<=(↑(catPP x1 x4).length:Int)+(↑(D.toN (rowPP x1.a x1.b (0+Int.toNat (x4:Int)) 0)):Int))/\((↑(catPP x1 x4).length:Int)+(↑(D.toN (rowPP x1.a x1.b (0+Int.toNat (x4:Int)) 0)):Int)<=(9223372036854775807:Int)))/\((∃ x7:Unit,(True/\((decide ((↑(catPP x1 x4).length:Int)+(↑(D.toN (rowPP x1.a x1.b (0+Int.toNat (x4:Int)) 0)):Int)<0)=false)/\True)))/\(∀ x8:Unit,(True->((((-9223372036854775808:Int)<=(x4:Int)+1)/\((x4:Int)+1<=(9223372036854775807:Int)))/\(∃ x10:Nat,(((2:Nat)-x10<(2:Nat)-x4)/\((x10<=(2:Nat))/\((((x4:Int)+1=(x10:Int))/\(((↑(catPP x1 x4).length:Int)+(↑(D.toN (rowPP x1.a x1.b (0+Int.toNat (x4:Int)) 0)):Int)=(↑(catPP x1 x10).length:Int))/\(((↑(2:Nat):Int)=(↑(2:Nat):Int))/\((0=0/\((2:Nat)=(2:Nat)))/\(True/\((0=0/\((2:Nat)=(2:Nat)))/\True))))))/\((RLe 2 2/\(RowsEq [.sl [.int .i64]] 2 (rowPP x1.a x1.b) (rowPP x1.a x1.b)))/\True)))))))))))))/\((decide ((x4:Int)<(↑(2:Nat):Int))=false)->(∃ x12:Int,((((0:Int)<=x12)/\(x12<=(100000:Int)))/\((True/\(((↑(catPP x1 x4).length:Int)=x12)/\True))/\(True/\(∃ x13:Nat,(((x13<=(2:Nat))/\(((0=(x13:Int))/\((0=0/\((0:Nat)=(catPP x1 x13).length))/\(((↑(2:Nat):Int)=(↑(2:Nat):Int))/\((0=0/\((2:Nat)=(2:Nat)))/\(((↑(catPP x1 x4).length:Int)=(↑(catPP x1 x4).length:Int))/\(((↑(2:Nat):Int)=(↑(2:Nat):Int))/\((0=0/\((2:Nat)=(2:Nat)))/\(True/\((0=0/\((2:Nat)=(2:Nat)))/\True)))))))))/\(((RLe (catPP x1 x13).length 0)/\(RowsEq [.int .i64] (catPP x1 x13).length (encL encI (@List.nil Int)) (encL encI (catPP x1 x13))))/\((RLe 2 2/\(RowsEq [.sl [.int .i64]] 2 (rowPP x1.a x1.b) (rowPP x1.a x1.b)))/\True))))/\(∀ x14:Nat,((x14<=(2:Nat))->(((decide ((x14:Int)<(↑(2:Nat):Int))=true)->((((0:Int)<=(x14:Int))/\((x14:Int)<(↑(2:Nat):Int)))/\((0+Int.toNat (x14:Int)<(2:Nat))/\((0=0/\(((catPP x1 x14).length<=(catPP x1 x14).length)/\(((0:Nat)+D.toN (rowPP x1.a x1.b (0+Int.toNat (x14:Int)) 0)<=D.toN (rowPP x1.a x1.b (0+Int.toNat (x14:Int)) 0))/\((catPP x1 x14).length+D.toN (rowPP x1.a x1.b (0+Int.toNat (x14:Int)) 0)<=(1073741824:Nat)))))/\((((-9223372036854775808:Int)<=(x14:Int)+1)/\((x14:Int)+1<=(9223372036854775807:Int)))/\(∃ x17:Nat,(((2:Nat)-x17<(2:Nat)-x14)/\((x17<=(2:Nat))/\((((x14:Int)+1=(x17:Int))/\((0=0/\((catPP x1 x14).length+D.toN (rowPP x1.a x1.b (0+Int.toNat (x14:Int)) 0)=(catPP x1 x17).length))/\(((↑(2:Nat):Int)=(↑(2:Nat):Int))/\((0=0/\((2:Nat)=(2:Nat)))/\(((↑(catPP x1 x4).length:Int)=(↑(catPP x1 x4).length:Int))/\(((↑(2:Nat):Int)=(↑(2:Nat):Int))/\((0=0/\((2:Nat)=(2:Nat)))/\(True/\((0=0/\((2:Nat)=(2:Nat)))/\True)))))))))/\(((RLe (catPP x1 x17).length ((catPP x1 x14).length+D.toN (rowPP x1.a x1.b (0+Int.toNat (x14:Int)) 0)))/\(RowsEq [.int .i64] (catPP x1 x17).length (appRows (catPP x1 x14).length (encL encI (catPP x1 x14)) 0 (D.toF (rowPP x1.a x1.b (0+Int.toNat (x14:Int)) 0))) (encL encI (catPP x1 x17))))/\((RLe 2 2/\(RowsEq [.sl [.int .i64]] 2 (rowPP x1.a x1.b) (rowPP x1.a x1.b)))/\True)))))))))))/\((decide ((x14:Int)<(↑(2:Nat):Int))=false)->((0=0/\((catPP x1 x14).length=(x1.a++x1.b).length))/\(((RLe (x1.a++x1.b).length (catPP x1 x14).length)/\(RowsEq [.int .i64] (x1.a++x1.b).length (encL encI (catPP x1 x14)) (encL encI (x1.a++x1.b))))/\True)))))))))))))))))))))=(Keeps cfgCtL Tryz.f33 ctC ctI) by kernel_rfl) (fun x1=>fun h2=>⟨((0:Nat)),
⟨(by(try dsimp only at *);omega),
⟨(by(try dsimp only at *);omega),
(by(try dsimp only at *);rfl),rfl,
⟨rfl,rfl⟩,trivial,
⟨rfl,rfl⟩,trivial⟩,
⟨rl,rr⟩,trivial⟩,
fun x4=>fun h5=>⟨fun g6=>have h6:=dT g6;⟨⟨(by(try dsimp only at *);omega),
(by(try dsimp only at *);omega)⟩,
(by(try dsimp only at *);omega),
⟨(by(try dsimp only at *);omega),
(by(try dsimp only at *);(have:=h2.cat x4;have:=ct_rng h2 (0+(x4:Int).toNat);omega))⟩,
⟨(default),trivial,
(by(try dsimp only at *);grind),trivial⟩,
fun x8=>fun h9=>⟨⟨(by(try dsimp only at *);omega),
(by(try dsimp only at *);omega)⟩,
(x4+(1:Nat)),
(by(try dsimp only at *);omega),
(by(try dsimp only at *);omega),
⟨(by(try dsimp only at *);omega),
(by(try dsimp only at *);(rw[nat0];exact ct_len h6)),rfl,
⟨rfl,rfl⟩,trivial,
⟨rfl,rfl⟩,trivial⟩,
⟨rl,rr⟩,trivial⟩⟩,
fun g11=>have h11:=dF g11;⟨((↑(List.length (catPP x1 x4)):Int)),
⟨(by(try dsimp only at *);omega),
(by(try dsimp only at *);(have:=h2.cat x4;have:=ct_rng h2 (0+(x4:Int).toNat);omega))⟩,
⟨trivial,rfl,trivial⟩,trivial,
((0:Nat)),
⟨(by(try dsimp only at *);omega),
⟨(by(try dsimp only at *);omega),
⟨rfl,
(by(try dsimp only at *);rfl)⟩,rfl,
⟨rfl,rfl⟩,rfl,rfl,
⟨rfl,rfl⟩,trivial,
⟨rfl,rfl⟩,trivial⟩,
⟨⟨(by(try dsimp only at *);exact Nat.le_refl _)⟩,
(by(try dsimp only at *);exact rr)⟩,
⟨rl,rr⟩,trivial⟩,
fun x14=>fun h15=>⟨fun g16=>have h16:=dT g16;⟨⟨(by(try dsimp only at *);omega),
(by(try dsimp only at *);omega)⟩,
(by(try dsimp only at *);omega),
⟨rfl,
(by(try dsimp only at *);omega),
(by(try dsimp only at *);omega),
(by(try dsimp only at *);(have:=h2.cat x14;have:=ct_rng h2 (0+(x14:Int).toNat);omega))⟩,
⟨(by(try dsimp only at *);omega),
(by(try dsimp only at *);omega)⟩,
(x14+(1:Nat)),
(by(try dsimp only at *);omega),
(by(try dsimp only at *);omega),
⟨(by(try dsimp only at *);omega),
⟨rfl,
(by(try dsimp only at *);(rw[nat0];exact ct_lenN h16))⟩,rfl,
⟨rfl,rfl⟩,rfl,rfl,
⟨rfl,rfl⟩,trivial,
⟨rfl,rfl⟩,trivial⟩,
⟨⟨(by(try dsimp only at *);(rw[nat0];exact Nat.le_of_eq (ct_lenN h16).symm))⟩,
(by(try dsimp only at *);(rw[nat0];exact ct_app h16 (Nat.le_refl _)))⟩,
⟨rl,rr⟩,trivial⟩,
fun g18=>have h18:=dF g18;⟨⟨rfl,
(by(try dsimp only at *);(rw[ct_end h15 h18]))⟩,
⟨⟨(by(try dsimp only at *);(rw[ct_end h15 h18];exact Nat.le_refl _))⟩,
(by(try dsimp only at *);(rw[ct_end h15 h18];exact rr))⟩,trivial⟩⟩⟩⟩⟩)
theorem ctL_good:Good Tryz.prog 33 ctC/\FnOk Tryz.prog 33:=good_of tok conCtL (fn:=Tryz.f33) rfl (by decide+kernel) (fun _=>rfl) ctL_keeps
def cfgCtI:Cfg:=⟨T,[],[(52,.one grC)],noInv,11,{}⟩
theorem conCtI:ConOk Tryz.prog cfgCtI:=ConL.ok (.cons (ConL.one grI_good) .nil)
set_option maxRecDepth 100000 in
theorem ctI_keeps:Keeps cfgCtI Tryz.f34 ctC ctI:=Eq.mp (show((∀ x1:CTx,((CTok x1)->(∃ x3:Nat,(((x3<=(2:Nat))/\(((0=(x3:Int))/\((0=(↑(catPP x1 x3).length:Int))/\(((↑(2:Nat):Int)=(↑(2:Nat):Int))/\((0=0/\((2:Nat)=(2:Nat)))/\(True/\((0=0/\((2:Nat)=(2:Nat)))/\True))))))/\((RLe 2 2/\(RowsEq [.sl [.int .i64]] 2 (rowPP x1.a x1.b) (rowPP x1.a x1.b)))/\True)))/\(∀ x4:Nat,((x4<=(2:Nat))->(((decide ((x4:Int)<(↑(2:Nat):Int))=true)->((((0:Int)<=(x4:Int))/\((x4:Int)<(↑(2:Nat):Int)))/\((0+Int.toNat (x4:Int)<(2:Nat))/\((((-9223372036854775808:Int)<=(↑(catPP x1 x4).length:Int)+(↑(D.toN (rowPP x1.a x1.b (0+Int.toNat (x4:Int)) 0)):Int))/\((↑(catPP x1 x4).length:Int)+(↑(D.toN (rowPP x1.a x1.b (0+Int.toNat (x4:Int)) 0)):Int)<=(9223372036854775807:Int)))/\((∃ x7:Unit,(True/\((decide ((↑(catPP x1 x4).length:Int)+(↑(D.toN (rowPP x1.a x1.b (0+Int.toNat (x4:Int)) 0)):Int)<0)=false)/\True)))/\(∀ x8:Unit,(True->((((-9223372036854775808:Int)<=(x4:Int)+1)/\((x4:Int)+1<=(9223372036854775807:Int)))/\(∃ x10:Nat,(((2:Nat)-x10<(2:Nat)-x4)/\((x10<=(2:Nat))/\((((x4:Int)+1=(x10:Int))/\(((↑(catPP x1 x4).length:Int)+(↑(D.toN (rowPP x1.a x1.b (0+Int.toNat (x4:Int)) 0)):Int)=(↑(catPP x1 x10).length:Int))/\(((↑(2:Nat):Int)=(↑(2:Nat):Int))/\((0=0/\((2:Nat)=(2:Nat)))/\(True/\((0=0/\((2:Nat)=(2:Nat)))/\True))))))/\((RLe 2 2/\(RowsEq [.sl [.int .i64]] 2 (rowPP x1.a x1.b) (rowPP x1.a x1.b)))/\True)))))))))))))/\((decide ((x4:Int)<(↑(2:Nat):Int))=false)->(∃ x12:Int,((((0:Int)<=x12)/\(x12<=(100000:Int)))/\((True/\(((↑(catPP x1 x4).length:Int)=x12)/\True))/\(True/\(∃ x13:Nat,(((x13<=(2:Nat))/\(((0=(x13:Int))/\((0=0/\((0:Nat)=(catPP x1 x13).length))/\(((↑(2:Nat):Int)=(↑(2:Nat):Int))/\((0=0/\((2:Nat)=(2:Nat)))/\(((↑(catPP x1 x4).length:Int)=(↑(catPP x1 x4).length:Int))/\(((↑(2:Nat):Int)=(↑(2:Nat):Int))/\((0=0/\((2:Nat)=(2:Nat)))/\(True/\((0=0/\((2:Nat)=(2:Nat)))/\True)))))))))/\(((RLe (catPP x1 x13).length 0)/\(RowsEq [.int .i64] (catPP x1 x13).length (encL encI (@List.nil Int)) (encL encI (catPP x1 x13))))/\((RLe 2 2/\(RowsEq [.sl [.int .i64]] 2 (rowPP x1.a x1.b) (rowPP x1.a x1.b)))/\True))))/\(∀ x14:Nat,((x14<=(2:Nat))->(((decide ((x14:Int)<(↑(2:Nat):Int))=true)->((((0:Int)<=(x14:Int))/\((x14:Int)<(↑(2:Nat):Int)))/\((0+Int.toNat (x14:Int)<(2:Nat))/\((0=0/\(((catPP x1 x14).length<=(catPP x1 x14).length)/\(((0:Nat)+D.toN (rowPP x1.a x1.b (0+Int.toNat (x14:Int)) 0)<=D.toN (rowPP x1.a x1.b (0+Int.toNat (x14:Int)) 0))/\((catPP x1 x14).length+D.toN (rowPP x1.a x1.b (0+Int.toNat (x14:Int)) 0)<=(1073741824:Nat)))))/\((((-9223372036854775808:Int)<=(x14:Int)+1)/\((x14:Int)+1<=(9223372036854775807:Int)))/\(∃ x17:Nat,(((2:Nat)-x17<(2:Nat)-x14)/\((x17<=(2:Nat))/\((((x14:Int)+1=(x17:Int))/\((0=0/\((catPP x1 x14).length+D.toN (rowPP x1.a x1.b (0+Int.toNat (x14:Int)) 0)=(catPP x1 x17).length))/\(((↑(2:Nat):Int)=(↑(2:Nat):Int))/\((0=0/\((2:Nat)=(2:Nat)))/\(((↑(catPP x1 x4).length:Int)=(↑(catPP x1 x4).length:Int))/\(((↑(2:Nat):Int)=(↑(2:Nat):Int))/\((0=0/\((2:Nat)=(2:Nat)))/\(True/\((0=0/\((2:Nat)=(2:Nat)))/\True)))))))))/\(((RLe (catPP x1 x17).length ((catPP x1 x14).length+D.toN (rowPP x1.a x1.b (0+Int.toNat (x14:Int)) 0)))/\(RowsEq [.int .i64] (catPP x1 x17).length (appRows (catPP x1 x14).length (encL encI (catPP x1 x14)) 0 (D.toF (rowPP x1.a x1.b (0+Int.toNat (x14:Int)) 0))) (encL encI (catPP x1 x17))))/\((RLe 2 2/\(RowsEq [.sl [.int .i64]] 2 (rowPP x1.a x1.b) (rowPP x1.a x1.b)))/\True)))))))))))/\((decide ((x14:Int)<(↑(2:Nat):Int))=false)->((0=0/\((catPP x1 x14).length=(x1.a++x1.b).length))/\(((RLe (x1.a++x1.b).length (catPP x1 x14).length)/\(RowsEq [.int .i64] (x1.a++x1.b).length (encL encI (catPP x1 x14)) (encL encI (x1.a++x1.b))))/\True)))))))))))))))))))))=(Keeps cfgCtI Tryz.f34 ctC ctI) by kernel_rfl) (fun x1=>fun h2=>⟨((0:Nat)),
⟨(by(try dsimp only at *);omega),
⟨(by(try dsimp only at *);omega),
(by(try dsimp only at *);rfl),rfl,
⟨rfl,rfl⟩,trivial,
⟨rfl,rfl⟩,trivial⟩,
⟨rl,rr⟩,trivial⟩,
fun x4=>fun h5=>⟨fun g6=>have h6:=dT g6;⟨⟨(by(try dsimp only at *);omega),
(by(try dsimp only at *);omega)⟩,
(by(try dsimp only at *);omega),
⟨(by(try dsimp only at *);omega),
(by(try dsimp only at *);(have:=h2.cat x4;have:=ct_rng h2 (0+(x4:Int).toNat);omega))⟩,
⟨(default),trivial,
(by(try dsimp only at *);grind),trivial⟩,
fun x8=>fun h9=>⟨⟨(by(try dsimp only at *);omega),
(by(try dsimp only at *);omega)⟩,
(x4+(1:Nat)),
(by(try dsimp only at *);omega),
(by(try dsimp only at *);omega),
⟨(by(try dsimp only at *);omega),
(by(try dsimp only at *);(rw[nat0];exact ct_len h6)),rfl,
⟨rfl,rfl⟩,trivial,
⟨rfl,rfl⟩,trivial⟩,
⟨rl,rr⟩,trivial⟩⟩,
fun g11=>have h11:=dF g11;⟨((↑(List.length (catPP x1 x4)):Int)),
⟨(by(try dsimp only at *);omega),
(by(try dsimp only at *);(have:=h2.cat x4;have:=ct_rng h2 (0+(x4:Int).toNat);omega))⟩,
⟨trivial,rfl,trivial⟩,trivial,
((0:Nat)),
⟨(by(try dsimp only at *);omega),
⟨(by(try dsimp only at *);omega),
⟨rfl,
(by(try dsimp only at *);rfl)⟩,rfl,
⟨rfl,rfl⟩,rfl,rfl,
⟨rfl,rfl⟩,trivial,
⟨rfl,rfl⟩,trivial⟩,
⟨⟨(by(try dsimp only at *);exact Nat.le_refl _)⟩,
(by(try dsimp only at *);exact rr)⟩,
⟨rl,rr⟩,trivial⟩,
fun x14=>fun h15=>⟨fun g16=>have h16:=dT g16;⟨⟨(by(try dsimp only at *);omega),
(by(try dsimp only at *);omega)⟩,
(by(try dsimp only at *);omega),
⟨rfl,
(by(try dsimp only at *);omega),
(by(try dsimp only at *);omega),
(by(try dsimp only at *);(have:=h2.cat x14;have:=ct_rng h2 (0+(x14:Int).toNat);omega))⟩,
⟨(by(try dsimp only at *);omega),
(by(try dsimp only at *);omega)⟩,
(x14+(1:Nat)),
(by(try dsimp only at *);omega),
(by(try dsimp only at *);omega),
⟨(by(try dsimp only at *);omega),
⟨rfl,
(by(try dsimp only at *);(rw[nat0];exact ct_lenN h16))⟩,rfl,
⟨rfl,rfl⟩,rfl,rfl,
⟨rfl,rfl⟩,trivial,
⟨rfl,rfl⟩,trivial⟩,
⟨⟨(by(try dsimp only at *);(rw[nat0];exact Nat.le_of_eq (ct_lenN h16).symm))⟩,
(by(try dsimp only at *);(rw[nat0];exact ct_app h16 (Nat.le_refl _)))⟩,
⟨rl,rr⟩,trivial⟩,
fun g18=>have h18:=dF g18;⟨⟨rfl,
(by(try dsimp only at *);(rw[ct_end h15 h18]))⟩,
⟨⟨(by(try dsimp only at *);(rw[ct_end h15 h18];exact Nat.le_refl _))⟩,
(by(try dsimp only at *);(rw[ct_end h15 h18];exact rr))⟩,trivial⟩⟩⟩⟩⟩)
theorem ctI_good:Good Tryz.prog 34 ctC/\FnOk Tryz.prog 34:=good_of tok conCtI (fn:=Tryz.f34) rfl (by decide+kernel) (fun _=>rfl) ctI_keeps
def noSrtC:CT where
 X:=Unit
 pre:=fun _=>True
 args:=fun _=>[.sl 100000 0 0,.i .i64 0,.i .i64 0]
 g0:=fun _=>[(100000,.rows .bor k1 0 (encL encI []))]
 res:=fun _=>.tup []
 g1:=fun _=>[]
def noInsI (_:Unit) (id:Nat):Option Inv:=match id with
 |0=>some { X:=Unit,ok:=fun _=>True,fr:=fun _=>[(6,.i .i64 1)],hp:=fun _=>[],me:=fun _=>0,inn:=fun _ id=>match id with|100012=>some (cutT 12 false)|_=>none }
 |_=>none
set_option maxRecDepth 100000 in
theorem noIns_keeps:Keeps cfgN0 Tryz.f75 noSrtC noInsI:=Eq.mp (show((∀ x1:Unit,(True->((((-9223372036854775808:Int)<=(0:Int)+1)/\((0:Int)+1<=(9223372036854775807:Int)))/\(∃ x3:Unit,((True/\((((0:Int)+1=1)/\(((0:Int)+1=0+1)/\(((0:Int)=0)/\((0=0/\0=0)/\(((0:Int)=0)/\(((0:Int)=0)/\True))))))/\((RLe 0 0/\(RI 0 (@List.nil Int) (@List.nil Int)))/\True)))/\(∀ x4:Unit,(True->((∃ x6:Unit,(True/\((decide ((1:Int)<0)=false)/\True)))/\(∀ x7:Unit,(True->(True/\True))))))))))))=(Keeps cfgN0 Tryz.f75 noSrtC noInsI) by kernel_rfl) (fun x1=>fun h2=>⟨⟨(by omega),
(by omega)⟩,
(default),
⟨trivial,
⟨(by(try dsimp only at *);omega),rfl,rfl,
⟨rfl,rfl⟩,rfl,rfl,trivial⟩,
⟨rl,rr⟩,trivial⟩,
fun x4=>fun h5=>⟨⟨(default),trivial,
(by(try dsimp only at *);grind),trivial⟩,
fun x7=>fun h8=>⟨trivial,trivial⟩⟩⟩)
theorem noIns_good:Good Tryz.prog 75 noSrtC/\FnOk Tryz.prog 75:=good_of tok conN0 (fn:=Tryz.f75) rfl (by decide+kernel) (fun _=>rfl) noIns_keeps
def noPdqC:CT where
 X:=Unit
 pre:=fun _=>True
 args:=fun _=>[.sl 100000 0 0,.i .i64 0,.i .i64 0,.u]
 g0:=fun _=>[(100000,.rows .bor k1 0 (encL encI []))]
 res:=fun _=>.tup []
 g1:=fun _=>[]
def noPdqI (_:Unit) (id:Nat):Option Inv:=match id with
 |0=>some { X:=Unit,ok:=fun _=>True,fr:=fun _=>[(1,.i .i64 0),(2,.i .i64 0),(0,.sl 100000 0 0)],hp:=fun _=>[],me:=fun _=>0,inn:=fun _ id=>match id with|100023=>some (cutT 23 true)|_=>none }
 |_=>none
def cfgNoP:Cfg:=⟨T,[],[(75,.one noSrtC)],noInv,10,{}⟩
theorem conNoP:ConOk Tryz.prog cfgNoP:=ConL.ok (.cons (ConL.one noIns_good) .nil)
set_option maxRecDepth 100000 in
theorem noPdq_keeps:Keeps cfgNoP Tryz.f53 noPdqC noPdqI:=Eq.mp (show((∀ x1:Unit,(True->(∃ x3:Unit,((True/\((((0:Int)=0)/\(((0:Int)=0)/\((0=0/\0=0)/\True)))/\((RLe 0 0/\(RI 0 (@List.nil Int) (@List.nil Int)))/\True)))/\(∀ x4:Unit,(True->((((-9223372036854775808:Int)<=(0:Int)-0)/\((0:Int)-0<=(9223372036854775807:Int)))/\((∃ x6:Unit,(True/\((decide ((0:Int)-0<=(12:Int))=true)/\True)))/\(∀ x7:Unit,(True->(∃ x9:Unit,(True/\(((0=0/\0=0)/\(((0:Int)=0)/\(((0:Int)=0)/\True)))/\(((RLe 0 0/\(RI 0 (@List.nil Int) (@List.nil Int)))/\True)/\(True/\True))))))))))))))))=(Keeps cfgNoP Tryz.f53 noPdqC noPdqI) by kernel_rfl) (fun x1=>fun h2=>⟨(default),
⟨trivial,
⟨rfl,rfl,
⟨rfl,rfl⟩,trivial⟩,
⟨rl,rr⟩,trivial⟩,
fun x4=>fun h5=>⟨⟨(by(try dsimp only at *);omega),
(by(try dsimp only at *);omega)⟩,
⟨(default),trivial,
(by(try dsimp only at *);grind),trivial⟩,
fun x7=>fun h8=>⟨(default),trivial,
⟨⟨rfl,rfl⟩,rfl,rfl,trivial⟩,
⟨⟨rl,rr⟩,trivial⟩,trivial,trivial⟩⟩⟩)
theorem noPdq_good:Good Tryz.prog 53 noPdqC/\FnOk Tryz.prog 53:=good_of tok conNoP (fn:=Tryz.f53) rfl (by decide+kernel) (fun _=>rfl) noPdq_keeps
def noSC:CT where
 X:=Unit
 pre:=fun _=>True
 args:=fun _=>[.sl 100000 0 0]
 g0:=fun _=>[(100000,.rows .bor k1 0 (encL encI []))]
 res:=fun _=>.tup []
 g1:=fun _=>[]
def cfgNoS:Cfg:=⟨T,[],[(54,.one len64C),(53,.one noPdqC)],noInv,10,{}⟩
theorem conNoS:ConOk Tryz.prog cfgNoS:=ConL.ok (.cons (ConL.one blen_good) (.cons (ConL.one noPdq_good) .nil))
set_option maxRecDepth 100000 in
theorem noS_keeps:Keeps cfgNoS Tryz.f35 noSC noIv:=Eq.mp (show((∀ x1:Unit,(True->((((0:Int)<=(↑(0:Nat):Int))/\((↑(0:Nat):Int)<=(18446744073709551615:Int)))/\(∃ x3:Nat,((x3<=(12:Nat))/\((((↑(0:Nat):Int)=(x3:Int))/\True)/\(True/\(∃ x4:Unit,(True/\(((0=0/\0=0)/\(((0:Int)=0)/\(((↑(0:Nat):Int)=0)/\(True/\True))))/\(((RLe 0 0/\(RI 0 (@List.nil Int) (@List.nil Int)))/\True)/\(True/\True)))))))))))))=(Keeps cfgNoS Tryz.f35 noSC noIv) by kernel_rfl) (fun x1=>fun h2=>⟨⟨(by omega),
(by omega)⟩,
((0:Nat)),
(by(try dsimp only at *);omega),
⟨rfl,trivial⟩,trivial,
(default),trivial,
⟨⟨rfl,rfl⟩,rfl,
(by(try dsimp only at *);omega),trivial,trivial⟩,
⟨⟨rl,rr⟩,trivial⟩,trivial,trivial⟩)
theorem noS_good:Good Tryz.prog 35 noSC/\FnOk Tryz.prog 35:=good_of tok conNoS (fn:=Tryz.f35) rfl (by decide+kernel) (fun _=>rfl) noS_keeps
def seC:CT where
 X:=List Int
 pre:=fun l=>l.length<=4096
 args:=fun l=>[.sl 100000 0 l.length,.sl 100001 0 l.length]
 g0:=fun l=>[(100000,.rows .bor k1 l.length (encL encI l)),(100001,.rows .bor k1 l.length (encL encI l))]
 res:=fun _=>.bt true
 g1:=fun _=>[]
def seI (l:List Int) (id:Nat):Option Inv:=match id with
 |100010=>some (cutT 10 false)
 |0=>some { X:=Nat,ok:=fun k=>k<=l.length,fr:=fun k=>[(13,.i .i64 k)],hp:=fun _=>[],me:=fun k=>l.length-k,inn:=fun _ id=>match id with|100024=>some (cutT 24 false)|_=>none }
 |_=>none
set_option maxRecDepth 100000 in
theorem seI_keeps:Keeps cfgN0 Tryz.f36 seC seI:=Eq.mp (show((∀ x1:List Int,((x1.length<=(4096:Nat))->((∃ x3:Unit,(True/\((decide ((x1.length:Int)≠(x1.length:Int))=false)/\True)))/\(∀ x4:Unit,(True->(∃ x6:Nat,(((x6<=x1.length)/\(((0=(x6:Int))/\(((x1.length:Int)=(x1.length:Int))/\((0=0/\x1.length=x1.length)/\(false=false/\((0=0/\x1.length=x1.length)/\((0=0/\x1.length=x1.length)/\True))))))/\(((RLe x1.length x1.length)/\(RI x1.length x1 x1))/\(((RLe x1.length x1.length)/\(RI x1.length x1 x1))/\True))))/\(∀ x7:Nat,((x7<=x1.length)->(((decide ((x7:Int)<(x1.length:Int))=true)->(((((0:Int)<=(x7:Int))/\((x7:Int)<(x1.length:Int)))/\((0+Int.toNat (x7:Int)<x1.length)/\((((0:Int)<=(x7:Int))/\((x7:Int)<(x1.length:Int)))/\((0+Int.toNat (x7:Int)<x1.length)/\(∃ x10:Unit,(True/\((decide (x1.getD (0+Int.toNat (x7:Int)) default≠x1.getD (0+Int.toNat (x7:Int)) default)=false)/\True)))))))/\(∀ x11:Unit,(True->((((-9223372036854775808:Int)<=(x7:Int)+1)/\((x7:Int)+1<=(9223372036854775807:Int)))/\(∃ x13:Nat,((x1.length-x13<x1.length-x7)/\((x13<=x1.length)/\((((x7:Int)+1=(x13:Int))/\(((x1.length:Int)=(x1.length:Int))/\((0=0/\x1.length=x1.length)/\(false=false/\((0=0/\x1.length=x1.length)/\((0=0/\x1.length=x1.length)/\True))))))/\(((RLe x1.length x1.length)/\(RI x1.length x1 x1))/\(((RLe x1.length x1.length)/\(RI x1.length x1 x1))/\True)))))))))))/\((decide ((x7:Int)<(x1.length:Int))=false)->(true=true/\True)))))))))))))=(Keeps cfgN0 Tryz.f36 seC seI) by kernel_rfl) (fun x1=>fun h2=>⟨⟨(default),trivial,
(by(try dsimp only at *);grind),trivial⟩,
fun x4=>fun h5=>⟨((0:Nat)),
⟨(by(try dsimp only at *);omega),
⟨(by(try dsimp only at *);omega),rfl,
⟨rfl,rfl⟩,rfl,
⟨rfl,rfl⟩,
⟨rfl,rfl⟩,trivial⟩,
⟨rl,rr⟩,
⟨rl,rr⟩,trivial⟩,
fun x7=>fun h8=>⟨fun g9=>have h9:=dT g9;⟨⟨⟨(by(try dsimp only at *);omega),
(by(try dsimp only at *);omega)⟩,
(by(try dsimp only at *);omega),
⟨(by(try dsimp only at *);omega),
(by(try dsimp only at *);omega)⟩,
(by(try dsimp only at *);omega),
(default),trivial,
(by(try dsimp only at *);grind),trivial⟩,
fun x11=>fun h12=>⟨⟨(by(try dsimp only at *);omega),
(by(try dsimp only at *);omega)⟩,
(x7+(1:Nat)),
(by(try dsimp only at *);omega),
(by(try dsimp only at *);omega),
⟨(by(try dsimp only at *);omega),rfl,
⟨rfl,rfl⟩,rfl,
⟨rfl,rfl⟩,
⟨rfl,rfl⟩,trivial⟩,
⟨rl,rr⟩,
⟨rl,rr⟩,trivial⟩⟩,
fun g14=>have h14:=dF g14;⟨rfl,trivial⟩⟩⟩⟩)
theorem seI_good:Good Tryz.prog 36 seC/\FnOk Tryz.prog 36:=good_of tok conN0 (fn:=Tryz.f36) rfl (by decide+kernel) (fun _=>rfl) seI_keeps
set_option maxRecDepth 100000 in
theorem seL_keeps:Keeps cfgN0 Tryz.f37 seC seI:=Eq.mp (show((∀ x1:List Int,((x1.length<=(4096:Nat))->((∃ x3:Unit,(True/\((decide ((x1.length:Int)≠(x1.length:Int))=false)/\True)))/\(∀ x4:Unit,(True->(∃ x6:Nat,(((x6<=x1.length)/\(((0=(x6:Int))/\(((x1.length:Int)=(x1.length:Int))/\((0=0/\x1.length=x1.length)/\(false=false/\((0=0/\x1.length=x1.length)/\((0=0/\x1.length=x1.length)/\True))))))/\(((RLe x1.length x1.length)/\(RI x1.length x1 x1))/\(((RLe x1.length x1.length)/\(RI x1.length x1 x1))/\True))))/\(∀ x7:Nat,((x7<=x1.length)->(((decide ((x7:Int)<(x1.length:Int))=true)->(((((0:Int)<=(x7:Int))/\((x7:Int)<(x1.length:Int)))/\((0+Int.toNat (x7:Int)<x1.length)/\((((0:Int)<=(x7:Int))/\((x7:Int)<(x1.length:Int)))/\((0+Int.toNat (x7:Int)<x1.length)/\(∃ x10:Unit,(True/\((decide (x1.getD (0+Int.toNat (x7:Int)) default≠x1.getD (0+Int.toNat (x7:Int)) default)=false)/\True)))))))/\(∀ x11:Unit,(True->((((-9223372036854775808:Int)<=(x7:Int)+1)/\((x7:Int)+1<=(9223372036854775807:Int)))/\(∃ x13:Nat,((x1.length-x13<x1.length-x7)/\((x13<=x1.length)/\((((x7:Int)+1=(x13:Int))/\(((x1.length:Int)=(x1.length:Int))/\((0=0/\x1.length=x1.length)/\(false=false/\((0=0/\x1.length=x1.length)/\((0=0/\x1.length=x1.length)/\True))))))/\(((RLe x1.length x1.length)/\(RI x1.length x1 x1))/\(((RLe x1.length x1.length)/\(RI x1.length x1 x1))/\True)))))))))))/\((decide ((x7:Int)<(x1.length:Int))=false)->(true=true/\True)))))))))))))=(Keeps cfgN0 Tryz.f37 seC seI) by kernel_rfl) (fun x1=>fun h2=>⟨⟨(default),trivial,
(by(try dsimp only at *);grind),trivial⟩,
fun x4=>fun h5=>⟨((0:Nat)),
⟨(by(try dsimp only at *);omega),
⟨(by(try dsimp only at *);omega),rfl,
⟨rfl,rfl⟩,rfl,
⟨rfl,rfl⟩,
⟨rfl,rfl⟩,trivial⟩,
⟨rl,rr⟩,
⟨rl,rr⟩,trivial⟩,
fun x7=>fun h8=>⟨fun g9=>have h9:=dT g9;⟨⟨⟨(by(try dsimp only at *);omega),
(by(try dsimp only at *);omega)⟩,
(by(try dsimp only at *);omega),
⟨(by(try dsimp only at *);omega),
(by(try dsimp only at *);omega)⟩,
(by(try dsimp only at *);omega),
(default),trivial,
(by(try dsimp only at *);grind),trivial⟩,
fun x11=>fun h12=>⟨⟨(by(try dsimp only at *);omega),
(by(try dsimp only at *);omega)⟩,
(x7+(1:Nat)),
(by(try dsimp only at *);omega),
(by(try dsimp only at *);omega),
⟨(by(try dsimp only at *);omega),rfl,
⟨rfl,rfl⟩,rfl,
⟨rfl,rfl⟩,
⟨rfl,rfl⟩,trivial⟩,
⟨rl,rr⟩,
⟨rl,rr⟩,trivial⟩⟩,
fun g14=>have h14:=dF g14;⟨rfl,trivial⟩⟩⟩⟩)
theorem seL_good:Good Tryz.prog 37 seC/\FnOk Tryz.prog 37:=good_of tok conN0 (fn:=Tryz.f37) rfl (by decide+kernel) (fun _=>rfl) seL_keeps
def ieB:CT where
 X:=Ic
 pre:=fun x=>x.nodes.length<=4096/\x.calls.length<=4096/\x.units.length<=4096
 args:=fun x=>[.agg (icL x 100000),.agg (icL x 100010)]
 g0:=fun x=>icH x .bor 100000++icH x .bor 100010
 res:=fun _=>.b true
 g1:=fun _=>[]
def ieC:CT:=yesC ieB
def cfgIe:Cfg:=⟨T,[],[(36,.one seC),(37,.one seC)],noInv,10,{}⟩
theorem conIe:ConOk Tryz.prog cfgIe:=ConL.ok (.cons (ConL.one seI_good) (.cons (ConL.one seL_good) .nil))
set_option maxRecDepth 100000 in
theorem ie_keeps:Keeps cfgIe Tryz.f15 ieB noIv:=Eq.mp (show((∀ x1:Ic,((x1.nodes.length<=(4096:Nat)/\x1.calls.length<=(4096:Nat)/\x1.units.length<=(4096:Nat))->(((decide (x1.id=x1.id)=true)->(((decide (x1.urg=x1.urg)=true)->((((ByteArray.toList x1.code==ByteArray.toList x1.code)=true)->(∃ x6:List Int,((x6.length<=(4096:Nat))/\(((0=0/\x1.nodes.length=x6.length)/\((0=0/\x1.nodes.length=x6.length)/\True))/\((((RLe x6.length x1.nodes.length)/\(RI x6.length x1.nodes x6))/\(((RLe x6.length x1.nodes.length)/\(RI x6.length x1.nodes x6))/\True))/\(((decide ((0:Int)=0)=true)->(((decide ((0:Int)=0)=true)->(∃ x9:List Int,((x9.length<=(4096:Nat))/\(((0=0/\x1.calls.length=x9.length)/\((0=0/\x1.calls.length=x9.length)/\True))/\((((RLe x9.length x1.calls.length)/\(RI x9.length x1.calls x9))/\(((RLe x9.length x1.calls.length)/\(RI x9.length x1.calls x9))/\True))/\(∃ x10:List Int,((x10.length<=(4096:Nat))/\(((0=0/\x1.units.length=x10.length)/\((0=0/\x1.units.length=x10.length)/\True))/\((((RLe x10.length x1.units.length)/\(RI x10.length x1.units x10))/\(((RLe x10.length x1.units.length)/\(RI x10.length x1.units x10))/\True))/\(((decide (x1.merged=x1.merged)=true)->(((x1.closed==x1.closed)=true)/\True))/\((decide (x1.merged=x1.merged)=false)->(false=true/\True))))))))))))/\((decide ((0:Int)=0)=false)->(false=true/\True))))/\((decide ((0:Int)=0)=false)->(false=true/\True))))))))/\(((ByteArray.toList x1.code==ByteArray.toList x1.code)=false)->(false=true/\True))))/\((decide (x1.urg=x1.urg)=false)->(false=true/\True))))/\((decide (x1.id=x1.id)=false)->(false=true/\True))))))=(Keeps cfgIe Tryz.f15 ieB noIv) by kernel_rfl) (fun x1=>fun h2=>⟨fun g3=>have h3:=dT g3;⟨fun g4=>have h4:=dT g4;⟨fun h5=>⟨(Ic.nodes x1),
(by(try dsimp only at *);omega),
⟨⟨rfl,rfl⟩,
⟨rfl,rfl⟩,trivial⟩,
⟨⟨rl,rr⟩,
⟨rl,rr⟩,trivial⟩,
fun g7=>have h7:=dT g7;⟨fun g8=>have h8:=dT g8;⟨(Ic.calls x1),
(by(try dsimp only at *);omega),
⟨⟨rfl,rfl⟩,
⟨rfl,rfl⟩,trivial⟩,
⟨⟨rl,rr⟩,
⟨rl,rr⟩,trivial⟩,
(Ic.units x1),
(by(try dsimp only at *);omega),
⟨⟨rfl,rfl⟩,
⟨rfl,rfl⟩,trivial⟩,
⟨⟨rl,rr⟩,
⟨rl,rr⟩,trivial⟩,
fun g11=>have h11:=dT g11;⟨(by(try dsimp only at *);grind),trivial⟩,
fun g12=>have h12:=dF g12;⟨(by(try dsimp only at *);omega),trivial⟩⟩,
fun g13=>have h13:=dF g13;⟨(by(try dsimp only at *);omega),trivial⟩⟩,
fun g14=>have h14:=dF g14;⟨(by(try dsimp only at *);omega),trivial⟩⟩,
fun h15=>⟨(by(try dsimp only at *);grind),trivial⟩⟩,
fun g16=>have h16:=dF g16;⟨(by(try dsimp only at *);omega),trivial⟩⟩,
fun g17=>have h17:=dF g17;⟨(by(try dsimp only at *);omega),trivial⟩⟩)
theorem ie_good:Good Tryz.prog 15 ieC/\FnOk Tryz.prog 15:=good_yes (good_of tok conIe (fn:=Tryz.f15) rfl (by decide+kernel) (fun _=>rfl) ie_keeps) (fun _=>rfl) (fun _=>rfl)
end Go.Sym