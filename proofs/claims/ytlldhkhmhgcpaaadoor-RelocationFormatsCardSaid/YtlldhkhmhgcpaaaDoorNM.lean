import Derived.Test.YtlldhkhmhgcpaaaDoorVS
import Derived.Lib.ItoaMem
import Derived.Test.YtlldhkhmhgcpaaaDoorXD
namespace Go.Sym
set_option linter.unusedVariables false
set_option linter.unusedSimpArgs false
open Go.Proofs
set_option maxRecDepth 100000
set_option maxHeartbeats 4000000
def nmM (n:Int):Nat:=2*n.natAbs+if n<0 then 1 else 0
def nmC (m:Nat):CT where
 X:=Int
 pre:=fun n=>r64 n/\nmM n<m
 args:=fun n=>[.i .i64 n]
 g0:=fun _=>[]
 res:=fun n=>.s (itoS n)
 g1:=fun _=>[]
def cfgNm (m:Nat):Cfg:=⟨T,[12,15],[(20,.one (nmC m))],noInv,30,{ kn:=true }⟩
def digB:ByteArray:=⟨#[48,49,50,51,52,53,54,55,56,57]⟩
theorem dt_x {d:Int} (h:0<=d/\d<10):digB.extract d.toNat (d+1).toNat=bsT [UInt8.ofNat (48+d.toNat)]:=by
 have h1:∀ i:Fin 10,digB.extract i.val (i.val+1)=bsT [UInt8.ofNat (48+i.val)]:=by decide+kernel
 have:=h1 ⟨d.toNat,by omega⟩
 rw[show(d+1).toNat=d.toNat+1 by omega]
 exact this
theorem dt_s {n:Int} (h0:¬ n<0) (h:n<10):digB.extract n.toNat (n+1).toNat=itoS n:=by rw[dt_x ⟨by omega,h⟩,ito_small (by omega) h]
theorem dt_b {n:Int} (h:¬ n<10):itoS (n / 10)++itoS (n%10)=itoS n:=by
 rw[ito_small (n:=n%10) (by omega) (by omega)]
 exact(ito_big (by omega)).symm
theorem ito_neg {n:Int} (h:0<n):itoS (0-n)=bsT [45]++itoS n:=by
 unfold itoS
 rw[show(0-n:Int)= -((n.toNat:Nat):Int) by omega,Lib.itoa_neg n.toNat (by omega)]
 conv=>rhs;rw[show n=((n.toNat:Nat):Int) by omega]
 rw[Lib.itoa_nonneg]
 apply ByteArray.ext
 simp[bsT]
theorem nm_d {x:Int} (h:r64 x) (hx:¬ -10<x):IntKind.i64.wrap (x.tdiv 10)=0-(0-x) / 10/\x.tmod 10=0-(0-x)%10:=by
 have e1:x.tdiv 10=0-(0-x) / 10:=by
  have:=Int.neg_tdiv (a:=0-x) (b:=10)
  have h2:(0-x).tdiv 10=(0-x) / 10:=Int.tdiv_eq_ediv_of_nonneg (by omega)
  rw[show -(0-x)=x by omega]at this
  omega
 have e2:x.tmod 10=0-(0-x)%10:=by
  have:=Int.neg_tmod (0-x) 10
  have h2:(0-x).tmod 10=(0-x)%10:=Int.tmod_eq_emod_of_nonneg (by omega)
  rw[show -(0-x)=x by omega]at this
  omega
 refine⟨?_,e2⟩
 rw[e1]
 exact wrap_inR (show -9223372036854775808<=0-(0-x) / 10/\0-(0-x) / 10<=9223372036854775807 by unfold r64 at h;omega)
theorem nm_1 {x:Int} (h:r64 x) (h4:x<0) (h5: -10<x):bsT [45]++itoS (0-x)=itoS x:=by
 have:=ito_neg (n:=0-x) (by omega)
 rw[show 0-(0-x)=x by omega]at this
 exact this.symm
theorem nm_2 {x:Int} (h:r64 x) (hx:¬ -10<x):itoS (IntKind.i64.wrap (x.tdiv 10))++itoS (0-x.tmod 10)=itoS x:=by
 rw[(nm_d h hx).1,(nm_d h hx).2,ito_neg (by omega),show 0-(0-(0-x)%10)=(0-x)%10 by omega]
 have h1:=dt_b (n:=0-x) (by omega)
 have h2:=ito_neg (n:=0-x) (by omega)
 rw[show 0-(0-x)=x by omega]at h2
 rw[h2,<- h1,ba_assoc]
theorem nm_m1 {m:Nat} {x:Int} (h:nmM x<m+1) (h4:x<0):nmM (0-x)<m:=by
 unfold nmM at*
 rw[if_pos h4]at h
 rw[if_neg (by omega)]
 omega
theorem nm_m2 {m:Nat} {x y:Int} (h:nmM x<m+1) (h4:y.natAbs<x.natAbs):nmM y<m:=by
 unfold nmM at*
 split at h <;>split <;>omega
theorem nm_z {a b:Int} (h1:r64 a) (h2:r64 b):(itoS a).size+(itoS b).size<=9223372036854775807:=by
 have:=ito_size h1
 have:=ito_size h2
 omega
theorem nm_z1 {b:Int} (h2:r64 b):(bsT [45]).size+(itoS b).size<=9223372036854775807:=by
 have:=ito_size h2
 have e:(bsT [45]).size=1:=rfl
 omega
theorem nm_r1 {x:Int} (h:r64 x) (hx:¬ -10<x):r64 (IntKind.i64.wrap (x.tdiv 10)):=by
 rw[(nm_d h hx).1];unfold r64 at *;omega
theorem nm_r2 {x:Int} (h:r64 x) (hx:¬ -10<x):r64 (0-x.tmod 10):=by
 rw[(nm_d h hx).2];unfold r64 at *;omega
theorem nm_r {x:Int} (h:r64 x) (h0:¬ x<0):r64 (x / 10)/\r64 (x%10):=by unfold r64 at *;omega
theorem nm_n1 {m:Nat} {x:Int} (h:r64 x/\nmM x<m+1) (hx:¬ -10<x):nmM (IntKind.i64.wrap (x.tdiv 10))<m:=nm_m2 h.2 (by rw[(nm_d h.1 hx).1];omega)
theorem nm_n2 {m:Nat} {x:Int} (h:r64 x/\nmM x<m+1) (hx:¬ -10<x):nmM (0-x.tmod 10)<m:=nm_m2 h.2 (by rw[(nm_d h.1 hx).2];omega)
set_option maxRecDepth 100000 in
theorem nm_keeps:∀ m:Nat,Keeps (cfgNm m) Tryd.f20 (nmC (m+1)) noIv:=Eq.mp (show((∀ m1:Nat,(∀ x2:Int,((r64 x2/\nmM x2<m1+(1:Nat))->(((decide (x2<0)=true)->(((decide (-10<x2)=true)->((((-9223372036854775808:Int)<=(0:Int)-x2)/\((0:Int)-x2<=(9223372036854775807:Int)))/\(∃ x6:Int,(((r64 x6)/\(nmM x6<m1))/\((((0:Int)-x2=x6)/\True)/\(True/\((ByteArray.size (ByteArray.mk (List.toArray ((45:UInt8)::@List.nil UInt8)))+ByteArray.size (itoS x6)<=(9223372036854775807:Nat))/\(((ByteArray.mk (List.toArray ((45:UInt8)::@List.nil UInt8)))++itoS x6=itoS x2)/\True))))))))/\((decide (-10<x2)=false)->(((10:Int)≠(0:Int))/\(∃ x8:Int,(((r64 x8)/\(nmM x8<m1))/\(((IntKind.wrap .i64 (Int.tdiv x2 (10:Int))=x8)/\True)/\(True/\(((10:Int)≠(0:Int))/\((((-9223372036854775808:Int)<=(0:Int)-Int.tmod x2 (10:Int))/\((0:Int)-Int.tmod x2 (10:Int)<=(9223372036854775807:Int)))/\(∃ x9:Int,(((r64 x9)/\(nmM x9<m1))/\((((0:Int)-Int.tmod x2 10=x9)/\True)/\(True/\((ByteArray.size (itoS x8)+ByteArray.size (itoS x9)<=(9223372036854775807:Nat))/\((itoS x8++itoS x9=itoS x2)/\True))))))))))))))))/\((decide (x2<0)=false)->(((decide (x2<10)=true)->((((-9223372036854775808:Int)<=x2+1)/\(x2+1<=(9223372036854775807:Int)))/\((((0:Int)<=x2)/\((x2<=x2+1)/\(x2+1<=(↑(ByteArray.size (ByteArray.mk (List.toArray ((48:UInt8)::(49:UInt8)::(50:UInt8)::(51:UInt8)::(52:UInt8)::(53:UInt8)::(54:UInt8)::(55:UInt8)::(56:UInt8)::(57:UInt8)::@List.nil UInt8)))):Int))))/\((ByteArray.extract (ByteArray.mk (List.toArray ((48:UInt8)::(49:UInt8)::(50:UInt8)::(51:UInt8)::(52:UInt8)::(53:UInt8)::(54:UInt8)::(55:UInt8)::(56:UInt8)::(57:UInt8)::@List.nil UInt8))) (Int.toNat x2) (Int.toNat (x2+1))=itoS x2)/\True))))/\((decide (x2<10)=false)->((((0:Int)<=x2)/\(((0:Int)<10)/\(((-9223372036854775808:Int)<=x2 / 10)/\(x2 / 10<=(9223372036854775807:Int)))))/\(∃ x13:Int,(((r64 x13)/\(nmM x13<m1))/\(((x2 / 10=x13)/\True)/\(True/\((((0:Int)<=x2)/\((0:Int)<10))/\(∃ x14:Int,(((r64 x14)/\(nmM x14<m1))/\(((x2%10=x14)/\True)/\(True/\((ByteArray.size (itoS x13)+ByteArray.size (itoS x14)<=(9223372036854775807:Nat))/\((itoS x13++itoS x14=itoS x2)/\True))))))))))))))))))))=(∀ m:Nat,Keeps (cfgNm m) Tryd.f20 (nmC (m+1)) noIv) by kernel_rfl) (fun m1=>fun x2=>fun h3=>⟨fun g4=>have h4:=dT g4;⟨fun g5=>have h5:=dT g5;⟨⟨(by omega),
(by omega)⟩,
((0:Int)-x2),
⟨(by(try dsimp only at *);(have:=h3.1;unfold r64 at *;omega)),
(by(try dsimp only at *);exact nm_m1 h3.2 h4)⟩,
⟨rfl,trivial⟩,trivial,
(by(try dsimp only at *);exact nm_z1 (by have:=h3.1;unfold r64 at *;omega)),
(by(try dsimp only at *);exact nm_1 h3.1 h4 h5),trivial⟩,
fun g7=>have h7:=dF g7;⟨(by(try dsimp only at *);omega),
(IntKind.wrap IntKind.i64 (Int.tdiv x2 (10:Int))),
⟨(by(try dsimp only at *);exact nm_r1 h3.1 h7),
(by(try dsimp only at *);exact nm_n1 h3 h7)⟩,
⟨rfl,trivial⟩,trivial,
(by(try dsimp only at *);omega),
⟨(by(try dsimp only at *);grind),
(by(try dsimp only at *);grind)⟩,
((0:Int)-Int.tmod x2 (10:Int)),
⟨(by(try dsimp only at *);exact nm_r2 h3.1 h7),
(by(try dsimp only at *);exact nm_n2 h3 h7)⟩,
⟨rfl,trivial⟩,trivial,
(by(try dsimp only at *);exact nm_z (nm_r1 h3.1 h7) (nm_r2 h3.1 h7)),
(by(try dsimp only at *);exact nm_2 h3.1 h7),trivial⟩⟩,
fun g10=>have h10:=dF g10;⟨fun g11=>have h11:=dT g11;⟨⟨(by(try dsimp only at *);omega),
(by(try dsimp only at *);omega)⟩,
⟨(by(try dsimp only at *);omega),
(by(try dsimp only at *);omega),
(by(try dsimp only at *);assumption)⟩,
(by(try dsimp only at *);exact dt_s h10 h11),trivial⟩,
fun g12=>have h12:=dF g12;⟨⟨(by(try dsimp only at *);omega),
(by(try dsimp only at *);omega),
(by(try dsimp only at *);omega),
(by(try dsimp only at *);(have:=h3.1;unfold r64 at *;omega))⟩,
(x2 / (10:Int)),
⟨(by(try dsimp only at *);(have:=h3.1;unfold r64 at *;omega)),
(by(try dsimp only at *);exact nm_m2 h3.2 (by omega))⟩,
⟨rfl,trivial⟩,trivial,
⟨(by(try dsimp only at *);omega),
(by(try dsimp only at *);omega)⟩,
(x2%(10:Int)),
⟨(by(try dsimp only at *);(have:=h3.1;unfold r64 at *;omega)),
(by(try dsimp only at *);exact nm_m2 h3.2 (by omega))⟩,
⟨rfl,trivial⟩,trivial,
(by(try dsimp only at *);exact nm_z (nm_r h3.1 h10).1 (nm_r h3.1 h10).2),
(by(try dsimp only at *);exact dt_b h12),trivial⟩⟩⟩)
theorem nm_good0 (m:Nat):Good Tryd.prog 20 (nmC m)/\FnOk Tryd.prog 20:=by
 have fo:FnOk Tryd.prog 20:=⟨Tryd.f20,rfl,by decide+kernel,rfl⟩
 induction m with
 |zero=>exact⟨fun x h=>absurd h.2 (Nat.not_lt_zero _),fo⟩
 |succ m ih=>
  have con:ConOk Tryd.prog (cfgNm m):=ConL.ok (.cons (ConL.one ih) .nil)
  exact good_of tok con (fn:=Tryd.f20) rfl (by decide+kernel) (fun _=>rfl) (nm_keeps m)
theorem nm_good:Good Tryd.prog 20 itC1/\FnOk Tryd.prog 20:=⟨fun x h=>(nm_good0 (nmM x+1)).1 x ⟨h,Nat.lt_succ_self _⟩,(nm_good0 0).2⟩
end Go.Sym