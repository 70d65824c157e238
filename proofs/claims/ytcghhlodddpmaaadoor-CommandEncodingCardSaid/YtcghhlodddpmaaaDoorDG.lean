import Derived.Test.YtcghhlodddpmaaaDoorTX1
import Derived.Test.YtcghhlodddpmaaaDoorXD
namespace Go.Sym
set_option linter.unusedVariables false
set_option linter.unusedSimpArgs false
open Go.Proofs
set_option maxRecDepth 100000
set_option maxHeartbeats 4000000
def digS (n:Int):ByteArray:=if n=4611686018427387904 then nevS else itoS n
def dgC (m:Nat):CT where
 X:=Int
 pre:=fun n=>(0<=n/\r64 n)/\n.toNat<m
 args:=fun n=>[.i .i64 n]
 g0:=fun _=>[]
 res:=fun n=>.s (digS n)
 g1:=fun _=>[]
def cfgDg (m:Nat):Cfg:=⟨T,[9],[(73,.one (dgC m))],noInv,20,{}⟩
theorem u8_48 {d:Int} (h:0<=d/\d<10):UInt8.ofNat (IntKind.u8.wrap (48+d)).toNat=UInt8.ofNat (48+d.toNat):=by
 have:IntKind.u8.wrap (48+d)=(48+d)%256:=by simp[IntKind.wrap,IntKind.signed,IntKind.bits]
 rw[this]
 congr 1
 omega
theorem digS_size {n:Int} (h:r64 n):(digS n).size<=21:=by
 unfold digS
 split
 ·show 5<=21
  decide
 ·exact ito_size h
theorem dg_r {n:Int} (h:0<=n/\r64 n):r64 (n / 10):=by
 obtain⟨h0,h1⟩:=h
 unfold r64 at*
 omega
theorem dg_sz {n:Int} (h:r64 n) {b:ByteArray} (hb:b=bsT [UInt8.ofNat (48+(n%10).toNat)]) (h1:r64 (n / 10)):(digS (n / 10)).size+b.size<=9223372036854775807:=by
 have:=digS_size h1
 rw[hb]
 have:(bsT [UInt8.ofNat (48+(n%10).toNat)]).size=1:=rfl
 omega
theorem dg_one {n:Int} (h:0<=n):strOf 1 (fun r=>litRows [[D.i (IntKind.u8.wrap (48+n%10))]] (0+r))=bsT [UInt8.ofNat (48+(n%10).toNat)]:=by
 unfold strOf bsT
 congr 1
 show #[UInt8.ofNat (IntKind.u8.wrap (48+n%10)).toNat]=_
 rw[u8_48 (by omega)]
theorem dg_nev {n:Int} (h:n=4611686018427387904):nevS=digS n:=by unfold digS;rw[if_pos h]
theorem dg_small {n:Int} (h0:0<=n) (h:n<10):bsT [UInt8.ofNat (48+(n%10).toNat)]=digS n:=by
 unfold digS
 rw[if_neg (by omega),ito_small h0 h]
 rw[show(n%10).toNat=n.toNat by omega]
theorem dg_big {n:Int} (hr:r64 n) (h:¬ n<10) (hn:¬ n=4611686018427387904):digS (n / 10)++bsT [UInt8.ofNat (48+(n%10).toNat)]=digS n:=by
 unfold digS
 unfold r64 at hr
 rw[if_neg hn,if_neg (by omega)]
 exact(ito_big (by omega)).symm
theorem dg_l {n:Int} {b:ByteArray} (hb:b=bsT [UInt8.ofNat (48+(n%10).toNat)]) (h0:0<=n) (h:n<10):b=digS n:=by rw[hb];exact dg_small h0 h
theorem dg_m {n:Int} {b:ByteArray} (hb:b=bsT [UInt8.ofNat (48+(n%10).toNat)]) (hr:r64 n) (h:¬ n<10) (hn:¬ n=4611686018427387904):digS (n / 10)++b=digS n:=by rw[hb];exact dg_big hr h hn
set_option maxRecDepth 100000 in
theorem dg_keeps:∀ m:Nat,Keeps (cfgDg m) Tryd.f73 (dgC (m+1)) noIv:=Eq.mp (show((∀ m1:Nat,(∀ x2:Int,((((0:Int)<=x2/\r64 x2)/\Int.toNat x2<m1+(1:Nat))->(((decide (x2=4611686018427387904)=true)->(((ByteArray.mk (List.toArray ((110:UInt8)::(101:UInt8)::(118:UInt8)::(101:UInt8)::(114:UInt8)::@List.nil UInt8)))=digS x2)/\True))/\((decide (x2=4611686018427387904)=false)->((((0:Int)<=x2)/\((0:Int)<10))/\((((-9223372036854775808:Int)<=(48:Int)+x2%10)/\((48:Int)+x2%10<=(9223372036854775807:Int)))/\(((True/\True)/\True)/\(((1:Nat)<=(1:Nat))/\(((decide (x2<10)=true)->(((ByteArray.mk (List.toArray (List.map (fun(r:Nat)=>UInt8.ofNat (Int.toNat (D.toI ((((D.i (IntKind.wrap IntKind.u8 ((48:Int)+x2%10))::@List.nil D)::@List.nil (List D)).getD ((0:Nat)+r) (@List.nil D)).getD 0 (D.i 0))))) (List.range 1))))=digS x2)/\True))/\((decide (x2<10)=false)->((((0:Int)<=x2)/\(((0:Int)<10)/\(((-9223372036854775808:Int)<=x2 / 10)/\(x2 / 10<=(9223372036854775807:Int)))))/\(∃ x8:Int,(((((0:Int)<=x8)/\(r64 x8))/\(Int.toNat x8<m1))/\(((x2 / 10=x8)/\True)/\(True/\((ByteArray.size (digS x8)+ByteArray.size (ByteArray.mk (List.toArray (List.map (fun(r:Nat)=>UInt8.ofNat (Int.toNat (D.toI ((((D.i (IntKind.wrap IntKind.u8 ((48:Int)+x2%10))::@List.nil D)::@List.nil (List D)).getD ((0:Nat)+r) (@List.nil D)).getD 0 (D.i 0))))) (List.range 1))))<=(9223372036854775807:Nat))/\((digS x8++(ByteArray.mk (List.toArray (List.map (fun(r:Nat)=>UInt8.ofNat (Int.toNat (D.toI ((((D.i (IntKind.wrap IntKind.u8 ((48:Int)+x2%10))::@List.nil D)::@List.nil (List D)).getD ((0:Nat)+r) (@List.nil D)).getD 0 (D.i 0))))) (List.range 1))))=digS x2)/\True)))))))))))))))))))=(∀ m:Nat,Keeps (cfgDg m) Tryd.f73 (dgC (m+1)) noIv) by kernel_rfl) (fun m1=>fun x2=>fun h3=>⟨fun g4=>have h4:=dT g4;⟨(by exact dg_nev h4),trivial⟩,
fun g5=>have h5:=dF g5;⟨⟨(by omega),
(by omega)⟩,
⟨(by omega),
(by omega)⟩,
⟨⟨trivial,trivial⟩,trivial⟩,
(by omega),
fun g6=>have h6:=dT g6;⟨(by exact dg_l (dg_one h3.1.1) h3.1.1 h6),trivial⟩,
fun g7=>have h7:=dF g7;⟨⟨(by omega),
(by omega),
(by omega),
(by(have:=(dg_r h3.1).2;exact this))⟩,
(x2 / (10:Int)),
⟨⟨(by(try dsimp only at *);omega),
(by(try dsimp only at *);exact dg_r h3.1)⟩,
(by(try dsimp only at *);omega)⟩,
⟨rfl,trivial⟩,trivial,
(by(try dsimp only at *);exact dg_sz h3.1.2 (dg_one h3.1.1) (dg_r h3.1)),
(by(try dsimp only at *);exact dg_m (dg_one h3.1.1) h3.1.2 h7 h5),trivial⟩⟩⟩)
theorem dg_good (m:Nat):Good Tryd.prog 73 (dgC m)/\FnOk Tryd.prog 73:=by
 have fo:FnOk Tryd.prog 73:=⟨Tryd.f73,rfl,by decide+kernel,rfl⟩
 induction m with
 |zero=>exact⟨fun x h=>absurd h.2 (Nat.not_lt_zero _),fo⟩
 |succ m ih=>
  have con:ConOk Tryd.prog (cfgDg m):=ConL.ok (.cons (ConL.one ih) .nil)
  exact good_of tok con (fn:=Tryd.f73) rfl (by decide+kernel) (fun _=>rfl) (dg_keeps m)
def dgCt:CT where
 X:=Int
 pre:=fun n=>0<=n/\r64 n
 args:=fun n=>[.i .i64 n]
 g0:=fun _=>[]
 res:=fun n=>.s (digS n)
 g1:=fun _=>[]
theorem dg_all:Good Tryd.prog 73 dgCt/\FnOk Tryd.prog 73:=⟨fun x h=>(dg_good (x.toNat+1)).1 x ⟨h,Nat.lt_succ_self _⟩,(dg_good 0).2⟩
def dtC (m:Nat):CT where
 X:=Int
 pre:=fun n=>(0<=n/\r64 n)/\n.toNat<m
 args:=fun n=>[.i .i64 n]
 g0:=fun _=>[]
 res:=fun n=>.s (itoS n)
 g1:=fun _=>[]
def cfgDt (m:Nat):Cfg:=⟨T,[],[(74,.one (dtC m))],noInv,20,{}⟩
def digB:ByteArray:=⟨#[48,49,50,51,52,53,54,55,56,57]⟩
theorem dt_x {d:Int} (h:0<=d/\d<10):digB.extract d.toNat (d+1).toNat=bsT [UInt8.ofNat (48+d.toNat)]:=by
 have h1:∀ i:Fin 10,digB.extract i.val (i.val+1)=bsT [UInt8.ofNat (48+i.val)]:=by decide+kernel
 have:=h1 ⟨d.toNat,by omega⟩
 rw[show(d+1).toNat=d.toNat+1 by omega]
 exact this
theorem dt_s {n:Int} (h0:0<=n) (h:n<10):digB.extract n.toNat (n+1).toNat=itoS n:=by rw[dt_x ⟨h0,h⟩,ito_small h0 h]
theorem dt_b {n:Int} (h:¬ n<10):itoS (n / 10)++digB.extract (n%10).toNat (n%10+1).toNat=itoS n:=by
 rw[dt_x (by omega)]
 exact(ito_big (by omega)).symm
theorem dt_z {n:Int} (h:r64 (n / 10)):(itoS (n / 10)).size+(digB.extract (n%10).toNat (n%10+1).toNat).size<=9223372036854775807:=by
 have:=ito_size h
 rw[dt_x (by omega)]
 have:(bsT [UInt8.ofNat (48+(n%10).toNat)]).size=1:=rfl
 omega
theorem dt_c (n:Int):n%10+1<=(digB.size:Int):=by
 show n%10+1<=(10:Int)
 omega
set_option maxRecDepth 100000 in
theorem dt_keeps:∀ m:Nat,Keeps (cfgDt m) Tryd.f74 (dtC (m+1)) noIv:=Eq.mp (show((∀ m1:Nat,(∀ x2:Int,((((0:Int)<=x2/\r64 x2)/\Int.toNat x2<m1+(1:Nat))->(((decide (x2<10)=true)->((((-9223372036854775808:Int)<=x2+1)/\(x2+1<=(9223372036854775807:Int)))/\((((0:Int)<=x2)/\((x2<=x2+1)/\(x2+1<=(↑(ByteArray.size (ByteArray.mk (List.toArray ((48:UInt8)::(49:UInt8)::(50:UInt8)::(51:UInt8)::(52:UInt8)::(53:UInt8)::(54:UInt8)::(55:UInt8)::(56:UInt8)::(57:UInt8)::@List.nil UInt8)))):Int))))/\((ByteArray.extract (ByteArray.mk (List.toArray ((48:UInt8)::(49:UInt8)::(50:UInt8)::(51:UInt8)::(52:UInt8)::(53:UInt8)::(54:UInt8)::(55:UInt8)::(56:UInt8)::(57:UInt8)::@List.nil UInt8))) (Int.toNat x2) (Int.toNat (x2+1))=itoS x2)/\True))))/\((decide (x2<10)=false)->((((0:Int)<=x2)/\(((0:Int)<10)/\(((-9223372036854775808:Int)<=x2 / 10)/\(x2 / 10<=(9223372036854775807:Int)))))/\(∃ x6:Int,(((((0:Int)<=x6)/\(r64 x6))/\(Int.toNat x6<m1))/\(((x2 / 10=x6)/\True)/\(True/\((((0:Int)<=x2)/\((0:Int)<10))/\((((0:Int)<=x2)/\((0:Int)<10))/\((((-9223372036854775808:Int)<=x2%10+1)/\(x2%10+1<=(9223372036854775807:Int)))/\((((0:Int)<=x2%10)/\((x2%10<=x2%10+1)/\(x2%10+1<=(↑(ByteArray.size (ByteArray.mk (List.toArray ((48:UInt8)::(49:UInt8)::(50:UInt8)::(51:UInt8)::(52:UInt8)::(53:UInt8)::(54:UInt8)::(55:UInt8)::(56:UInt8)::(57:UInt8)::@List.nil UInt8)))):Int))))/\((ByteArray.size (itoS x6)+ByteArray.size (ByteArray.extract (ByteArray.mk (List.toArray ((48:UInt8)::(49:UInt8)::(50:UInt8)::(51:UInt8)::(52:UInt8)::(53:UInt8)::(54:UInt8)::(55:UInt8)::(56:UInt8)::(57:UInt8)::@List.nil UInt8))) (Int.toNat (x2%10)) (Int.toNat (x2%10+1)))<=(9223372036854775807:Nat))/\((itoS x6++ByteArray.extract (ByteArray.mk (List.toArray ((48:UInt8)::(49:UInt8)::(50:UInt8)::(51:UInt8)::(52:UInt8)::(53:UInt8)::(54:UInt8)::(55:UInt8)::(56:UInt8)::(57:UInt8)::@List.nil UInt8))) (Int.toNat (x2%10)) (Int.toNat (x2%10+1))=itoS x2)/\True)))))))))))))))))=(∀ m:Nat,Keeps (cfgDt m) Tryd.f74 (dtC (m+1)) noIv) by kernel_rfl) (fun m1=>fun x2=>fun h3=>⟨fun g4=>have h4:=dT g4;⟨⟨(by omega),
(by omega)⟩,
⟨(by omega),
(by omega),
(by assumption)⟩,
(by exact dt_s h3.1.1 h4),trivial⟩,
fun g5=>have h5:=dF g5;⟨⟨(by omega),
(by omega),
(by omega),
(by(have:=(dg_r h3.1).2;exact this))⟩,
(x2 / (10:Int)),
⟨⟨(by(try dsimp only at *);omega),
(by(try dsimp only at *);exact dg_r h3.1)⟩,
(by(try dsimp only at *);omega)⟩,
⟨rfl,trivial⟩,trivial,
⟨(by(try dsimp only at *);omega),
(by(try dsimp only at *);omega)⟩,
⟨(by(try dsimp only at *);omega),
(by(try dsimp only at *);omega)⟩,
⟨(by(try dsimp only at *);omega),
(by(try dsimp only at *);omega)⟩,
⟨(by(try dsimp only at *);omega),
(by(try dsimp only at *);omega),
(by(try dsimp only at *);exact dt_c _)⟩,
(by(try dsimp only at *);exact dt_z (dg_r h3.1)),
(by(try dsimp only at *);exact dt_b h5),trivial⟩⟩)
theorem dt_good (m:Nat):Good Tryd.prog 74 (dtC m)/\FnOk Tryd.prog 74:=by
 have fo:FnOk Tryd.prog 74:=⟨Tryd.f74,rfl,by decide+kernel,rfl⟩
 induction m with
 |zero=>exact⟨fun x h=>absurd h.2 (Nat.not_lt_zero _),fo⟩
 |succ m ih=>
  have con:ConOk Tryd.prog (cfgDt m):=ConL.ok (.cons (ConL.one ih) .nil)
  exact good_of tok con (fn:=Tryd.f74) rfl (by decide+kernel) (fun _=>rfl) (dt_keeps m)
def dtCt:CT where
 X:=Int
 pre:=fun n=>0<=n/\r64 n
 args:=fun n=>[.i .i64 n]
 g0:=fun _=>[]
 res:=fun n=>.s (itoS n)
 g1:=fun _=>[]
theorem dt_all:Good Tryd.prog 74 dtCt/\FnOk Tryd.prog 74:=⟨fun x h=>(dt_good (x.toNat+1)).1 x ⟨h,Nat.lt_succ_self _⟩,(dt_good 0).2⟩
def wdS (l:List Int):ByteArray:=l.foldl (fun s n=>s++⟨#[32]⟩++digS n) ⟨#[]⟩
def wdA (l:List Int) (i:Nat):ByteArray:=wdS (l.take i)
theorem wdA_s {l:List Int} {i:Nat} (h:(i:Int)<l.length):wdA l i++⟨#[32]⟩++digS (l.getD (0+(i:Int).toNat) default)=wdA l (i+1):=by
 have h:i<l.length:=by omega
 unfold wdA wdS
 rw[Nat.zero_add,show(i:Int).toNat=i from rfl,take_succ_getD (d:=default) h,List.foldl_append]
 rfl
theorem wdA_t {l:List Int} {i:Nat} (h:¬ (i:Int)<l.length):wdA l i=wdS l:=by
 unfold wdA
 rw[List.take_of_length_le (by omega)]
def wdC:CT where
 X:=List Int
 pre:=fun l=>l.length<=5/\∀ n∈l,0<=n/\r64 n
 args:=fun l=>[.sl 100001 0 l.length]
 g0:=fun l=>[(100001,.rows .bor kN l.length (encL encI l))]
 res:=fun l=>.s (wdS l)
 g1:=fun _=>[]
theorem wd_el {l:List Int} {i:Nat} (h:∀ n∈l,0<=n/\r64 n) (hi:(i:Int)<l.length):0<=l.getD (0+(i:Int).toNat) default/\r64 (l.getD (0+(i:Int).toNat) default):=by
 have hi:i<l.length:=by omega
 rw[Nat.zero_add,List.getD_eq_getElem?_getD,show(i:Int).toNat=i from rfl,List.getElem?_eq_getElem hi]
 exact h _ (List.getElem_mem _)
theorem wdA_z {l:List Int} (h:∀ n∈l,0<=n/\r64 n):∀(i:Nat),i<=l.length->(wdA l i).size<=22*i
 |0,_=>Nat.le_refl 0
 |i+1,hi=>by
  have ih:=wdA_z h i (by omega)
  have h1:=digS_size (wd_el h (i:=i) (by omega)).2
  rw[<- wdA_s (by omega),ba_size,ba_size]
  have:(⟨#[32]⟩:ByteArray).size=1:=rfl
  omega
def wdI (l:List Int) (id:Nat):Option Inv:=match id with
 |0=>some { X:=Nat,ok:=fun i=>i<=l.length,fr:=fun i=>[(0,.sl 100001 0 l.length),(3,.s (wdA l i)),(4,.i .i64 i)],hp:=fun i=>[(100001,.rows .bor kN l.length (encL encI l))],me:=fun i=>l.length-i }
 |_=>none
def cfgWd:Cfg:=⟨T,[],[(73,.one dgCt)],noInv,60,{}⟩
theorem conWd:ConOk Tryd.prog cfgWd:=ConL.ok (.cons (ConL.one dg_all) .nil)
theorem wd_s1 {l:List Int} {i:Nat} (h:l.length<=5/\∀ n∈l,0<=n/\r64 n) (hi:(i:Int)<l.length):(wdA l i).size+(⟨#[32]⟩:ByteArray).size<=9223372036854775807:=by
 have:=wdA_z h.2 i (by omega)
 have e:(⟨#[32]⟩:ByteArray).size=1:=rfl
 omega
theorem wd_s2 {l:List Int} {i:Nat} (h:l.length<=5/\∀ n∈l,0<=n/\r64 n) (hi:(i:Int)<l.length):(wdA l i++⟨#[32]⟩).size+(digS (l.getD (0+(i:Int).toNat) default)).size<=9223372036854775807:=by
 have h1:=wdA_z h.2 i (by omega)
 have h2:=digS_size (wd_el h.2 hi).2
 have e:(⟨#[32]⟩:ByteArray).size=1:=rfl
 rw[ba_size]
 omega
theorem wdS_z {l:List Int} (h:∀ n∈l,0<=n/\r64 n):(wdS l).size<=22*l.length:=by
 have:=wdA_z h l.length (Nat.le_refl _)
 rw[wdA_t (by omega)]at this
 exact this
set_option maxRecDepth 100000 in
theorem wd_keeps:Keeps cfgWd Tryd.f48 wdC wdI:=Eq.mp (show((∀ x1:List Int,((x1.length<=(5:Nat)/\∀(n:Int),n∈x1->(0:Int)<=n/\r64 n)->(∃ x3:Nat,(((x3<=x1.length)/\(((0=0/\x1.length=x1.length)/\(((ByteArray.mk (List.toArray (@List.nil UInt8)))=wdA x1 x3)/\((0=(x3:Int))/\(((ByteArray.mk (List.toArray (@List.nil UInt8)))=(ByteArray.mk (List.toArray (@List.nil UInt8))))/\True))))/\(((RLe x1.length x1.length)/\(RI x1.length x1 x1))/\True)))/\(∀ x4:Nat,((x4<=x1.length)->(((decide ((x4:Int)<(x1.length:Int))=true)->((ByteArray.size (wdA x1 x4)+ByteArray.size (ByteArray.mk (List.toArray ((32:UInt8)::@List.nil UInt8)))<=(9223372036854775807:Nat))/\((((0:Int)<=(x4:Int))/\((x4:Int)<(x1.length:Int)))/\((0+Int.toNat (x4:Int)<x1.length)/\(∃ x7:Int,((((0:Int)<=x7)/\(r64 x7))/\(((x1.getD (0+Int.toNat (x4:Int)) default=x7)/\True)/\(True/\((ByteArray.size (wdA x1 x4++(ByteArray.mk (List.toArray ((32:UInt8)::@List.nil UInt8))))+ByteArray.size (digS x7)<=(9223372036854775807:Nat))/\((((-9223372036854775808:Int)<=(x4:Int)+1)/\((x4:Int)+1<=(9223372036854775807:Int)))/\(∃ x8:Nat,((x1.length-x8<x1.length-x4)/\((x8<=x1.length)/\(((0=0/\x1.length=x1.length)/\((wdA x1 x4++(ByteArray.mk (List.toArray ((32:UInt8)::@List.nil UInt8)))++digS x7=wdA x1 x8)/\(((x4:Int)+1=(x8:Int))/\(((ByteArray.mk (List.toArray (@List.nil UInt8)))=(ByteArray.mk (List.toArray (@List.nil UInt8))))/\True))))/\(((RLe x1.length x1.length)/\(RI x1.length x1 x1))/\True)))))))))))))))/\((decide ((x4:Int)<(x1.length:Int))=false)->((wdA x1 x4=wdS x1)/\True))))))))))=(Keeps cfgWd Tryd.f48 wdC wdI) by kernel_rfl) (fun x1=>fun h2=>⟨((0:Nat)),
⟨(by(try dsimp only at *);omega),
⟨⟨rfl,rfl⟩,
(by(try dsimp only at *);rfl),
(by(try dsimp only at *);omega),rfl,trivial⟩,
⟨rl,rr⟩,trivial⟩,
fun x4=>fun h5=>⟨fun g6=>have h6:=dT g6;⟨(by(try dsimp only at *);exact wd_s1 h2 h6),
⟨(by(try dsimp only at *);omega),
(by(try dsimp only at *);omega)⟩,
(by(try dsimp only at *);omega),
(List.getD x1 ((0:Nat)+Int.toNat (↑x4:Int)) default),
⟨(by(try dsimp only at *);exact(wd_el h2.2 h6).1),
(by(try dsimp only at *);grind)⟩,
⟨rfl,trivial⟩,trivial,
(by(try dsimp only at *);exact wd_s2 h2 h6),
⟨(by(try dsimp only at *);omega),
(by(try dsimp only at *);omega)⟩,
(x4+(1:Nat)),
(by(try dsimp only at *);omega),
(by(try dsimp only at *);omega),
⟨⟨rfl,rfl⟩,
(by(try dsimp only at *);exact wdA_s h6),
(by(try dsimp only at *);omega),rfl,trivial⟩,
⟨rl,rr⟩,trivial⟩,
fun g9=>have h9:=dF g9;⟨(by(try dsimp only at *);exact wdA_t h9),trivial⟩⟩⟩)
theorem wd_good:Good Tryd.prog 48 wdC/\FnOk Tryd.prog 48:=good_of tok conWd (fn:=Tryd.f48) rfl (by decide+kernel) (fun _=>rfl) wd_keeps
def rsR (f la:Int):List Int->List (Int × Int)
 | []=>[(f,la)]
 |n::t=>if la+1<n then(f,la)::rsR n n t else rsR f n t
theorem rsR_fold:∀(t:List Int) (s:RS),0<=s.f->(∀ n∈t,0<=n)->rsF (t.foldl rsS s)=s.R++rsR s.f s.l t
 | [],s,h,_=>by
  show rsF s=_
  unfold rsF
  rw[if_pos h]
  rfl
 |n::t,s,h,ht=>by
  have hn:=ht n (List.mem_cons_self ..)
  have ht':=fun m hm=>ht m (List.mem_cons_of_mem n hm)
  rw[List.foldl_cons]
  unfold rsR
  by_cases h1:s.l+1<n
  ·rw[if_pos h1]
   have e:rsS s n=⟨s.R++[(s.f,s.l)],n,n⟩:=by unfold rsS;rw[if_pos (.inr h1),if_pos h]
   rw[e,rsR_fold t _ hn ht',List.append_assoc]
   rfl
  ·rw[if_neg h1]
   have e:rsS s n=⟨s.R,s.f,n⟩:=by unfold rsS;rw[if_neg (by omega)]
   rw[e]
   exact rsR_fold t _ h ht'
theorem runs_cons {n:Int} {t:List Int} (hn:0<=n) (ht:∀ m∈t,0<=m):runsL (n::t)=rsR n n t:=by
 unfold runsL
 rw[List.foldl_cons]
 have e:rsS rs0 n=⟨[],n,n⟩:=rfl
 rw[e,rsR_fold t _ hn ht]
 rfl
theorem drop_getD {l:List Int} {k:Nat} (h:k<l.length):l.drop k=l.getD k default::l.drop (k+1):=by
 rw[List.drop_eq_getElem_cons h,List.getD_eq_getElem?_getD,List.getElem?_eq_getElem h]
 rfl
theorem rsR_run {l:List Int} (f:Int) {i k:Nat} (hik:i<=k) (hk:k<l.length) (hc:∀ j,i<=j->j<k->l.getD (j+1) default=l.getD j default+1):rsR f (l.getD i default) (l.drop (i+1))=rsR f (l.getD k default) (l.drop (k+1)):=by
 induction k with
 |zero=>rw[show i=0 by omega]
 |succ k ih=>
  rcases Nat.lt_or_ge k i with h|h
  ·rw[show i=k+1 by omega]
  ·rw[ih h (by omega) (fun j a b=>hc j a (by omega)),drop_getD hk]
   have:=hc k h (by omega)
   rw[rsR,if_neg (by omega)]
theorem runs_step {l:List Int} (hl:∀ n∈l,0<=n) (hs:l.Pairwise (· <·)) {i k:Nat} (hik:i<=k) (hk:k<l.length) (hc:∀ j,i<=j->j<k->l.getD (j+1) default=l.getD j default+1) (he:¬ (k+1<l.length/\l.getD (k+1) default=l.getD k default+1)):
  runsL (l.drop i)=(l.getD i default,l.getD k default)::runsL (l.drop (k+1)):=by
 have hp:∀ m,m<l.length->0<=l.getD m default:=fun m hm=>by
  rw[List.getD_eq_getElem?_getD,List.getElem?_eq_getElem hm]
  exact hl _ (List.getElem_mem _)
 have hd:∀ m,∀ n∈l.drop m,0<=n:=fun m n hn=>hl n (List.mem_of_mem_drop hn)
 rw[drop_getD (show i<l.length by omega),runs_cons (hp i (by omega)) (hd _),rsR_run _ hik hk hc]
 by_cases h1:k+1<l.length
 ·rw[drop_getD h1,runs_cons (hp _ h1) (hd _)]
  have h2:l.getD k default<l.getD (k+1) default:=by
   rw[List.getD_eq_getElem?_getD,List.getD_eq_getElem?_getD,List.getElem?_eq_getElem hk,List.getElem?_eq_getElem h1]
   exact List.pairwise_iff_getElem.1 hs k (k+1) hk h1 (Nat.lt_succ_self _)
  have h3:¬ l.getD (k+1) default=l.getD k default+1:=fun e=>he ⟨h1,e⟩
  rw[rsR,if_pos (by omega)]
 ·rw[List.drop_of_length_le (by omega)]
  rfl
structure TxS where
 i:Nat
 s:ByteArray
def TxOk (l:List Int) (s:TxS):Prop:=s.i<=l.length/\∃ R:List (Int × Int),s.s=joiS (R.map runT) ⟨#[44]⟩/\R++runsL (l.drop s.i)=runsL l/\(∀ p∈R,(0<=p.1/\p.1<4096)/\(0<=p.2/\p.2<4096))/\R.length<=s.i
def ttP (l:List Int):Prop:=(∀ n∈l,0<=n/\n<4096)/\l.Pairwise (· <·)/\l.length<=60
def ttC:CT where
 X:=List Int
 pre:=ttP
 args:=fun l=>[.sl 100001 0 l.length]
 g0:=fun l=>[(100001,.rows .bor kN l.length (encL encI l))]
 res:=fun l=>.s (setS l)
 g1:=fun _=>[]
def txRun (l:List Int) (i k:Nat):Prop:=∀ j,i<=j->j<k->l.getD (j+1) default=l.getD j default+1
def txGo (l:List Int) (k:Nat):Prop:=(k:Int)+1<l.length/\l.getD (0+((k:Int)+1).toNat) default=l.getD (0+(k:Int).toNat) default+1
instance (l:List Int) (k:Nat):Decidable (txGo l k):=by unfold txGo;infer_instance
def ttI (l:List Int) (id:Nat):Option Inv:=match id with
 | 0 => some { X := TxS, ok := fun s => TxOk l s, fr := fun s => [(0, .sl 100001 0 l.length), (3, .s s.s), (4, .i .i64 s.i)], hp := fun s => [(100001, .rows .bor kN l.length (encL encI l))], me := fun s => l.length - s.i,
               inn:=fun s id=>match id with
                | 2 => some { X := Nat, ok := fun k => (s.i <= k /\ k < l.length) /\ txRun l s.i k, fr := fun k => [(0, .sl 100001 0 l.length), (3, .s s.s), (4, .i .i64 s.i), (5, .i .i64 k)], hp := fun k => [(100001, .rows .bor kN l.length (encL encI l))], me := fun k => l.length - k,
                              inn:=fun k id=>match id with
                               |100028=>some (cutB 28 (decide (txGo l k)))
                               |_=>none }
                |_=>none }
 |_=>none
def cfgTx:Cfg:=⟨T,[],[(74,.one dtCt)],noInv,60,{}⟩
theorem conTx:ConOk Tryd.prog cfgTx:=ConL.ok (.cons (ConL.one dt_all) .nil)
theorem tt_el {l:List Int} (h:ttP l) {j:Nat} (hj:j<l.length):0<=l.getD (0+(j:Int).toNat) default/\l.getD (0+(j:Int).toNat) default<4096:=by
 rw[Nat.zero_add,List.getD_eq_getElem?_getD,show(j:Int).toNat=j from rfl,List.getElem?_eq_getElem hj]
 exact h.1 _ (List.getElem_mem _)
theorem tt_sz {l:List Int} (h:ttP l) {s:TxS} (h5:TxOk l s):s.s.size<=2640:=by
 obtain⟨h1,R,e,_,hR,hn⟩:=h5
 have:=joi_size (b:=43) ⟨#[44]⟩ (R.map runT) (fun x hx=>by
  obtain⟨p,hp,rfl⟩:=List.mem_map.1 hx
  exact runT_size (hR p hp))
 rw[<- e,List.length_map]at this
 have e1:(⟨#[44]⟩:ByteArray).size=1:=rfl
 rw[e1]at this
 have:R.length*(43+1)<=60*44:=Nat.mul_le_mul (by have:=h.2.2;omega) (by omega)
 omega
theorem tt_i {l:List Int} (h:ttP l) {j:Nat} (hj:j<l.length):(itoS (l.getD (0+(j:Int).toNat) default)).size<=21:=ito_size (by have:=tt_el h hj;unfold r64;omega)
theorem tt_0 {l:List Int}:TxOk l ⟨0,⟨#[]⟩⟩:=⟨Nat.zero_le _,[],rfl,rfl,fun p hp=>(by cases hp),Nat.le_refl _⟩
theorem tt_run0 {l:List Int} {i:Nat}:txRun l i i:=fun j a b=>absurd a (by omega)
theorem tt_runs {l:List Int} {i k:Nat} (h:txRun l i k) (h1:txGo l k):txRun l i (k+1):=by
 intro j a b
 rcases Nat.lt_or_ge j k with q|q
 ·exact h j a q
 ·have e:j=k:=by omega
  subst e
  have:=h1.2
  rw[Nat.zero_add,Nat.zero_add,show((j:Int)+1).toNat=j+1 by omega,show(j:Int).toNat=j from rfl]at this
  exact this
theorem tt_lt {l:List Int} (h:ttP l) {i k:Nat} (hi:i<k) (hk:k<l.length):l.getD i default<l.getD k default:=by
 rw[List.getD_eq_getElem?_getD,List.getD_eq_getElem?_getD,List.getElem?_eq_getElem hk,List.getElem?_eq_getElem (show i<l.length by omega)]
 exact List.pairwise_iff_getElem.1 h.2.1 i k _ hk hi
theorem joi_pos {x:ByteArray} {l:List ByteArray} {s:ByteArray} (h:0<x.size):0<(joiS (x::l) s).size:=by
 cases l with
 |nil=>rw[joi_one];exact h
 |cons y l=>rw[joi_two,ba_size,ba_size];omega
theorem runT_pos {p:Int × Int} (h:0<=p.1):0<(runT p).size:=by
 have:=ito_pos h
 unfold runT
 split
 ·exact this
 ·rw[ba_size,ba_size];omega
theorem tt_n {l:List Int} (h:ttP l) {s:TxS} {k:Nat} (h5:TxOk l s) (h9:(s.i<=k/\k<l.length)/\txRun l s.i k) (he:¬ txGo l k) {w:ByteArray} (hw:w=runT (l.getD s.i default,l.getD k default)):
  ((!(s.s.toList==(⟨#[]⟩:ByteArray).toList))=true->TxOk l ⟨k+1,s.s++⟨#[44]⟩++w⟩)/\((!(s.s.toList==(⟨#[]⟩:ByteArray).toList))=false->TxOk l ⟨k+1,s.s++w⟩):=by
 obtain⟨h1,R,e,hr,hR,hn⟩:=h5
 have hik:=h9.1.1
 have hk:=h9.1.2
 have he':¬ (k+1<l.length/\l.getD (k+1) default=l.getD k default+1):=by
  intro q
  refine he ⟨by omega,?_⟩
  rw[Nat.zero_add,Nat.zero_add,show((k:Int)+1).toNat=k+1 by omega,show(k:Int).toNat=k from rfl]
  exact q.2
 have st:=runs_step (fun n hn=>(h.1 n hn).1) h.2.1 hik hk h9.2 he'
 have e1:=tt_el h (j:=s.i) (by omega)
 have e2:=tt_el h (j:=k) hk
 rw[Nat.zero_add,Int.toNat_natCast]at e1 e2
 have mk:∀ s',s'=joiS ((R++[(l.getD s.i default,l.getD k default)]).map runT) ⟨#[44]⟩->TxOk l ⟨k+1,s'⟩:=by
  intro s' hs'
  refine⟨hk,R++[(l.getD s.i default,l.getD k default)],hs',?_,?_,?_⟩
  ·rw[List.append_assoc,List.singleton_append,<- st];exact hr
  ·intro p hp
   rcases List.mem_append.1 hp with hp|hp
   ·exact hR p hp
   ·simp only[List.mem_singleton]at hp
    subst hp
    exact⟨e1,e2⟩
  ·rw[List.length_append,List.length_singleton];show R.length+1<=k+1;omega
 have hq:(s.s.toList==(⟨#[]⟩:ByteArray).toList)=decide (s.s=⟨#[]⟩):=seq_eq _ _
 refine⟨fun hs=>mk _ ?_,fun hs=>mk _ ?_⟩
 ·have hne:R≠[]:=by
   rintro rfl
   have:s.s=⟨#[]⟩:=e
   rw[hq,decide_eq_true this]at hs
   cases hs
  rw[List.map_append,List.map_singleton,joi_snoc _ _ _ (by simpa using hne),<- e,hw]
 ·have h0:s.s=⟨#[]⟩:=by
   rw[hq]at hs
   simpa using hs
  have hnil:R=[]:=by
   cases R with
   |nil=>rfl
   |cons p R=>
    have:=joi_pos (l:=R.map runT) (s:=⟨#[44]⟩) (runT_pos (hR p (List.mem_cons_self ..)).1.1)
    rw[show runT p::R.map runT=(p::R).map runT from rfl,<- e,h0]at this
    exact absurd this (by decide)
  subst hnil
  rw[h0,nil_ba,hw]
  exact(joi_one _ _).symm
theorem tt_w1 {l:List Int} {i k:Nat} (h9:i<=k) (h:¬ (i:Int)<k):itoS (l.getD (0+(i:Int).toNat) default)=runT (l.getD i default,l.getD k default):=by
 have:i=k:=by omega
 subst this
 unfold runT
 rw[if_pos rfl,Nat.zero_add,Int.toNat_natCast]
theorem tt_w2 {l:List Int} (hp:ttP l) {i k:Nat} (hk:k<l.length) (h:(i:Int)<k):itoS (l.getD (0+(i:Int).toNat) default)++(⟨#[45]⟩++itoS (l.getD (0+(k:Int).toNat) default))=runT (l.getD i default,l.getD k default):=by
 have:=tt_lt hp (i:=i) (k:=k) (by omega) hk
 unfold runT
 rw[if_neg (by simp only;omega),Nat.zero_add,Nat.zero_add,Int.toNat_natCast,Int.toNat_natCast,ba_assoc]
theorem tt_1 {l:List Int} (h:ttP l) {s:TxS} {k:Nat} (h5:TxOk l s) (h9:(s.i<=k/\k<l.length)/\txRun l s.i k) (he:¬ txGo l k) (hs:(!(s.s.toList==(⟨#[]⟩:ByteArray).toList))=true) (hi:¬ (s.i:Int)<k):TxOk l ⟨k+1,s.s++⟨#[44]⟩++itoS (l.getD (0+(s.i:Int).toNat) default)⟩:=(tt_n h h5 h9 he (tt_w1 h9.1.1 hi)).1 hs
theorem tt_2 {l:List Int} (h:ttP l) {s:TxS} {k:Nat} (h5:TxOk l s) (h9:(s.i<=k/\k<l.length)/\txRun l s.i k) (he:¬ txGo l k) (hs:(!(s.s.toList==(⟨#[]⟩:ByteArray).toList))=false) (hi:¬ (s.i:Int)<k):TxOk l ⟨k+1,s.s++itoS (l.getD (0+(s.i:Int).toNat) default)⟩:=(tt_n h h5 h9 he (tt_w1 h9.1.1 hi)).2 hs
theorem tt_3 {l:List Int} (h:ttP l) {s:TxS} {k:Nat} (h5:TxOk l s) (h9:(s.i<=k/\k<l.length)/\txRun l s.i k) (he:¬ txGo l k) (hs:(!(s.s.toList==(⟨#[]⟩:ByteArray).toList))=true) (hi:(s.i:Int)<k):TxOk l ⟨k+1,s.s++⟨#[44]⟩++itoS (l.getD (0+(s.i:Int).toNat) default)++(⟨#[45]⟩++itoS (l.getD (0+(k:Int).toNat) default))⟩:=by
 rw[ba_assoc (s.s++⟨#[44]⟩)]
 exact(tt_n h h5 h9 he (tt_w2 h h9.1.2 hi)).1 hs
theorem tt_4 {l:List Int} (h:ttP l) {s:TxS} {k:Nat} (h5:TxOk l s) (h9:(s.i<=k/\k<l.length)/\txRun l s.i k) (he:¬ txGo l k) (hs:(!(s.s.toList==(⟨#[]⟩:ByteArray).toList))=false) (hi:(s.i:Int)<k):TxOk l ⟨k+1,s.s++itoS (l.getD (0+(s.i:Int).toNat) default)++(⟨#[45]⟩++itoS (l.getD (0+(k:Int).toNat) default))⟩:=by
 rw[ba_assoc s.s]
 exact(tt_n h h5 h9 he (tt_w2 h h9.1.2 hi)).2 hs
theorem tt_e {l:List Int} {s:TxS} (h5:TxOk l s) (h:¬ (s.i:Int)<l.length):s.s=setS l:=by
 obtain⟨h1,R,e,hr,_,_⟩:=h5
 rw[List.drop_of_length_le (by omega)]at hr
 rw[e]
 unfold setS
 rw[<- hr]
 simp[runsL,rsF,rs0]
theorem c1:(⟨#[44]⟩:ByteArray).size=1:=rfl
theorem c2:(⟨#[45]⟩:ByteArray).size=1:=rfl
set_option maxRecDepth 100000 in
theorem tx2_keeps:Keeps cfgTx Tryd.f49 ttC ttI:=Eq.mp (show((∀ x1:List Int,((ttP x1)->(∃ x3:TxS,(((TxOk x1 x3)/\(((0=0/\x1.length=x1.length)/\(((ByteArray.mk (List.toArray (@List.nil UInt8)))=x3.s)/\((0=(x3.i:Int))/\(((ByteArray.mk (List.toArray (@List.nil UInt8)))=(ByteArray.mk (List.toArray (@List.nil UInt8))))/\True))))/\(((RLe x1.length x1.length)/\(RI x1.length x1 x1))/\True)))/\(∀ x4:TxS,((TxOk x1 x4)->(((decide ((x4.i:Int)<(x1.length:Int))=true)->(∃ x7:Nat,(((((x4.i<=x7)/\(x7<x1.length))/\(txRun x1 x4.i x7))/\(((0=0/\x1.length=x1.length)/\(x4.s=x4.s/\(((x4.i:Int)=(x4.i:Int))/\(((x4.i:Int)=(x7:Int))/\(((x4.i:Int)=(x4.i:Int))/\((decide ((x4.i:Int)<(x1.length:Int))=decide ((x4.i:Int)<(x1.length:Int)))/\(((x1.length:Int)=(x1.length:Int))/\((0=0/\x1.length=x1.length)/\(((x4.i:Int)=(x4.i:Int))/\(((ByteArray.mk (List.toArray (@List.nil UInt8)))=(ByteArray.mk (List.toArray (@List.nil UInt8))))/\True))))))))))/\(((RLe x1.length x1.length)/\(RI x1.length x1 x1))/\True)))/\(∀ x8:Nat,(((x4.i<=x8/\x8<x1.length)/\txRun x1 x4.i x8)->(((((-9223372036854775808:Int)<=(x8:Int)+1)/\((x8:Int)+1<=(9223372036854775807:Int)))/\(((decide ((x8:Int)+1<(x1.length:Int))=true)->((((-9223372036854775808:Int)<=(x8:Int)+1)/\((x8:Int)+1<=(9223372036854775807:Int)))/\((((0:Int)<=(x8:Int)+1)/\((x8:Int)+1<(x1.length:Int)))/\((0+Int.toNat ((x8:Int)+1)<x1.length)/\((((0:Int)<=(x8:Int))/\((x8:Int)<(x1.length:Int)))/\((0+Int.toNat (x8:Int)<x1.length)/\((((-9223372036854775808:Int)<=x1.getD (0+Int.toNat (x8:Int)) default+1)/\(x1.getD (0+Int.toNat (x8:Int)) default+1<=(9223372036854775807:Int)))/\(∃ x11:Unit,(True/\((decide (x1.getD (0+Int.toNat ((x8:Int)+1)) default=x1.getD (0+Int.toNat (x8:Int)) default+1)=decide (txGo x1 x8))/\True))))))))))/\((decide ((x8:Int)+1<(x1.length:Int))=false)->(∃ x13:Unit,(True/\((false=decide (txGo x1 x8))/\True))))))/\(∀ x14:Unit,(True->(((decide (txGo x1 x8)=true)->((((-9223372036854775808:Int)<=(x8:Int)+1)/\((x8:Int)+1<=(9223372036854775807:Int)))/\(∃ x17:Nat,((x1.length-x17<x1.length-x8)/\((((x4.i<=x17)/\(x17<x1.length))/\(txRun x1 x4.i x17))/\(((0=0/\x1.length=x1.length)/\(x4.s=x4.s/\(((x4.i:Int)=(x4.i:Int))/\(((x8:Int)+1=(x17:Int))/\(((x4.i:Int)=(x4.i:Int))/\((decide ((x4.i:Int)<(x1.length:Int))=decide ((x4.i:Int)<(x1.length:Int)))/\(((x1.length:Int)=(x1.length:Int))/\((0=0/\x1.length=x1.length)/\(((x4.i:Int)=(x4.i:Int))/\(((ByteArray.mk (List.toArray (@List.nil UInt8)))=(ByteArray.mk (List.toArray (@List.nil UInt8))))/\True))))))))))/\(((RLe x1.length x1.length)/\(RI x1.length x1 x1))/\True)))))))/\((decide (txGo x1 x8)=false)->((((!ByteArray.toList x4.s==ByteArray.toList (ByteArray.mk (List.toArray (@List.nil UInt8))))=true)->((ByteArray.size x4.s+ByteArray.size (ByteArray.mk (List.toArray ((44:UInt8)::@List.nil UInt8)))<=(9223372036854775807:Nat))/\((((0:Int)<=(x4.i:Int))/\((x4.i:Int)<(x1.length:Int)))/\((0+Int.toNat (x4.i:Int)<x1.length)/\(∃ x20:Int,((((0:Int)<=x20)/\(r64 x20))/\(((x1.getD (0+Int.toNat (x4.i:Int)) default=x20)/\True)/\(True/\((ByteArray.size (x4.s++(ByteArray.mk (List.toArray ((44:UInt8)::@List.nil UInt8))))+ByteArray.size (itoS x20)<=(9223372036854775807:Nat))/\(((decide ((x4.i:Int)<(x8:Int))=true)->((((0:Int)<=(x8:Int))/\((x8:Int)<(x1.length:Int)))/\((0+Int.toNat (x8:Int)<x1.length)/\(∃ x22:Int,((((0:Int)<=x22)/\(r64 x22))/\(((x1.getD (0+Int.toNat (x8:Int)) default=x22)/\True)/\(True/\((ByteArray.size (ByteArray.mk (List.toArray ((45:UInt8)::@List.nil UInt8)))+ByteArray.size (itoS x22)<=(9223372036854775807:Nat))/\((ByteArray.size (x4.s++(ByteArray.mk (List.toArray ((44:UInt8)::@List.nil UInt8)))++itoS x20)+ByteArray.size ((ByteArray.mk (List.toArray ((45:UInt8)::@List.nil UInt8)))++itoS x22)<=(9223372036854775807:Nat))/\((((-9223372036854775808:Int)<=(x8:Int)+1)/\((x8:Int)+1<=(9223372036854775807:Int)))/\(∃ x23:TxS,((x1.length-x23.i<x1.length-x4.i)/\((TxOk x1 x23)/\(((0=0/\x1.length=x1.length)/\((x4.s++(ByteArray.mk (List.toArray ((44:UInt8)::@List.nil UInt8)))++itoS x20++((ByteArray.mk (List.toArray ((45:UInt8)::@List.nil UInt8)))++itoS x22)=x23.s)/\(((x8:Int)+1=(x23.i:Int))/\(((ByteArray.mk (List.toArray (@List.nil UInt8)))=(ByteArray.mk (List.toArray (@List.nil UInt8))))/\True))))/\(((RLe x1.length x1.length)/\(RI x1.length x1 x1))/\True)))))))))))))))/\((decide ((x4.i:Int)<(x8:Int))=false)->((((-9223372036854775808:Int)<=(x8:Int)+1)/\((x8:Int)+1<=(9223372036854775807:Int)))/\(∃ x25:TxS,((x1.length-x25.i<x1.length-x4.i)/\((TxOk x1 x25)/\(((0=0/\x1.length=x1.length)/\((x4.s++(ByteArray.mk (List.toArray ((44:UInt8)::@List.nil UInt8)))++itoS x20=x25.s)/\(((x8:Int)+1=(x25.i:Int))/\(((ByteArray.mk (List.toArray (@List.nil UInt8)))=(ByteArray.mk (List.toArray (@List.nil UInt8))))/\True))))/\(((RLe x1.length x1.length)/\(RI x1.length x1 x1))/\True)))))))))))))))))/\(((!ByteArray.toList x4.s==ByteArray.toList (ByteArray.mk (List.toArray (@List.nil UInt8))))=false)->((((0:Int)<=(x4.i:Int))/\((x4.i:Int)<(x1.length:Int)))/\((0+Int.toNat (x4.i:Int)<x1.length)/\(∃ x27:Int,((((0:Int)<=x27)/\(r64 x27))/\(((x1.getD (0+Int.toNat (x4.i:Int)) default=x27)/\True)/\(True/\((ByteArray.size x4.s+ByteArray.size (itoS x27)<=(9223372036854775807:Nat))/\(((decide ((x4.i:Int)<(x8:Int))=true)->((((0:Int)<=(x8:Int))/\((x8:Int)<(x1.length:Int)))/\((0+Int.toNat (x8:Int)<x1.length)/\(∃ x29:Int,((((0:Int)<=x29)/\(r64 x29))/\(((x1.getD (0+Int.toNat (x8:Int)) default=x29)/\True)/\(True/\((ByteArray.size (ByteArray.mk (List.toArray ((45:UInt8)::@List.nil UInt8)))+ByteArray.size (itoS x29)<=(9223372036854775807:Nat))/\((ByteArray.size (x4.s++itoS x27)+ByteArray.size ((ByteArray.mk (List.toArray ((45:UInt8)::@List.nil UInt8)))++itoS x29)<=(9223372036854775807:Nat))/\((((-9223372036854775808:Int)<=(x8:Int)+1)/\((x8:Int)+1<=(9223372036854775807:Int)))/\(∃ x30:TxS,((x1.length-x30.i<x1.length-x4.i)/\((TxOk x1 x30)/\(((0=0/\x1.length=x1.length)/\((x4.s++itoS x27++((ByteArray.mk (List.toArray ((45:UInt8)::@List.nil UInt8)))++itoS x29)=x30.s)/\(((x8:Int)+1=(x30.i:Int))/\(((ByteArray.mk (List.toArray (@List.nil UInt8)))=(ByteArray.mk (List.toArray (@List.nil UInt8))))/\True))))/\(((RLe x1.length x1.length)/\(RI x1.length x1 x1))/\True)))))))))))))))/\((decide ((x4.i:Int)<(x8:Int))=false)->((((-9223372036854775808:Int)<=(x8:Int)+1)/\((x8:Int)+1<=(9223372036854775807:Int)))/\(∃ x32:TxS,((x1.length-x32.i<x1.length-x4.i)/\((TxOk x1 x32)/\(((0=0/\x1.length=x1.length)/\((x4.s++itoS x27=x32.s)/\(((x8:Int)+1=(x32.i:Int))/\(((ByteArray.mk (List.toArray (@List.nil UInt8)))=(ByteArray.mk (List.toArray (@List.nil UInt8))))/\True))))/\(((RLe x1.length x1.length)/\(RI x1.length x1 x1))/\True)))))))))))))))))))))))))))/\((decide ((x4.i:Int)<(x1.length:Int))=false)->((x4.s=setS x1)/\True))))))))))=(Keeps cfgTx Tryd.f49 ttC ttI) by kernel_rfl) (fun x1=>fun h2=>⟨({ i:=(0:Nat),s:={ data:=List.toArray (@List.nil UInt8):ByteArray }:TxS }),
⟨(by(try dsimp only at *);exact tt_0),
⟨⟨rfl,rfl⟩,rfl,
(by(try dsimp only at *);omega),rfl,trivial⟩,
⟨rl,rr⟩,trivial⟩,
fun x4=>fun h5=>⟨fun g6=>have h6:=dT g6;⟨(TxS.i x4),
⟨⟨⟨(by(try dsimp only at *);omega),
(by(try dsimp only at *);omega)⟩,
(by(try dsimp only at *);exact tt_run0)⟩,
⟨⟨rfl,rfl⟩,rfl,rfl,rfl,rfl,rfl,rfl,
⟨rfl,rfl⟩,rfl,rfl,trivial⟩,
⟨rl,rr⟩,trivial⟩,
fun x8=>fun h9=>⟨⟨⟨(by(try dsimp only at *);omega),
(by(try dsimp only at *);(have:=h9.1.2;have:=h2.2.2;omega))⟩,
fun g10=>have h10:=dT g10;⟨⟨(by(try dsimp only at *);omega),
(by(try dsimp only at *);(have:=h9.1.2;have:=h2.2.2;omega))⟩,
⟨(by(try dsimp only at *);omega),
(by(try dsimp only at *);omega)⟩,
(by(try dsimp only at *);omega),
⟨(by(try dsimp only at *);omega),
(by(try dsimp only at *);omega)⟩,
(by(try dsimp only at *);omega),
⟨(by(try dsimp only at *);(have:=tt_el h2 h9.1.2;omega)),
(by(try dsimp only at *);(have:=tt_el h2 h9.1.2;omega))⟩,
(default),trivial,
(by(try dsimp only at *);exact decide_eq_decide.2 ⟨fun q=>⟨h10,q⟩,fun q=>q.2⟩),trivial⟩,
fun g12=>have h12:=dF g12;⟨(default),trivial,
(by(try dsimp only at *);exact(decide_eq_false (fun q=>h12 q.1)).symm),trivial⟩⟩,
fun x14=>fun h15=>⟨fun g16=>have h16:=dT g16;⟨⟨(by(try dsimp only at *);omega),
(by(try dsimp only at *);(have:=h9.1.2;have:=h2.2.2;omega))⟩,
(x8+(1:Nat)),
(by(try dsimp only at *);omega),
⟨⟨(by(try dsimp only at *);omega),
(by(try dsimp only at *);(have:=h16.1;omega))⟩,
(by(try dsimp only at *);exact tt_runs h9.2 ‹_›)⟩,
⟨⟨rfl,rfl⟩,rfl,rfl,
(by(try dsimp only at *);omega),rfl,rfl,rfl,
⟨rfl,rfl⟩,rfl,rfl,trivial⟩,
⟨rl,rr⟩,trivial⟩,
fun g18=>have h18:=dF g18;⟨fun h19=>⟨(by(try dsimp only at *);(have:=tt_sz h2 h5;have:=tt_i h2 (j:=x4.i) (by omega);have:=tt_i h2 h9.1.2;simp only[ba_size,c1,c2];omega)),
⟨(by(try dsimp only at *);omega),
(by(try dsimp only at *);omega)⟩,
(by(try dsimp only at *);omega),
(List.getD x1 ((0:Nat)+Int.toNat (↑(TxS.i x4):Int)) default),
⟨(by(try dsimp only at *);(have:=tt_el h2 (j:=x4.i) (by omega);omega)),
(by(try dsimp only at *);(have:=tt_el h2 (j:=x4.i) (by omega);unfold r64;omega))⟩,
⟨rfl,trivial⟩,trivial,
(by(try dsimp only at *);(have:=tt_sz h2 h5;have:=tt_i h2 (j:=x4.i) (by omega);have:=tt_i h2 h9.1.2;simp only[ba_size,c1,c2];omega)),
fun g21=>have h21:=dT g21;⟨⟨(by(try dsimp only at *);omega),
(by(try dsimp only at *);omega)⟩,
(by(try dsimp only at *);omega),
(List.getD x1 ((0:Nat)+Int.toNat (↑x8:Int)) default),
⟨(by(try dsimp only at *);(have:=tt_el h2 h9.1.2;omega)),
(by(try dsimp only at *);(have:=tt_el h2 h9.1.2;unfold r64;omega))⟩,
⟨rfl,trivial⟩,trivial,
(by(try dsimp only at *);(have:=tt_sz h2 h5;have:=tt_i h2 (j:=x4.i) (by omega);have:=tt_i h2 h9.1.2;simp only[ba_size,c1,c2];omega)),
(by(try dsimp only at *);(have:=tt_sz h2 h5;have:=tt_i h2 (j:=x4.i) (by omega);have:=tt_i h2 h9.1.2;simp only[ba_size,c1,c2];omega)),
⟨(by(try dsimp only at *);omega),
(by(try dsimp only at *);(have:=h9.1.2;have:=h2.2.2;omega))⟩,
({ i:=x8+(1:Nat),s:=TxS.s x4++{ data:=List.toArray ((44:UInt8)::@List.nil UInt8):ByteArray }++itoS (List.getD x1 ((0:Nat)+Int.toNat (↑(TxS.i x4):Int)) default)++({ data:=List.toArray ((45:UInt8)::@List.nil UInt8):ByteArray }++itoS (List.getD x1 ((0:Nat)+Int.toNat (↑x8:Int)) default)):TxS }),
(by(try dsimp only at *);omega),
(by(try dsimp only at *);exact tt_3 h2 h5 h9 ‹_› ‹_› ‹_›),
⟨⟨rfl,rfl⟩,rfl,
(by(try dsimp only at *);omega),rfl,trivial⟩,
⟨rl,rr⟩,trivial⟩,
fun g24=>have h24:=dF g24;⟨⟨(by(try dsimp only at *);omega),
(by(try dsimp only at *);(have:=h9.1.2;have:=h2.2.2;omega))⟩,
({ i:=x8+(1:Nat),s:=TxS.s x4++{ data:=List.toArray ((44:UInt8)::@List.nil UInt8):ByteArray }++itoS (List.getD x1 ((0:Nat)+Int.toNat (↑(TxS.i x4):Int)) default):TxS }),
(by(try dsimp only at *);omega),
(by(try dsimp only at *);exact tt_1 h2 h5 h9 ‹_› ‹_› ‹_›),
⟨⟨rfl,rfl⟩,rfl,
(by(try dsimp only at *);omega),rfl,trivial⟩,
⟨rl,rr⟩,trivial⟩⟩,
fun h26=>⟨⟨(by(try dsimp only at *);omega),
(by(try dsimp only at *);omega)⟩,
(by(try dsimp only at *);omega),
(List.getD x1 ((0:Nat)+Int.toNat (↑(TxS.i x4):Int)) default),
⟨(by(try dsimp only at *);(have:=tt_el h2 (j:=x4.i) (by omega);omega)),
(by(try dsimp only at *);(have:=tt_el h2 (j:=x4.i) (by omega);unfold r64;omega))⟩,
⟨rfl,trivial⟩,trivial,
(by(try dsimp only at *);(have:=tt_sz h2 h5;have:=tt_i h2 (j:=x4.i) (by omega);have:=tt_i h2 h9.1.2;omega)),
fun g28=>have h28:=dT g28;⟨⟨(by(try dsimp only at *);omega),
(by(try dsimp only at *);omega)⟩,
(by(try dsimp only at *);omega),
(List.getD x1 ((0:Nat)+Int.toNat (↑x8:Int)) default),
⟨(by(try dsimp only at *);(have:=tt_el h2 h9.1.2;omega)),
(by(try dsimp only at *);(have:=tt_el h2 h9.1.2;unfold r64;omega))⟩,
⟨rfl,trivial⟩,trivial,
(by(try dsimp only at *);(have:=tt_sz h2 h5;have:=tt_i h2 (j:=x4.i) (by omega);have:=tt_i h2 h9.1.2;simp only[ba_size,c1,c2];omega)),
(by(try dsimp only at *);(have:=tt_sz h2 h5;have:=tt_i h2 (j:=x4.i) (by omega);have:=tt_i h2 h9.1.2;simp only[ba_size,c1,c2];omega)),
⟨(by(try dsimp only at *);omega),
(by(try dsimp only at *);(have:=h9.1.2;have:=h2.2.2;omega))⟩,
({ i:=x8+(1:Nat),s:=TxS.s x4++itoS (List.getD x1 ((0:Nat)+Int.toNat (↑(TxS.i x4):Int)) default)++({ data:=List.toArray ((45:UInt8)::@List.nil UInt8):ByteArray }++itoS (List.getD x1 ((0:Nat)+Int.toNat (↑x8:Int)) default)):TxS }),
(by(try dsimp only at *);omega),
(by(try dsimp only at *);exact tt_4 h2 h5 h9 ‹_› ‹_› ‹_›),
⟨⟨rfl,rfl⟩,rfl,
(by(try dsimp only at *);omega),rfl,trivial⟩,
⟨rl,rr⟩,trivial⟩,
fun g31=>have h31:=dF g31;⟨⟨(by(try dsimp only at *);omega),
(by(try dsimp only at *);(have:=h9.1.2;have:=h2.2.2;omega))⟩,
({ i:=x8+(1:Nat),s:=TxS.s x4++itoS (List.getD x1 ((0:Nat)+Int.toNat (↑(TxS.i x4):Int)) default):TxS }),
(by(try dsimp only at *);omega),
(by(try dsimp only at *);exact tt_2 h2 h5 h9 ‹_› ‹_› ‹_›),
⟨⟨rfl,rfl⟩,rfl,
(by(try dsimp only at *);omega),rfl,trivial⟩,
⟨rl,rr⟩,trivial⟩⟩⟩⟩⟩⟩,
fun g33=>have h33:=dF g33;⟨(by(try dsimp only at *);exact tt_e h5 ‹_›),trivial⟩⟩⟩)
theorem tt_good:Good Tryd.prog 49 ttC/\FnOk Tryd.prog 49:=good_of tok conTx (fn:=Tryd.f49) rfl (by decide+kernel) (fun _=>rfl) tx2_keeps
end Go.Sym