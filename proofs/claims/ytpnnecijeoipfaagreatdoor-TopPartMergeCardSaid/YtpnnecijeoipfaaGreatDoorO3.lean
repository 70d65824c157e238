import Derived.Test.YtpnnecijeoipfaaGreatDoorC1
import Derived.Test.YtpnnecijeoipfaaGreatDoorO2
import Derived.Test.YtpnnecijeoipfaaGreatDoorXD
namespace Go.Sym
set_option linter.unusedVariables false
set_option linter.unusedSimpArgs false
open Go.Proofs
set_option maxRecDepth 100000
set_option maxHeartbeats 4000000
def numB:CT where
 X:=Int
 pre:=fun n=>1<=n/\n<=1099511627776
 args:=fun n=>[.i .i64 n]
 g0:=fun _=>[]
 res:=fun _=>.b true
 g1:=fun _=>[]
def numC:CT:=yesC numB
set_option maxRecDepth 100000 in
theorem num_keeps:Keeps cfgN0 Tryz.f46 numB noIv:=Eq.mp (show((∀ x1:Int,(((1:Int)<=x1/\x1<=(1099511627776:Int))->(((decide ((1:Int)<=x1)=true)->((decide (x1<=(1099511627776:Int))=true)/\True))/\((decide ((1:Int)<=x1)=false)->(false=true/\True))))))=(Keeps cfgN0 Tryz.f46 numB noIv) by kernel_rfl) (fun x1=>fun h2=>⟨fun g3=>have h3:=dT g3;⟨(by grind),trivial⟩,
fun g4=>have h4:=dF g4;⟨(by omega),trivial⟩⟩)
theorem num_good:Good Tryz.prog 46 numC/\FnOk Tryz.prog 46:=good_yes (good_of tok conN0 (fn:=Tryz.f46) rfl (by decide+kernel) (fun _=>rfl) num_keeps) (fun _=>rfl) (fun _=>rfl)
set_option maxRecDepth 100000 in
theorem rnum_keeps:Keeps cfgN0 Tryz.f25 numB noIv:=Eq.mp (show((∀ x1:Int,(((1:Int)<=x1/\x1<=(1099511627776:Int))->(((decide ((1:Int)<=x1)=true)->((decide (x1<=(1099511627776:Int))=true)/\True))/\((decide ((1:Int)<=x1)=false)->(false=true/\True))))))=(Keeps cfgN0 Tryz.f25 numB noIv) by kernel_rfl) (fun x1=>fun h2=>⟨fun g3=>have h3:=dT g3;⟨(by grind),trivial⟩,
fun g4=>have h4:=dF g4;⟨(by omega),trivial⟩⟩)
theorem rnum_good:Good Tryz.prog 25 numC/\FnOk Tryz.prog 25:=good_yes (good_of tok conN0 (fn:=Tryz.f25) rfl (by decide+kernel) (fun _=>rfl) rnum_keeps) (fun _=>rfl) (fun _=>rfl)
theorem fall_at {k:Nat} (h:k<4):33<=((fallS.data.getD k 0).toNat:Int)/\((fallS.data.getD k 0).toNat:Int)<=126:=by
 rcases(show k=0∨k=1∨k=2∨k=3 by omega)with e|e|e|e <;>subst e <;>decide
def codeC:CT where
 X:=Unit
 pre:=fun _=>True
 args:=fun _=>[.s fallS]
 g0:=fun _=>[]
 res:=fun _=>.bt true
 g1:=fun _=>[]
theorem fall_len:fallS.size=4:=rfl
def codeI (_:Unit) (id:Nat):Option Inv:=match id with
 |100011=>some (cutT 11 false)
 |0=>some { X:=Nat,ok:=fun k=>k<=4,fr:=fun k=>[(14,.i .i64 k)],hp:=fun _=>[],me:=fun k=>4-k,inn:=fun _ id=>match id with|100026=>some (cutT 26 false)|_=>none }
 |_=>none
set_option maxRecDepth 100000 in
theorem code_keeps:Keeps cfgN0 Tryz.f96 codeC codeI:=Eq.mp (show((∀ x1:Unit,(True->((((decide ((↑(ByteArray.size fallS):Int)<1)=false)->(∃ x4:Unit,(True/\((decide (40<(↑(ByteArray.size fallS):Int))=false)/\True))))/\((decide ((↑(ByteArray.size fallS):Int)<1)=true)->(∃ x6:Unit,(True/\(true=false/\True)))))/\(∀ x7:Unit,(True->(∃ x9:Nat,(((x9<=(4:Nat))/\(((0=(x9:Int))/\(((↑(ByteArray.size fallS):Int)=(↑(ByteArray.size fallS):Int))/\(fallS=fallS/\(false=false/\(fallS=fallS/\True)))))/\True))/\(∀ x10:Nat,((x10<=(4:Nat))->(((decide ((x10:Int)<(↑(ByteArray.size fallS):Int))=true)->(((((0:Int)<=(x10:Int))/\((x10:Int)<(↑(ByteArray.size fallS):Int)))/\(((decide ((↑(UInt8.toNat (Array.getD (ByteArray.data fallS) (Int.toNat (x10:Int)) (0:UInt8))):Int)<33)=false)->((((0:Int)<=(x10:Int))/\((x10:Int)<(↑(ByteArray.size fallS):Int)))/\(∃ x14:Unit,(True/\((decide (126<(↑(UInt8.toNat (Array.getD (ByteArray.data fallS) (Int.toNat (x10:Int)) (0:UInt8))):Int))=false)/\True)))))/\((decide ((↑(UInt8.toNat (Array.getD (ByteArray.data fallS) (Int.toNat (x10:Int)) (0:UInt8))):Int)<33)=true)->(∃ x16:Unit,(True/\(true=false/\True))))))/\(∀ x17:Unit,(True->((((-9223372036854775808:Int)<=(x10:Int)+1)/\((x10:Int)+1<=(9223372036854775807:Int)))/\(∃ x19:Nat,(((4:Nat)-x19<(4:Nat)-x10)/\((x19<=(4:Nat))/\((((x10:Int)+1=(x19:Int))/\(((↑(ByteArray.size fallS):Int)=(↑(ByteArray.size fallS):Int))/\(fallS=fallS/\(false=false/\(fallS=fallS/\True)))))/\True)))))))))/\((decide ((x10:Int)<(↑(ByteArray.size fallS):Int))=false)->(true=true/\True)))))))))))))=(Keeps cfgN0 Tryz.f96 codeC codeI) by kernel_rfl) (fun x1=>fun h2=>⟨⟨fun g3=>have h3:=dF g3;⟨(default),trivial,
(by(try dsimp only at *);assumption),trivial⟩,
fun g5=>have h5:=dT g5;⟨(default),trivial,
(by(try dsimp only at *);(have:=fall_len;omega)),trivial⟩⟩,
fun x7=>fun h8=>⟨((0:Nat)),
⟨(by(try dsimp only at *);omega),
⟨(by(try dsimp only at *);omega),rfl,rfl,rfl,rfl,trivial⟩,trivial⟩,
fun x10=>fun h11=>⟨fun g12=>have h12:=dT g12;⟨⟨⟨(by(try dsimp only at *);omega),
(by(try dsimp only at *);omega)⟩,
fun g13=>have h13:=dF g13;⟨⟨(by(try dsimp only at *);omega),
(by(try dsimp only at *);omega)⟩,
(default),trivial,
(by(try dsimp only at *);(have:=fall_len;have q:=fall_at (k:=x10) (by omega);simp only[Int.toNat_natCast]at *;first|omega|exact decide_eq_false (by omega))),trivial⟩,
fun g15=>have h15:=dT g15;⟨(default),trivial,
(by(try dsimp only at *);(have:=fall_len;have q:=fall_at (k:=x10) (by omega);simp only[Int.toNat_natCast]at *;first|omega|exact decide_eq_false (by omega))),trivial⟩⟩,
fun x17=>fun h18=>⟨⟨(by(try dsimp only at *);omega),
(by(try dsimp only at *);omega)⟩,
(x10+(1:Nat)),
(by(try dsimp only at *);(have:=fall_len;omega)),
(by(try dsimp only at *);(have:=fall_len;omega)),
⟨(by(try dsimp only at *);omega),rfl,rfl,rfl,rfl,trivial⟩,trivial⟩⟩,
fun g20=>have h20:=dF g20;⟨rfl,trivial⟩⟩⟩⟩)
theorem code_good:Good Tryz.prog 96 codeC/\FnOk Tryz.prog 96:=good_of tok conN0 (fn:=Tryz.f96) rfl (by decide+kernel) (fun _=>rfl) code_keeps
structure IncX where
 l:List Int
 lo:Int
 hi:Int
structure IncOk (x:IncX):Prop where
 inc:x.l.Pairwise (· <·)
 rng:∀ n∈x.l,x.lo<=n/\n<=x.hi
 len:x.l.length<=4096
theorem IncOk.at {x:IncX} (h:IncOk x) {k:Nat} (hk:k<x.l.length):x.lo<=x.l.getD k default/\x.l.getD k default<=x.hi:=by
 refine h.rng _ ?_
 rw[List.getD_eq_getElem?_getD,List.getElem?_eq_getElem hk];exact List.getElem_mem _
theorem IncOk.prev {x:IncX} (h:IncOk x) {k:Nat} (hk:k<x.l.length) (h0:0<k):x.l.getD (k-1) default<x.l.getD k default:=by
 have:=List.pairwise_iff_getElem.1 h.inc (k-1) k (by omega) hk (by omega)
 rwa [List.getD_eq_getElem?_getD,List.getElem?_eq_getElem (by omega),List.getD_eq_getElem?_getD,List.getElem?_eq_getElem hk]
def incC:CT where
 X:=IncX
 pre:=IncOk
 args:=fun x=>[.sl 100000 0 x.l.length,.i .i64 x.lo,.i .i64 x.hi]
 g0:=fun x=>[(100000,.rows .bor k1 x.l.length (encL encI x.l))]
 res:=fun _=>.bt true
 g1:=fun _=>[]
def incI (x:IncX) (id:Nat):Option Inv:=match id with
 |0=>some { X:=Nat,ok:=fun k=>k<=x.l.length,fr:=fun k=>[(11,.i .i64 k)],hp:=fun _=>[],me:=fun k=>x.l.length-k,inn:=fun _ id=>match id with|100036=>some (cutT 36 false)|_=>none }
 |_=>none
theorem subK (j:Nat):0+((j:Int)-1).toNat=j-1:=by omega
set_option maxRecDepth 100000 in
theorem incI_keeps:Keeps cfgN0 Tryz.f88 incC incI:=Eq.mp (show((∀ x1:IncX,((IncOk x1)->(∃ x3:Nat,(((x3<=x1.l.length)/\(((0=(x3:Int))/\(((x1.l.length:Int)=(x1.l.length:Int))/\((0=0/\x1.l.length=x1.l.length)/\((0=0/\x1.l.length=x1.l.length)/\(x1.lo=x1.lo/\(x1.hi=x1.hi/\True))))))/\(((RLe x1.l.length x1.l.length)/\(RI x1.l.length x1.l x1.l))/\True)))/\(∀ x4:Nat,((x4<=x1.l.length)->(((decide ((x4:Int)<(x1.l.length:Int))=true)->((((0:Int)<=(x4:Int))/\((x4:Int)<(x1.l.length:Int)))/\((0+Int.toNat (x4:Int)<x1.l.length)/\((((decide (x1.l.getD (0+Int.toNat (x4:Int)) default<x1.lo)=false)->(((decide (x1.hi<x1.l.getD (0+Int.toNat (x4:Int)) default)=false)->(((decide (0<(x4:Int))=true)->((((-9223372036854775808:Int)<=(x4:Int)-1)/\((x4:Int)-1<=(9223372036854775807:Int)))/\((((0:Int)<=(x4:Int)-1)/\((x4:Int)-1<(x1.l.length:Int)))/\((0+Int.toNat ((x4:Int)-1)<x1.l.length)/\(∃ x10:Unit,(True/\((decide (x1.l.getD (0+Int.toNat (x4:Int)) default<=x1.l.getD (0+Int.toNat ((x4:Int)-1)) default)=false)/\True)))))))/\((decide (0<(x4:Int))=false)->(∃ x12:Unit,(True/\(false=false/\True))))))/\((decide (x1.hi<x1.l.getD (0+Int.toNat (x4:Int)) default)=true)->(∃ x14:Unit,(True/\(true=false/\True))))))/\((decide (x1.l.getD (0+Int.toNat (x4:Int)) default<x1.lo)=true)->(∃ x16:Unit,(True/\(true=false/\True)))))/\(∀ x17:Unit,(True->((((-9223372036854775808:Int)<=(x4:Int)+1)/\((x4:Int)+1<=(9223372036854775807:Int)))/\(∃ x19:Nat,((x1.l.length-x19<x1.l.length-x4)/\((x19<=x1.l.length)/\((((x4:Int)+1=(x19:Int))/\(((x1.l.length:Int)=(x1.l.length:Int))/\((0=0/\x1.l.length=x1.l.length)/\((0=0/\x1.l.length=x1.l.length)/\(x1.lo=x1.lo/\(x1.hi=x1.hi/\True))))))/\(((RLe x1.l.length x1.l.length)/\(RI x1.l.length x1.l x1.l))/\True))))))))))))/\((decide ((x4:Int)<(x1.l.length:Int))=false)->(true=true/\True))))))))))=(Keeps cfgN0 Tryz.f88 incC incI) by kernel_rfl) (fun x1=>fun h2=>⟨((0:Nat)),
⟨(by(try dsimp only at *);omega),
⟨(by(try dsimp only at *);omega),rfl,
⟨rfl,rfl⟩,
⟨rfl,rfl⟩,rfl,rfl,trivial⟩,
⟨rl,rr⟩,trivial⟩,
fun x4=>fun h5=>⟨fun g6=>have h6:=dT g6;⟨⟨(by(try dsimp only at *);omega),
(by(try dsimp only at *);omega)⟩,
(by(try dsimp only at *);omega),
⟨fun g7=>have h7:=dF g7;⟨fun g8=>have h8:=dF g8;⟨fun g9=>have h9:=dT g9;⟨⟨(by(try dsimp only at *);omega),
(by(try dsimp only at *);(have:=h2.len;omega))⟩,
⟨(by(try dsimp only at *);omega),
(by(try dsimp only at *);omega)⟩,
(by(try dsimp only at *);omega),
(default),trivial,
(by(try dsimp only at *);(have:=h2.len;have q:=h2.prev (k:=x4) (by omega) (by omega);simp only[nat0,subK]at *;first|omega|exact decide_eq_false (by omega))),trivial⟩,
fun g11=>have h11:=dF g11;⟨(default),trivial,rfl,trivial⟩⟩,
fun g13=>have h13:=dT g13;⟨(default),trivial,
(by(try dsimp only at *);(have:=h2.len;have q:=h2.at (k:=x4) (by omega);simp only[nat0,subK]at *;first|omega|exact decide_eq_false (by omega))),trivial⟩⟩,
fun g15=>have h15:=dT g15;⟨(default),trivial,
(by(try dsimp only at *);(have:=h2.len;have q:=h2.at (k:=x4) (by omega);simp only[nat0,subK]at *;first|omega|exact decide_eq_false (by omega))),trivial⟩⟩,
fun x17=>fun h18=>⟨⟨(by(try dsimp only at *);omega),
(by(try dsimp only at *);(have:=h2.len;omega))⟩,
(x4+(1:Nat)),
(by(try dsimp only at *);omega),
(by(try dsimp only at *);omega),
⟨(by(try dsimp only at *);omega),rfl,
⟨rfl,rfl⟩,
⟨rfl,rfl⟩,rfl,rfl,trivial⟩,
⟨rl,rr⟩,trivial⟩⟩,
fun g20=>have h20:=dF g20;⟨rfl,trivial⟩⟩⟩)
theorem incI_good:Good Tryz.prog 88 incC/\FnOk Tryz.prog 88:=good_of tok conN0 (fn:=Tryz.f88) rfl (by decide+kernel) (fun _=>rfl) incI_keeps
set_option maxRecDepth 100000 in
theorem incL_keeps:Keeps cfgN0 Tryz.f70 incC incI:=Eq.mp (show((∀ x1:IncX,((IncOk x1)->(∃ x3:Nat,(((x3<=x1.l.length)/\(((0=(x3:Int))/\(((x1.l.length:Int)=(x1.l.length:Int))/\((0=0/\x1.l.length=x1.l.length)/\((0=0/\x1.l.length=x1.l.length)/\(x1.lo=x1.lo/\(x1.hi=x1.hi/\True))))))/\(((RLe x1.l.length x1.l.length)/\(RI x1.l.length x1.l x1.l))/\True)))/\(∀ x4:Nat,((x4<=x1.l.length)->(((decide ((x4:Int)<(x1.l.length:Int))=true)->((((0:Int)<=(x4:Int))/\((x4:Int)<(x1.l.length:Int)))/\((0+Int.toNat (x4:Int)<x1.l.length)/\((((decide (x1.l.getD (0+Int.toNat (x4:Int)) default<x1.lo)=false)->(((decide (x1.hi<x1.l.getD (0+Int.toNat (x4:Int)) default)=false)->(((decide (0<(x4:Int))=true)->((((-9223372036854775808:Int)<=(x4:Int)-1)/\((x4:Int)-1<=(9223372036854775807:Int)))/\((((0:Int)<=(x4:Int)-1)/\((x4:Int)-1<(x1.l.length:Int)))/\((0+Int.toNat ((x4:Int)-1)<x1.l.length)/\(∃ x10:Unit,(True/\((decide (x1.l.getD (0+Int.toNat (x4:Int)) default<=x1.l.getD (0+Int.toNat ((x4:Int)-1)) default)=false)/\True)))))))/\((decide (0<(x4:Int))=false)->(∃ x12:Unit,(True/\(false=false/\True))))))/\((decide (x1.hi<x1.l.getD (0+Int.toNat (x4:Int)) default)=true)->(∃ x14:Unit,(True/\(true=false/\True))))))/\((decide (x1.l.getD (0+Int.toNat (x4:Int)) default<x1.lo)=true)->(∃ x16:Unit,(True/\(true=false/\True)))))/\(∀ x17:Unit,(True->((((-9223372036854775808:Int)<=(x4:Int)+1)/\((x4:Int)+1<=(9223372036854775807:Int)))/\(∃ x19:Nat,((x1.l.length-x19<x1.l.length-x4)/\((x19<=x1.l.length)/\((((x4:Int)+1=(x19:Int))/\(((x1.l.length:Int)=(x1.l.length:Int))/\((0=0/\x1.l.length=x1.l.length)/\((0=0/\x1.l.length=x1.l.length)/\(x1.lo=x1.lo/\(x1.hi=x1.hi/\True))))))/\(((RLe x1.l.length x1.l.length)/\(RI x1.l.length x1.l x1.l))/\True))))))))))))/\((decide ((x4:Int)<(x1.l.length:Int))=false)->(true=true/\True))))))))))=(Keeps cfgN0 Tryz.f70 incC incI) by kernel_rfl) (fun x1=>fun h2=>⟨((0:Nat)),
⟨(by(try dsimp only at *);omega),
⟨(by(try dsimp only at *);omega),rfl,
⟨rfl,rfl⟩,
⟨rfl,rfl⟩,rfl,rfl,trivial⟩,
⟨rl,rr⟩,trivial⟩,
fun x4=>fun h5=>⟨fun g6=>have h6:=dT g6;⟨⟨(by(try dsimp only at *);omega),
(by(try dsimp only at *);omega)⟩,
(by(try dsimp only at *);omega),
⟨fun g7=>have h7:=dF g7;⟨fun g8=>have h8:=dF g8;⟨fun g9=>have h9:=dT g9;⟨⟨(by(try dsimp only at *);omega),
(by(try dsimp only at *);(have:=h2.len;omega))⟩,
⟨(by(try dsimp only at *);omega),
(by(try dsimp only at *);omega)⟩,
(by(try dsimp only at *);omega),
(default),trivial,
(by(try dsimp only at *);(have:=h2.len;have q:=h2.prev (k:=x4) (by omega) (by omega);simp only[nat0,subK]at *;first|omega|exact decide_eq_false (by omega))),trivial⟩,
fun g11=>have h11:=dF g11;⟨(default),trivial,rfl,trivial⟩⟩,
fun g13=>have h13:=dT g13;⟨(default),trivial,
(by(try dsimp only at *);(have:=h2.len;have q:=h2.at (k:=x4) (by omega);simp only[nat0,subK]at *;first|omega|exact decide_eq_false (by omega))),trivial⟩⟩,
fun g15=>have h15:=dT g15;⟨(default),trivial,
(by(try dsimp only at *);(have:=h2.len;have q:=h2.at (k:=x4) (by omega);simp only[nat0,subK]at *;first|omega|exact decide_eq_false (by omega))),trivial⟩⟩,
fun x17=>fun h18=>⟨⟨(by(try dsimp only at *);omega),
(by(try dsimp only at *);(have:=h2.len;omega))⟩,
(x4+(1:Nat)),
(by(try dsimp only at *);omega),
(by(try dsimp only at *);omega),
⟨(by(try dsimp only at *);omega),rfl,
⟨rfl,rfl⟩,
⟨rfl,rfl⟩,rfl,rfl,trivial⟩,
⟨rl,rr⟩,trivial⟩⟩,
fun g20=>have h20:=dF g20;⟨rfl,trivial⟩⟩⟩)
theorem incL_good:Good Tryz.prog 70 incC/\FnOk Tryz.prog 70:=good_of tok conN0 (fn:=Tryz.f70) rfl (by decide+kernel) (fun _=>rfl) incL_keeps
structure VRx where
 u:Int
 c:ByteArray
 l:List Int
structure VRok (x:VRx):Prop where
 u:1<=x.u/\x.u<=5
 c:x.c=fallS
 l:NOk x.l
 len:x.l.length<=4096
theorem NOk.pos {l:List Int} (h:NOk l):0<l.length:=by cases l with|nil=>exact absurd rfl h.ne|cons=>simp
theorem NOk.incOk {l:List Int} (h:NOk l) (hl:l.length<=4096):IncOk ⟨l,0,4095⟩:=⟨h.inc,h.rng,hl⟩
def vrB:CT where
 X:=VRx
 pre:=VRok
 args:=fun x=>[.i .i64 x.u,.s x.c,.sl 100000 0 x.l.length,.i .i64 0,.i .i64 0]
 g0:=fun x=>[(100000,.rows .bor k1 x.l.length (encL encI x.l))]
 res:=fun _=>.b true
 g1:=fun _=>[]
def vrC:CT:=yesC vrB
def cfgVR:Cfg:=⟨T,[],[(96,.one codeC),(88,.one incC)],noInv,20,{}⟩
theorem conVR:ConOk Tryz.prog cfgVR:=ConL.ok (.cons (ConL.one code_good) (.cons (ConL.one incI_good) .nil))
set_option maxRecDepth 100000 in
theorem vr_keeps:Keeps cfgVR Tryz.f73 vrB noIv:=Eq.mp (show((∀ x1:VRx,((VRok x1)->(((decide ((1:Int)<=x1.u)=true)->(((decide (x1.u<=(5:Int))=true)->(∃ x5:Unit,(True/\((x1.c=fallS/\True)/\(True/\(((decide (0<(x1.l.length:Int))=true)->(∃ x7:IncX,((IncOk x7)/\(((0=0/\x1.l.length=x7.l.length)/\(0=x7.lo/\(4095=x7.hi/\True)))/\((((RLe x7.l.length x1.l.length)/\(RI x7.l.length x1.l x7.l))/\True)/\(((decide ((0:Int)<=(0:Int))=true)->(((decide ((0:Int)<9)=true)->(((decide ((0:Int)<=(0:Int))=true)->((decide ((0:Int)<=(1099511627776:Int))=true)/\True))/\((decide ((0:Int)<=(0:Int))=false)->(false=true/\True))))/\((decide ((0:Int)<9)=false)->(false=true/\True))))/\((decide ((0:Int)<=(0:Int))=false)->(false=true/\True))))))))/\((decide (0<(x1.l.length:Int))=false)->(false=true/\True))))))))/\((decide (x1.u<=(5:Int))=false)->(false=true/\True))))/\((decide ((1:Int)<=x1.u)=false)->(false=true/\True))))))=(Keeps cfgVR Tryz.f73 vrB noIv) by kernel_rfl) (fun x1=>fun h2=>⟨fun g3=>have h3:=dT g3;⟨fun g4=>have h4:=dT g4;⟨(default),trivial,
⟨(by(try dsimp only at *);exact h2.c),trivial⟩,trivial,
fun g6=>have h6:=dT g6;⟨({ l:=VRx.l x1,lo:=(0:Int),hi:=(4095:Int):IncX }),
(by(try dsimp only at *);exact h2.l.incOk h2.len),
⟨⟨rfl,rfl⟩,rfl,rfl,trivial⟩,
⟨⟨rl,rr⟩,trivial⟩,
fun g8=>have h8:=dT g8;⟨fun g9=>have h9:=dT g9;⟨fun g10=>have h10:=dT g10;⟨(by(try dsimp only at *);assumption),trivial⟩,
fun g11=>have h11:=dF g11;⟨(by(try dsimp only at *);omega),trivial⟩⟩,
fun g12=>have h12:=dF g12;⟨(by(try dsimp only at *);omega),trivial⟩⟩,
fun g13=>have h13:=dF g13;⟨(by(try dsimp only at *);omega),trivial⟩⟩,
fun g14=>have h14:=dF g14;⟨(by(try dsimp only at *);(have:=h2.u;have:=h2.l.pos;omega)),trivial⟩⟩,
fun g15=>have h15:=dF g15;⟨(by(try dsimp only at *);(have:=h2.u;have:=h2.l.pos;omega)),trivial⟩⟩,
fun g16=>have h16:=dF g16;⟨(by(try dsimp only at *);(have:=h2.u;have:=h2.l.pos;omega)),trivial⟩⟩)
theorem vr_good:Good Tryz.prog 73 vrC/\FnOk Tryz.prog 73:=good_yes (good_of tok conVR (fn:=Tryz.f73) rfl (by decide+kernel) (fun _=>rfl) vr_keeps) (fun _=>rfl) (fun _=>rfl)
def crV (c:CR) (a:Nat):SV:=.agg [.i .i64 c.call,.i .i64 c.inc,.i .i64 c.urg,.s c.code,.sl a 0 c.nodes.length,.i .i64 0,.i .i64 0,.b c.closed]
def crH (c:CR) (m:Md) (a:Nat):List (Nat × Blk):=[(a,.rows m k1 c.nodes.length (encL encI c.nodes))]
def icL (x:Ic) (a:Nat):List SV:=[.i .i64 x.id,.i .i64 x.urg,.s x.code,.sl a 0 x.nodes.length,.i .i64 0,.i .i64 0,.sl (a+1) 0 x.calls.length,.sl (a+2) 0 x.units.length,.i .i64 x.merged,.b x.closed]
def icH (x:Ic) (m:Md) (a:Nat):List (Nat × Blk):=[(a,.rows m k1 x.nodes.length (encL encI x.nodes)),(a+1,.rows m k1 x.calls.length (encL encI x.calls)),(a+2,.rows m k1 x.units.length (encL encI x.units))]
def vcB:CT where
 X:=CR
 pre:=COk
 args:=fun c=>[crV c 100000]
 g0:=fun c=>crH c .bor 100000
 res:=fun _=>.b true
 g1:=fun _=>[]
def vcC:CT:=yesC vcB
def cfgVC:Cfg:=⟨T,[],[(46,.one numC),(73,.one vrC)],noInv,20,{}⟩
theorem conVC:ConOk Tryz.prog cfgVC:=ConL.ok (.cons (ConL.one num_good) (.cons (ConL.one vr_good) .nil))
set_option maxRecDepth 100000 in
theorem vc_keeps:Keeps cfgVC Tryz.f47 vcB noIv:=Eq.mp (show((∀ x1:CR,((COk x1)->(∃ x3:Int,((((1:Int)<=x3)/\(x3<=(1099511627776:Int)))/\((x1.call=x3/\True)/\(True/\(((decide ((0:Int)<=x1.inc)=true)->(((decide (x1.inc<=(1099511627776:Int))=true)->(∃ x6:VRx,((VRok x6)/\((x1.urg=x6.u/\(x1.code=x6.c/\((0=0/\x1.nodes.length=x6.l.length)/\(((0:Int)=0)/\(((0:Int)=0)/\True)))))/\((((RLe x6.l.length x1.nodes.length)/\(RI x6.l.length x1.nodes x6.l))/\True)/\(true=true/\True))))))/\((decide (x1.inc<=(1099511627776:Int))=false)->(false=true/\True))))/\((decide ((0:Int)<=x1.inc)=false)->(false=true/\True))))))))))=(Keeps cfgVC Tryz.f47 vcB noIv) by kernel_rfl) (fun x1=>fun h2=>⟨(CR.call x1),
⟨(by(try dsimp only at *);(have:=h2.inc;have:=h2.call;omega)),
(by(try dsimp only at *);(have:=h2.inc;have:=h2.call;omega))⟩,
⟨rfl,trivial⟩,trivial,
fun g4=>have h4:=dT g4;⟨fun g5=>have h5:=dT g5;⟨({ u:=CR.urg x1,c:=CR.code x1,l:=CR.nodes x1:VRx }),
(by(try dsimp only at *);exact⟨h2.urg,h2.code,h2.nodes,h2.len⟩),
⟨rfl,rfl,
⟨rfl,rfl⟩,rfl,rfl,trivial⟩,
⟨⟨rl,rr⟩,trivial⟩,rfl,trivial⟩,
fun g7=>have h7:=dF g7;⟨(by(try dsimp only at *);(have:=h2.inc;have:=h2.call;omega)),trivial⟩⟩,
fun g8=>have h8:=dF g8;⟨(by(try dsimp only at *);(have:=h2.inc;have:=h2.call;omega)),trivial⟩⟩)
theorem vc_good:Good Tryz.prog 47 vcC/\FnOk Tryz.prog 47:=good_yes (good_of tok conVC (fn:=Tryz.f47) rfl (by decide+kernel) (fun _=>rfl) vc_keeps) (fun _=>rfl) (fun _=>rfl)
def viC:CT where
 X:=Ic
 pre:=fun x=>IOk x/\x.merged=0
 args:=fun x=>[.agg (icL x 100000)]
 g0:=fun x=>icH x .bor 100000
 res:=fun _=>.bt true
 g1:=fun _=>[]
def viI (_:Ic) (id:Nat):Option Inv:=match id with
 |100020=>some (cutT 20 false)
 |100036=>some (cutT 36 false)
 |100039=>some (cutT 39 true)
 |_=>none
def cfgVI:Cfg:=⟨T,[],[(46,.one numC),(73,.one vrC),(70,.one incC),(88,.one incC)],noInv,20,{}⟩
theorem conVI:ConOk Tryz.prog cfgVI:=ConL.ok (.cons (ConL.one num_good) (.cons (ConL.one vr_good) (.cons (ConL.one incL_good) (.cons (ConL.one incI_good) .nil))))
set_option maxRecDepth 100000 in
theorem vi_keeps:Keeps cfgVI Tryz.f61 viC viI:=Eq.mp (show((∀ x1:Ic,((IOk x1/\x1.merged=(0:Int))->((∃ x3:Int,((((1:Int)<=x3)/\(x3<=(1099511627776:Int)))/\((x1.id=x3/\True)/\(True/\(∃ x4:VRx,((VRok x4)/\((x1.urg=x4.u/\(x1.code=x4.c/\((0=0/\x1.nodes.length=x4.l.length)/\(((0:Int)=0)/\(((0:Int)=0)/\True)))))/\((((RLe x4.l.length x1.nodes.length)/\(RI x4.l.length x1.nodes x4.l))/\True)/\(∃ x5:Unit,(True/\(false=false/\True)))))))))))/\(∀ x6:Unit,(True->((((decide (1000<(x1.calls.length:Int))=false)->(∃ x9:IncX,((IncOk x9)/\(((0=0/\x1.calls.length=x9.l.length)/\(1=x9.lo/\(1099511627776=x9.hi/\True)))/\((((RLe x9.l.length x1.calls.length)/\(RI x9.l.length x1.calls x9.l))/\True)/\(∃ x10:IncX,((IncOk x10)/\(((0=0/\x1.units.length=x10.l.length)/\(0=x10.lo/\(255=x10.hi/\True)))/\((((RLe x10.l.length x1.units.length)/\(RI x10.l.length x1.units x10.l))/\True)/\(∃ x11:Unit,(True/\(false=false/\True))))))))))))/\((decide (1000<(x1.calls.length:Int))=true)->(∃ x13:Unit,(True/\(true=false/\True)))))/\(∀ x14:Unit,(True->((∃ x16:Unit,(True/\((decide (x1.merged=(0:Int))=true)/\True)))/\(∀ x17:Unit,(True->(true=true/\True)))))))))))))=(Keeps cfgVI Tryz.f61 viC viI) by kernel_rfl) (fun x1=>fun h2=>⟨⟨(Ic.id x1),
⟨(by(try dsimp only at *);(have:=h2.1.clen;have:=h2.1.id;omega)),
(by(try dsimp only at *);(have:=h2.1.clen;have:=h2.1.id;omega))⟩,
⟨rfl,trivial⟩,trivial,
({ u:=Ic.urg x1,c:=Ic.code x1,l:=Ic.nodes x1:VRx }),
(by(try dsimp only at *);exact⟨h2.1.urg,h2.1.code,h2.1.nodes,h2.1.len⟩),
⟨rfl,rfl,
⟨rfl,rfl⟩,rfl,rfl,trivial⟩,
⟨⟨rl,rr⟩,trivial⟩,
(default),trivial,rfl,trivial⟩,
fun x6=>fun h7=>⟨⟨fun g8=>have h8:=dF g8;⟨({ l:=Ic.calls x1,lo:=(1:Int),hi:=(1099511627776:Int):IncX }),
(by(try dsimp only at *);exact⟨h2.1.calls,h2.1.callr,Nat.le_trans h2.1.clen (by omega)⟩),
⟨⟨rfl,rfl⟩,rfl,rfl,trivial⟩,
⟨⟨rl,rr⟩,trivial⟩,
({ l:=Ic.units x1,lo:=(0:Int),hi:=(255:Int):IncX }),
(by(try dsimp only at *);exact⟨h2.1.units,h2.1.unitr,Nat.le_trans h2.1.ulen (by omega)⟩),
⟨⟨rfl,rfl⟩,rfl,rfl,trivial⟩,
⟨⟨rl,rr⟩,trivial⟩,
(default),trivial,rfl,trivial⟩,
fun g12=>have h12:=dT g12;⟨(default),trivial,
(by(try dsimp only at *);(have:=h2.1.clen;have:=h2.1.id;omega)),trivial⟩⟩,
fun x14=>fun h15=>⟨⟨(default),trivial,
(by(try dsimp only at *);grind),trivial⟩,
fun x17=>fun h18=>⟨rfl,trivial⟩⟩⟩⟩)
theorem vi_good:Good Tryz.prog 61 viC/\FnOk Tryz.prog 61:=good_of tok conVI (fn:=Tryz.f61) rfl (by decide+kernel) (fun _=>rfl) vi_keeps
end Go.Sym