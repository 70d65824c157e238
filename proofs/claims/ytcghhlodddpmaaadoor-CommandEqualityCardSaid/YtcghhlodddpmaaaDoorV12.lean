import Derived.Test.YtcghhlodddpmaaaDoorFG
import Derived.Test.YtcghhlodddpmaaaDoorXD
namespace Go.Sym
set_option linter.unusedVariables false
set_option linter.unusedSimpArgs false
open Go.Proofs
set_option maxRecDepth 100000
set_option maxHeartbeats 4000000
def c5:Cmd:={ kind:=12,tick:=5 }
def txt5:ByteArray:=⟨#[99,108,111,99,107,32,53]⟩
theorem fmt5:fmtF c5=txt5:=by decide+kernel
theorem good_at {P:Program} [Glob] {f:Nat} {ct:CT} (h:Good P f ct/\FnOk P f) (x:ct.X) (hp:ct.pre x) {r:SV} (hr:ct.res x=r):Good P f ⟨Unit,fun _=>True,fun _=>ct.args x,fun _=>ct.g0 x,fun _=>r,fun _=>ct.g1 x⟩/\FnOk P f:=by
 subst hr
 exact⟨fun _ _=>h.1 x hp,h.2⟩
def fmC5:CT:=⟨Unit,fun _=>True,fun _=>[.agg (cl c5 100001)],fun _=>[nB 100001 c5],fun _=>.s txt5,fun _=>[]⟩
theorem fm_good:Good Tryd.prog 16 fmC5/\FnOk Tryd.prog 16:=good_at fg_good c5 ⟨Nat.zero_le _,Nat.zero_le _⟩ (congrArg SV.s fmt5)
theorem dec5:decC [24,10]=c5/\decE [24,10]=0:=by decide+kernel
theorem byR5:byR c5=[24,10]:=by decide+kernel
def cfgK:Cfg:=⟨T,[],[(18,.one dcC),(14,.one enC),(16,.one fmC5)],noInv,60,{}⟩
theorem conK:ConOk Tryd.prog cfgK:=ConL.ok (.cons (ConL.one dc_good) (.cons (ConL.one en_good) (.cons (ConL.one fm_good) .nil)))
def wkC:CT where
 X:=Unit
 pre:=fun _=>True
 args:=fun _=>[]
 g0:=fun _=>[]
 res:=fun _=>.b true
 g1:=fun _=>[]
theorem inB5:inB [24,10]:=by
 refine⟨fun b hb=>?_,by decide⟩
 simp at hb
 omega
theorem rows5:RowsEq kB [(24:Int),10].length (litRows [[D.i 24],[D.i 10]]) (encL encI [24,10]):=by
 refine⟨fun r hr=>?_⟩
 have hr:r<2:=hr
 rcases(show r=0∨r=1 by omega)with rfl|rfl
 ·exact⟨rfl,trivial⟩
 ·exact⟨rfl,trivial⟩
theorem wk_by {p:Prop} (h:((strOf (byR c5).length fun r=>encL encI (byR c5) (0+r)).toList==(ByteArray.mk #[24,10]).toList)=false):p:=by
 rw[seq_eq,byR5,decide_eq_true (by decide+kernel)]at h
 cases h
theorem wk_txt {p:Prop} (h:(txt5.toList==(ByteArray.mk #[99,108,111,99,107,32,53]).toList)=false):p:=by
 rw[seq_eq,decide_eq_true (by rfl)]at h
 cases h
theorem wk_k {p:Prop} (h:¬ (decC [24,10]).kind=12):p:=absurd (by rw[dec5.1];rfl) h
theorem wk_t {p:Prop} (h:¬ (decC [24,10]).tick=5):p:=absurd (by rw[dec5.1];rfl) h
set_option maxRecDepth 100000 in
theorem wk_keeps:Keeps cfgK Tryd.f10 wkC noIv:=Eq.mp (show((∀ x1:Unit,(True->(((True/\True)/\((True/\True)/\True))/\(∃ x3:List Int,((inB x3)/\(((0=0/\((2:Nat)=x3.length))/\True)/\((((RLe x3.length 2)/\(RowsEq (.int IntKind.u8::[]) x3.length (litRows ((D.i 24::@List.nil D)::(D.i 10::@List.nil D)::@List.nil (List D))) (encL encI x3)))/\True)/\(∃ x4:Cmd,((x4.nodes.length<=(1000000:Nat))/\(((12=x4.kind/\(0=x4.call/\(0=x4.inc/\(0=x4.oth/\(0=x4.urg/\(ByteArray.empty=x4.code/\((True/\(0=0/\(x4.nodes.length=(0:Nat))))/\(0=x4.dist/\(0=x4.cen/\(0=x4.ep/\(5=x4.tick/\(0=x4.su/\(0=x4.sq/\(0=x4.ss/\(0=x4.sn/\(0=x4.se/\(0=x4.edge/\(0=x4.time/\(0=x4.node/\True)))))))))))))))))))/\True)/\(((x4.nodes.length=(0:Nat))/\True)/\(((0:Nat)+(byR x4).length<=(byR x4).length)/\((((ByteArray.toList (ByteArray.mk (List.toArray (List.map (fun(r:Nat)=>UInt8.ofNat (Int.toNat ((byR x4).getD ((0:Nat)+r) default))) (List.range (byR x4).length))))==ByteArray.toList (ByteArray.mk (List.toArray ((24:UInt8)::(10:UInt8)::@List.nil UInt8))))=true)->(∃ x6:Unit,(True/\(((((12:Int)=Cmd.kind c5)/\(((0:Int)=Cmd.call c5)/\(((0:Int)=Cmd.inc c5)/\(((0:Int)=Cmd.oth c5)/\(((0:Int)=Cmd.urg c5)/\((ByteArray.empty=Cmd.code c5)/\((True/\(0=0/\((Cmd.nodes c5).length=(0:Nat))))/\(((0:Int)=Cmd.dist c5)/\(((0:Int)=Cmd.cen c5)/\(((0:Int)=Cmd.ep c5)/\(((5:Int)=Cmd.tick c5)/\(((0:Int)=Cmd.su c5)/\(((0:Int)=Cmd.sq c5)/\(((0:Int)=Cmd.ss c5)/\(((0:Int)=Cmd.sn c5)/\(((0:Int)=Cmd.se c5)/\(((0:Int)=Cmd.edge c5)/\(((0:Int)=Cmd.time c5)/\(((0:Int)=Cmd.node c5)/\True)))))))))))))))))))/\True)/\((((Cmd.nodes c5).length=(0:Nat))/\True)/\((((ByteArray.toList txt5==ByteArray.toList (ByteArray.mk (List.toArray ((99:UInt8)::(108:UInt8)::(111:UInt8)::(99:UInt8)::(107:UInt8)::(32:UInt8)::(53:UInt8)::@List.nil UInt8))))=true)->(((decide ((decC x3).kind=(12:Int))=true)->(((decide ((decC x3).tick=(5:Int))=true)->((decide (decE x3=0)=true)/\True))/\((decide ((decC x3).tick=(5:Int))=false)->(false=true/\True))))/\((decide ((decC x3).kind=(12:Int))=false)->(false=true/\True))))/\(((ByteArray.toList txt5==ByteArray.toList (ByteArray.mk (List.toArray ((99:UInt8)::(108:UInt8)::(111:UInt8)::(99:UInt8)::(107:UInt8)::(32:UInt8)::(53:UInt8)::@List.nil UInt8))))=false)->(false=true/\True))))))))/\(((ByteArray.toList (ByteArray.mk (List.toArray (List.map (fun(r:Nat)=>UInt8.ofNat (Int.toNat ((byR x4).getD ((0:Nat)+r) default))) (List.range (byR x4).length))))==ByteArray.toList (ByteArray.mk (List.toArray ((24:UInt8)::(10:UInt8)::@List.nil UInt8))))=false)->(false=true/\True))))))))))))))))=(Keeps cfgK Tryd.f10 wkC noIv) by kernel_rfl) (fun x1=>fun h2=>⟨⟨⟨trivial,trivial⟩,
⟨trivial,trivial⟩,trivial⟩,
((24:Int)::(10:Int)::@List.nil Int),
(by(try dsimp only at *);exact inB5),
⟨⟨rfl,
(by(try dsimp only at *);grind)⟩,trivial⟩,
⟨⟨⟨(by(try dsimp only at *);grind)⟩,
(by(try dsimp only at *);exact rows5)⟩,trivial⟩,
(c5),
(by(try dsimp only at *);exact Nat.zero_le _),
⟨⟨(by(try dsimp only at *);rfl),
(by(try dsimp only at *);rfl),
(by(try dsimp only at *);rfl),
(by(try dsimp only at *);rfl),
(by(try dsimp only at *);rfl),
(by(try dsimp only at *);rfl),
⟨trivial,rfl,
(by(try dsimp only at *);rfl)⟩,
(by(try dsimp only at *);rfl),
(by(try dsimp only at *);rfl),
(by(try dsimp only at *);rfl),
(by(try dsimp only at *);rfl),
(by(try dsimp only at *);rfl),
(by(try dsimp only at *);rfl),
(by(try dsimp only at *);rfl),
(by(try dsimp only at *);rfl),
(by(try dsimp only at *);rfl),
(by(try dsimp only at *);rfl),
(by(try dsimp only at *);rfl),
(by(try dsimp only at *);rfl),trivial⟩,trivial⟩,
⟨(by(try dsimp only at *);rfl),trivial⟩,
(by(try dsimp only at *);omega),
fun h5=>⟨(default),trivial,
⟨⟨(by(try dsimp only at *);rfl),
(by(try dsimp only at *);rfl),
(by(try dsimp only at *);rfl),
(by(try dsimp only at *);rfl),
(by(try dsimp only at *);rfl),
(by(try dsimp only at *);rfl),
⟨trivial,rfl,
(by(try dsimp only at *);rfl)⟩,
(by(try dsimp only at *);rfl),
(by(try dsimp only at *);rfl),
(by(try dsimp only at *);rfl),
(by(try dsimp only at *);rfl),
(by(try dsimp only at *);rfl),
(by(try dsimp only at *);rfl),
(by(try dsimp only at *);rfl),
(by(try dsimp only at *);rfl),
(by(try dsimp only at *);rfl),
(by(try dsimp only at *);rfl),
(by(try dsimp only at *);rfl),
(by(try dsimp only at *);rfl),trivial⟩,trivial⟩,
⟨(by(try dsimp only at *);rfl),trivial⟩,
fun h7=>⟨fun g8=>have h8:=dT g8;⟨fun g9=>have h9:=dT g9;⟨(by(try dsimp only at *);assumption),trivial⟩,
fun g10=>have h10:=dF g10;⟨(by(try dsimp only at *);exact wk_t ‹_›),trivial⟩⟩,
fun g11=>have h11:=dF g11;⟨(by(try dsimp only at *);exact wk_k ‹_›),trivial⟩⟩,
fun h12=>⟨(by(try dsimp only at *);exact wk_txt ‹_›),trivial⟩⟩,
fun h13=>⟨(by(try dsimp only at *);exact wk_by ‹_›),trivial⟩⟩)
theorem wk_good0:Good Tryd.prog 10 wkC/\FnOk Tryd.prog 10:=good_of tok conK (fn:=Tryd.f10) rfl (by decide+kernel) (fun _=>rfl) wk_keeps
end Go.Sym