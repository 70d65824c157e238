import Derived.Test.YtpnnecijeoipfaaGreatDoorO5
import Derived.Test.YtpnnecijeoipfaaGreatDoorXD
namespace Go.Sym
set_option linter.unusedVariables false
set_option linter.unusedSimpArgs false
open Go.Proofs
set_option maxRecDepth 100000
set_option maxHeartbeats 4000000
def leC:CT where
 X:=I2x
 pre:=fun _=>True
 args:=fun x=>[.i .i64 x.a,.i .i64 x.b]
 g0:=fun _=>[]
 res:=fun x=>.b (decide (x.a<x.b))
 g1:=fun _=>[]
set_option maxRecDepth 100000 in
theorem le_keeps:Keeps cfgJ1 Tryz.f122 leC noIv:=Eq.mp (show((∀ x1:I2x,(True->(∃ x3:Int,(True/\((x1.a=x3/\True)/\(True/\((false=true->(∃ x5:Int,(True/\((x1.b=x5/\True)/\(True/\((true=false->((decide (x1.a<x1.b)=decide (x1.a<x1.b))/\True))/\(true=true->((true=decide (x1.a<x1.b))/\True))))))))/\(false=false->((decide (x1.a<x1.b)=decide (x1.a<x1.b))/\True))))))))))=(Keeps cfgJ1 Tryz.f122 leC noIv) by kernel_rfl) (fun x1=>fun h2=>⟨(I2x.a x1),trivial,
⟨rfl,trivial⟩,trivial,
fun h4=>⟨(I2x.b x1),trivial,
⟨rfl,trivial⟩,trivial,
fun h6=>⟨rfl,trivial⟩,
fun h7=>⟨(by(try dsimp only at *);grind),trivial⟩⟩,
fun h8=>⟨rfl,trivial⟩⟩)
theorem le_good:Good Tryz.prog 122 leC/\FnOk Tryz.prog 122:=good_of tok conJ1 (fn:=Tryz.f122) rfl (by decide+kernel) (fun _=>rfl) le_keeps
structure UpOk (l:List Int):Prop where
 inc:l.Pairwise (· <·)
 len:l.length<=12
theorem UpOk.prev {l:List Int} (h:UpOk l) {k:Nat} (hk:k<l.length) (h0:0<k):l.getD (k-1) default<l.getD k default:=by
 have:=List.pairwise_iff_getElem.1 h.inc (k-1) k (by omega) hk (by omega)
 rwa [List.getD_eq_getElem?_getD,List.getElem?_eq_getElem (by omega),List.getD_eq_getElem?_getD,List.getElem?_eq_getElem hk]
def upInsC:CT where
 X:=List Int
 pre:=UpOk
 args:=fun l=>[.sl 100000 0 l.length,.i .i64 0,.i .i64 l.length]
 g0:=fun l=>[(100000,.rows .bor k1 l.length (encL encI l))]
 res:=fun _=>.tup []
 g1:=fun _=>[]
def upI (l:List Int) (id:Nat):Option Inv:=match id with
 | 0 => some { X := Nat, ok := fun i => 1 <= i /\ (i <= l.length ∨ i = 1), fr := fun i => [(6, .i .i64 i)], hp := fun _ => [], me := fun i => l.length - i,
               inn:=fun i id=>match id with
                |2=>some { X:=Unit,ok:=fun _=>True,fr:=fun _=>[(7,.i .i64 i)],hp:=fun _=>[],me:=fun _=>0,inn:=fun _ id=>match id with|100030=>some (cutT 30 false)|_=>none }
                |_=>none }
 |_=>none
def cfgUp:Cfg:=⟨T,[],[(122,.one leC)],noInv,10,{}⟩
theorem conUp:ConOk Tryz.prog cfgUp:=ConL.ok (.cons (ConL.one le_good) .nil)
set_option maxRecDepth 100000 in
theorem up_keeps:Keeps cfgUp Tryz.f116 upInsC upI:=Eq.mp (show((∀ x1:List Int,((UpOk x1)->((((-9223372036854775808:Int)<=(0:Int)+1)/\((0:Int)+1<=(9223372036854775807:Int)))/\(∃ x3:Nat,(((((1:Nat)<=x3)/\(x3<=x1.length∨x3=(1:Nat)))/\((((0:Int)+1=(x3:Int))/\(((0:Int)+1=0+1)/\(((0:Int)=0)/\((0=0/\x1.length=x1.length)/\(((0:Int)=0)/\(((x1.length:Int)=(x1.length:Int))/\True))))))/\(((RLe x1.length x1.length)/\(RI x1.length x1 x1))/\True)))/\(∀ x4:Nat,(((1:Nat)<=x4/\(x4<=x1.length∨x4=(1:Nat)))->(((decide ((x4:Int)<(x1.length:Int))=true)->(∃ x7:Unit,((True/\((((x4:Int)=(x4:Int))/\(((x4:Int)=(x4:Int))/\(((0:Int)+1=0+1)/\(((0:Int)=0)/\((0=0/\x1.length=x1.length)/\(((0:Int)=0)/\(((x1.length:Int)=(x1.length:Int))/\True)))))))/\(((RLe x1.length x1.length)/\(RI x1.length x1 x1))/\True)))/\(∀ x8:Unit,(True->((((decide (0<(x4:Int))=true)->((((0:Int)<=(x4:Int))/\((x4:Int)<(x1.length:Int)))/\((0+Int.toNat (x4:Int)<x1.length)/\((((-9223372036854775808:Int)<=(x4:Int)-1)/\((x4:Int)-1<=(9223372036854775807:Int)))/\((((0:Int)<=(x4:Int)-1)/\((x4:Int)-1<(x1.length:Int)))/\((0+Int.toNat ((x4:Int)-1)<x1.length)/\(∃ x11:I2x,(True/\(((x1.getD (0+Int.toNat (x4:Int)) default=x11.a)/\((x1.getD (0+Int.toNat ((x4:Int)-1)) default=x11.b)/\True))/\(True/\(∃ x12:Unit,(True/\((decide (x11.a<x11.b)=false)/\True)))))))))))))/\((decide (0<(x4:Int))=false)->(∃ x14:Unit,(True/\(false=false/\True)))))/\(∀ x15:Unit,(True->((((-9223372036854775808:Int)<=(x4:Int)+1)/\((x4:Int)+1<=(9223372036854775807:Int)))/\(∃ x17:Nat,((x1.length-x17<x1.length-x4)/\((((1:Nat)<=x17)/\(x17<=x1.length∨x17=(1:Nat)))/\((((x4:Int)+1=(x17:Int))/\(((0:Int)+1=0+1)/\(((0:Int)=0)/\((0=0/\x1.length=x1.length)/\(((0:Int)=0)/\(((x1.length:Int)=(x1.length:Int))/\True))))))/\(((RLe x1.length x1.length)/\(RI x1.length x1 x1))/\True))))))))))))))/\((decide ((x4:Int)<(x1.length:Int))=false)->(True/\True)))))))))))=(Keeps cfgUp Tryz.f116 upInsC upI) by kernel_rfl) (fun x1=>fun h2=>⟨⟨(by omega),
(by omega)⟩,
((1:Nat)),
⟨⟨(by(try dsimp only at *);omega),
(by(try dsimp only at *);omega)⟩,
⟨(by(try dsimp only at *);omega),rfl,rfl,
⟨rfl,rfl⟩,rfl,rfl,trivial⟩,
⟨rl,rr⟩,trivial⟩,
fun x4=>fun h5=>⟨fun g6=>have h6:=dT g6;⟨(default),
⟨trivial,
⟨rfl,rfl,rfl,rfl,
⟨rfl,rfl⟩,rfl,rfl,trivial⟩,
⟨rl,rr⟩,trivial⟩,
fun x8=>fun h9=>⟨⟨fun g10=>have h10:=dT g10;⟨⟨(by(try dsimp only at *);omega),
(by(try dsimp only at *);omega)⟩,
(by(try dsimp only at *);omega),
⟨(by(try dsimp only at *);omega),
(by(try dsimp only at *);(have:=h2.len;omega))⟩,
⟨(by(try dsimp only at *);omega),
(by(try dsimp only at *);omega)⟩,
(by(try dsimp only at *);omega),
({ a:=List.getD x1 ((0:Nat)+Int.toNat (↑x4:Int)) default,b:=List.getD x1 ((0:Nat)+Int.toNat ((↑x4:Int)-(1:Int))) default:I2x }),trivial,
⟨rfl,rfl,trivial⟩,trivial,
(default),trivial,
(by(try dsimp only at *);(have:=h2.len;have q:=h2.prev (k:=x4) (by omega) (by omega);simp only[nat0,subK]at *;exact decide_eq_false (by omega))),trivial⟩,
fun g13=>have h13:=dF g13;⟨(default),trivial,rfl,trivial⟩⟩,
fun x15=>fun h16=>⟨⟨(by(try dsimp only at *);omega),
(by(try dsimp only at *);(have:=h2.len;omega))⟩,
(x4+(1:Nat)),
(by(try dsimp only at *);omega),
⟨(by(try dsimp only at *);omega),
(by(try dsimp only at *);omega)⟩,
⟨(by(try dsimp only at *);omega),rfl,rfl,
⟨rfl,rfl⟩,rfl,rfl,trivial⟩,
⟨rl,rr⟩,trivial⟩⟩⟩,
fun g18=>have h18:=dF g18;⟨trivial,trivial⟩⟩⟩)
theorem up_good:Good Tryz.prog 116 upInsC/\FnOk Tryz.prog 116:=good_of tok conUp (fn:=Tryz.f116) rfl (by decide+kernel) (fun _=>rfl) up_keeps
def upPdqC:CT where
 X:=List Int
 pre:=UpOk
 args:=fun l=>[.sl 100000 0 l.length,.i .i64 0,.i .i64 l.length,.u]
 g0:=fun l=>[(100000,.rows .bor k1 l.length (encL encI l))]
 res:=fun _=>.tup []
 g1:=fun _=>[]
def upPdqI (l:List Int) (id:Nat):Option Inv:=match id with
 |0=>some { X:=Unit,ok:=fun _=>True,fr:=fun _=>[(1,.i .i64 0),(2,.i .i64 l.length),(0,.sl 100000 0 l.length)],hp:=fun _=>[],me:=fun _=>0,inn:=fun _ id=>match id with|100023=>some (cutT 23 true)|_=>none }
 |_=>none
def cfgUpP:Cfg:=⟨T,[],[(116,.one upInsC)],noInv,10,{}⟩
theorem conUpP:ConOk Tryz.prog cfgUpP:=ConL.ok (.cons (ConL.one up_good) .nil)
set_option maxRecDepth 100000 in
theorem upP_keeps:Keeps cfgUpP Tryz.f94 upPdqC upPdqI:=Eq.mp (show((∀ x1:List Int,((UpOk x1)->(∃ x3:Unit,((True/\((((0:Int)=0)/\(((x1.length:Int)=(x1.length:Int))/\((0=0/\x1.length=x1.length)/\True)))/\(((RLe x1.length x1.length)/\(RI x1.length x1 x1))/\True)))/\(∀ x4:Unit,(True->((((-9223372036854775808:Int)<=(x1.length:Int)-0)/\((x1.length:Int)-0<=(9223372036854775807:Int)))/\((∃ x6:Unit,(True/\((decide ((x1.length:Int)-0<=(12:Int))=true)/\True)))/\(∀ x7:Unit,(True->(∃ x9:List Int,((UpOk x9)/\(((0=0/\x1.length=x9.length)/\(((0:Int)=0)/\(((x1.length:Int)=(x9.length:Int))/\True)))/\((((RLe x9.length x1.length)/\(RI x9.length x1 x9))/\True)/\(True/\True))))))))))))))))=(Keeps cfgUpP Tryz.f94 upPdqC upPdqI) by kernel_rfl) (fun x1=>fun h2=>⟨(default),
⟨trivial,
⟨rfl,rfl,
⟨rfl,rfl⟩,trivial⟩,
⟨rl,rr⟩,trivial⟩,
fun x4=>fun h5=>⟨⟨(by(try dsimp only at *);omega),
(by(try dsimp only at *);(have:=h2.len;omega))⟩,
⟨(default),trivial,
(by(try dsimp only at *);(have:=h2.len;exact decide_eq_true (by omega))),trivial⟩,
fun x7=>fun h8=>⟨(x1),
(by(try dsimp only at *);omega),
⟨⟨rfl,rfl⟩,rfl,rfl,trivial⟩,
⟨⟨rl,rr⟩,trivial⟩,trivial,trivial⟩⟩⟩)
theorem upP_good:Good Tryz.prog 94 upPdqC/\FnOk Tryz.prog 94:=good_of tok conUpP (fn:=Tryz.f94) rfl (by decide+kernel) (fun _=>rfl) upP_keeps
def upC:CT where
 X:=List Int
 pre:=UpOk
 args:=fun l=>[.sl 100000 0 l.length]
 g0:=fun l=>[(100000,.rows .bor k1 l.length (encL encI l))]
 res:=fun _=>.tup []
 g1:=fun _=>[]
def cfgUpS:Cfg:=⟨T,[],[(54,.one len64C),(94,.one upPdqC)],noInv,20,{}⟩
theorem conUpS:ConOk Tryz.prog cfgUpS:=ConL.ok (.cons (ConL.one blen_good) (.cons (ConL.one upP_good) .nil))
set_option maxRecDepth 100000 in
theorem upS_keeps:Keeps cfgUpS Tryz.f69 upC noIv:=Eq.mp (show((∀ x1:List Int,((UpOk x1)->((((0:Int)<=(x1.length:Int))/\((x1.length:Int)<=(18446744073709551615:Int)))/\(∃ x3:Nat,((x3<=(12:Nat))/\((((x1.length:Int)=(x3:Int))/\True)/\(True/\(∃ x4:List Int,((UpOk x4)/\(((0=0/\x1.length=x4.length)/\(((0:Int)=0)/\(((x1.length:Int)=(x4.length:Int))/\(True/\True))))/\((((RLe x4.length x1.length)/\(RI x4.length x1 x4))/\True)/\(True/\True)))))))))))))=(Keeps cfgUpS Tryz.f69 upC noIv) by kernel_rfl) (fun x1=>fun h2=>⟨⟨(by omega),
(by(have:=h2.len;omega))⟩,
(List.length x1),
(by(try dsimp only at *);(have:=h2.len;omega)),
⟨rfl,trivial⟩,trivial,
(x1),
(by(try dsimp only at *);omega),
⟨⟨rfl,rfl⟩,rfl,rfl,trivial,trivial⟩,
⟨⟨rl,rr⟩,trivial⟩,trivial,trivial⟩)
theorem upS_good:Good Tryz.prog 69 upC/\FnOk Tryz.prog 69:=good_of tok conUpS (fn:=Tryz.f69) rfl (by decide+kernel) (fun _=>rfl) upS_keeps
structure RBx where
 x:Ic
 l:List CR
structure RBok (q:RBx):Prop where
 x:IOk q.x
 m:q.x.merged=0
 l:LOk q.l
def rbC:CT where
 X:=RBx
 pre:=RBok
 args:=fun q=>[.agg (icL q.x 100000),.sl 100010 0 q.l.length]
 g0:=fun q=>icH q.x .bor 100000++[(100010,.rows .bor kC q.l.length (encL encCR q.l))]
 res:=fun q=>.tup [.agg (icL (rebI q.x q.l) 1),.i .i64 0]
 g1:=fun q=>icH (rebI q.x q.l) .own 1
def rbAt (q:RBx) (k:Nat):Ic:=derAt q.x (srtC q.l) k
def rbI (q:RBx) (id:Nat):Option Inv:=match id with
 |100019=>some (cutT 19 false)
 |100034=>some (cutT 34 false)
 |100066=>some (cutT 66 false)
 |0=>some { X:=Nat,ok:=fun k=>k<=q.l.length,fr:=fun k=>[(23,.i .i64 k)],hp:=fun _=>[],me:=fun k=>q.l.length-k }
 | 2 => some { X := Nat, ok := fun k => k + 1 <= q.l.length, fr := fun k => [(49, .i .i64 k)],
               hp:=fun k=>[(9,.one .own (icL (rbAt q k) 71)),(71,.rows .own k1 (rbAt q k).nodes.length (encL encI (rbAt q k).nodes)),(72,.rows .own k1 (rbAt q k).calls.length (encL encI (rbAt q k).calls)),(73,.rows .own k1 (rbAt q k).units.length (encL encI (rbAt q k).units))],me:=fun k=>q.l.length-k }
 |_=>none
def cfgRb:Cfg:=⟨T,[],[(61,.one viC),(47,.one vcC),(62,.one (cloneC kC)),(63,.one sfC),(67,.one cpC),(48,.one fiC),(68,.one fuC),(69,.one upC),(70,.one incC)],noInv,12,{}⟩
theorem conRb:ConOk Tryz.prog cfgRb:=ConL.ok (.cons (ConL.one vi_good) (.cons (ConL.one vc_good) (.cons (ConL.one cloneC_good) (.cons (ConL.one sf_good) (.cons (ConL.one cp_good) (.cons (ConL.one fi_good) (.cons (ConL.one fu_good) (.cons (ConL.one upS_good) (.cons (ConL.one incL_good) .nil)))))))))
theorem rb_zero (q:RBx):rbAt q 0=fstI q.x ((srtC q.l).getD 0 default):=derAt_zero _ _
theorem rb_succ {q:RBx} {k n:Nat} (hn:n=q.l.length) (hk:(k:Int)<((n:Int).toNat-Int.toNat 1:Nat)):rbAt q (k+1)=furI (rbAt q k) ((srtC q.l).getD (k+1) default):=derAt_succ (by rw[srtC_len];have:Int.toNat 1=1:=rfl;omega)
theorem rb_end {q:RBx} {k n:Nat} (hn:n=q.l.length) (hk:¬ (k:Int)<((n:Int).toNat-Int.toNat 1:Nat)):rbAt q k=rebI q.x q.l:=derAt_all _ (by rw[srtC_len];have:Int.toNat 1=1:=rfl;omega)
theorem rb_ok {q:RBx} (h:RBok q) {k:Nat} (hk:k+1<=q.l.length):IOk (rbAt q k):=derAt_ok h.x h.l.srt k (by rw[srtC_len];exact hk)
theorem rb_m {q:RBx} (h:RBok q) (k:Nat):(rbAt q k).merged=0:=by
 unfold rbAt derAt
 rw[(fold_core _ _).2.2.1];exact h.m
theorem rb_pos {q:RBx} (h:RBok q):1<=q.l.length:=by cases e:q.l with|nil=>exact absurd e h.l.ne|cons=>simp
theorem rb_at {q:RBx} (h:RBok q) {k:Nat} (hk:k<q.l.length):COk ((srtC q.l).getD k default):=h.l.srt.ok _ (getC_mem' (by rw[srtC_len];exact hk))
theorem idx1 (k:Nat):0+Int.toNat 1+((k:Nat):Int).toNat=k+1:=by have:Int.toNat 1=1:=rfl;omega
theorem sz_arr (l:List CR):l.toArray.size=l.length:=rfl
set_option maxRecDepth 100000 in
theorem rb_keeps:Keeps cfgRb Tryz.f43 rbC rbI:=Eq.mp (show((∀ x1:RBx,((RBok x1)->((∃ x3:Ic,(((IOk x3)/\(x3.merged=(0:Int)))/\(((x1.x.id=x3.id/\(x1.x.urg=x3.urg/\(x1.x.code=x3.code/\((0=0/\x1.x.nodes.length=x3.nodes.length)/\(((0:Int)=0)/\(((0:Int)=0)/\((0=0/\x1.x.calls.length=x3.calls.length)/\((0=0/\x1.x.units.length=x3.units.length)/\(x1.x.merged=x3.merged/\(x1.x.closed=x3.closed/\True))))))))))/\True)/\((((RLe x3.nodes.length x1.x.nodes.length)/\(RI x3.nodes.length x1.x.nodes x3.nodes))/\(((RLe x3.calls.length x1.x.calls.length)/\(RI x3.calls.length x1.x.calls x3.calls))/\(((RLe x3.units.length x1.x.units.length)/\(RI x3.units.length x1.x.units x3.units))/\True)))/\(∃ x4:Unit,(True/\((decide ((x1.l.length:Int)=0)=false)/\True)))))))/\(∀ x5:Unit,(True->(∃ x7:Nat,(((x7<=x1.l.length)/\(((0=(x7:Int))/\(((x1.l.length:Int)=(x1.l.length:Int))/\((0=0/\x1.l.length=x1.l.length)/\((0=0/\0=0)/\((0=0/\0=0)/\((x1.x.id=x1.x.id/\(x1.x.urg=x1.x.urg/\(x1.x.code=x1.x.code/\((0=0/\x1.x.nodes.length=x1.x.nodes.length)/\(((0:Int)=0)/\(((0:Int)=0)/\((0=0/\x1.x.calls.length=x1.x.calls.length)/\((0=0/\x1.x.units.length=x1.x.units.length)/\(x1.x.merged=x1.x.merged/\(x1.x.closed=x1.x.closed/\True))))))))))/\((0=0/\x1.l.length=x1.l.length)/\True)))))))/\((((0:Int)=0)/\(((0:Int)=0)/\(ByteArray.empty=ByteArray.empty/\(True/\(((0:Int)=0)/\(((0:Int)=0)/\(True/\(True/\(((0:Int)=0)/\(false=false/\True))))))))))/\((x1.x.id=x1.x.id/\(x1.x.urg=x1.x.urg/\(x1.x.code=x1.x.code/\((0=0/\x1.x.nodes.length=x1.x.nodes.length)/\(((0:Int)=0)/\(((0:Int)=0)/\((0=0/\x1.x.calls.length=x1.x.calls.length)/\((0=0/\x1.x.units.length=x1.x.units.length)/\(x1.x.merged=x1.x.merged/\(x1.x.closed=x1.x.closed/\True))))))))))/\(((RLe x1.x.nodes.length x1.x.nodes.length)/\(RI x1.x.nodes.length x1.x.nodes x1.x.nodes))/\(((RLe x1.x.calls.length x1.x.calls.length)/\(RI x1.x.calls.length x1.x.calls x1.x.calls))/\(((RLe x1.x.units.length x1.x.units.length)/\(RI x1.x.units.length x1.x.units x1.x.units))/\(((RLe x1.l.length x1.l.length)/\(RowsEq (.int .i64:: .int .i64:: .int .i64::Kd.str:: .sl [.int .i64]:: .int .i64:: .int .i64::Kd.bool::[]) x1.l.length (encL encCR x1.l) (encL encCR x1.l)))/\True))))))))/\(∀ x8:Nat,((x8<=x1.l.length)->(((decide ((x8:Int)<(x1.l.length:Int))=true)->((((0:Int)<=(x8:Int))/\((x8:Int)<(x1.l.length:Int)))/\((0+Int.toNat (x8:Int)<x1.l.length)/\(∃ x11:CR,((COk x11)/\(((((x1.l.getD (0+Int.toNat (x8:Int)) default).call=x11.call)/\(((x1.l.getD (0+Int.toNat (x8:Int)) default).inc=x11.inc)/\(((x1.l.getD (0+Int.toNat (x8:Int)) default).urg=x11.urg)/\(((x1.l.getD (0+Int.toNat (x8:Int)) default).code=x11.code)/\((0=0/\((x1.l.getD (0+Int.toNat (x8:Int)) default).nodes.length=x11.nodes.length))/\((D.toI (D.i 0)=(0:Int))/\((D.toI (D.i 0)=(0:Int))/\(((x1.l.getD (0+Int.toNat (x8:Int)) default).closed=x11.closed)/\True))))))))/\True)/\((((RLe x11.nodes.length (x1.l.getD (0+Int.toNat (x8:Int)) default).nodes.length)/\(RowsEq [.int .i64] x11.nodes.length (D.toF (D.l (x1.l.getD (0+Int.toNat (x8:Int)) default).nodes.length (encL encI (x1.l.getD (0+Int.toNat (x8:Int)) default).nodes))) (encL encI x11.nodes)))/\True)/\((((-9223372036854775808:Int)<=(x8:Int)+1)/\((x8:Int)+1<=(9223372036854775807:Int)))/\(∃ x12:Nat,((x1.l.length-x12<x1.l.length-x8)/\((x12<=x1.l.length)/\((((x8:Int)+1=(x12:Int))/\(((x1.l.length:Int)=(x1.l.length:Int))/\((0=0/\x1.l.length=x1.l.length)/\((0=0/\0=0)/\((0=0/\0=0)/\((x1.x.id=x1.x.id/\(x1.x.urg=x1.x.urg/\(x1.x.code=x1.x.code/\((0=0/\x1.x.nodes.length=x1.x.nodes.length)/\(((0:Int)=0)/\(((0:Int)=0)/\((0=0/\x1.x.calls.length=x1.x.calls.length)/\((0=0/\x1.x.units.length=x1.x.units.length)/\(x1.x.merged=x1.x.merged/\(x1.x.closed=x1.x.closed/\True))))))))))/\((0=0/\x1.l.length=x1.l.length)/\True)))))))/\((((0:Int)=0)/\(((0:Int)=0)/\(ByteArray.empty=ByteArray.empty/\(True/\(((0:Int)=0)/\(((0:Int)=0)/\(True/\(True/\(((0:Int)=0)/\(false=false/\True))))))))))/\((x1.x.id=x1.x.id/\(x1.x.urg=x1.x.urg/\(x1.x.code=x1.x.code/\((0=0/\x1.x.nodes.length=x1.x.nodes.length)/\(((0:Int)=0)/\(((0:Int)=0)/\((0=0/\x1.x.calls.length=x1.x.calls.length)/\((0=0/\x1.x.units.length=x1.x.units.length)/\(x1.x.merged=x1.x.merged/\(x1.x.closed=x1.x.closed/\True))))))))))/\(((RLe x1.x.nodes.length x1.x.nodes.length)/\(RI x1.x.nodes.length x1.x.nodes x1.x.nodes))/\(((RLe x1.x.calls.length x1.x.calls.length)/\(RI x1.x.calls.length x1.x.calls x1.x.calls))/\(((RLe x1.x.units.length x1.x.units.length)/\(RI x1.x.units.length x1.x.units x1.x.units))/\(((RLe x1.l.length x1.l.length)/\(RowsEq (.int .i64:: .int .i64:: .int .i64::Kd.str:: .sl [.int .i64]:: .int .i64:: .int .i64::Kd.bool::[]) x1.l.length (encL encCR x1.l) (encL encCR x1.l)))/\True))))))))))))))))))/\((decide ((x8:Int)<(x1.l.length:Int))=false)->((∃ x14:Unit,(True/\((decide (1000<(x1.l.length:Int))=false)/\True)))/\(∀ x15:Unit,(True->(∃ x17:RX,((x17.n<=(1073741824:Nat))/\(((0=0/\x1.l.length=x17.n)/\True)/\((((RLe x17.n x1.l.length)/\(RowsEq (.int .i64:: .int .i64:: .int .i64::Kd.str:: .sl [.int .i64]:: .int .i64:: .int .i64::Kd.bool::[]) x17.n (encL encCR x1.l) x17.f))/\True)/\(∃ x18:Array CR,((Array.size x18<=(12:Nat))/\(((0=0/\(x17.n=Array.size x18))/\(True/\True))/\((((RLe (Array.size x18) x17.n)/\(RowsEq (.int .i64:: .int .i64:: .int .i64::Kd.str:: .sl [.int .i64]:: .int .i64:: .int .i64::Kd.bool::[]) (Array.size x18) x17.f (aR x18)))/\True)/\(∃ x19:Ic,(((x19.nodes.length<=(4096:Nat))/\((x19.calls.length<=(1000:Nat))/\(x19.units.length<=(1000:Nat))))/\(((x1.x.id=x19.id/\(x1.x.urg=x19.urg/\(x1.x.code=x19.code/\((0=0/\x1.x.nodes.length=x19.nodes.length)/\(((0:Int)=0)/\(((0:Int)=0)/\((0=0/\x1.x.calls.length=x19.calls.length)/\((0=0/\x1.x.units.length=x19.units.length)/\(x1.x.merged=x19.merged/\(x1.x.closed=x19.closed/\True))))))))))/\True)/\((((RLe x19.nodes.length x1.x.nodes.length)/\(RI x19.nodes.length x1.x.nodes x19.nodes))/\(((RLe x19.calls.length x1.x.calls.length)/\(RI x19.calls.length x1.x.calls x19.calls))/\(((RLe x19.units.length x1.x.units.length)/\(RI x19.units.length x1.x.units x19.units))/\True)))/\((((0:Int)<=(0:Int))/\(0<(x17.n:Int)))/\((0+Int.toNat (0:Int)<Array.size x18)/\(∃ x20:ICx,((x20.c.nodes.length<=(4096:Nat))/\(((0=0/\0=0)/\(((((Array.toList (srtF x18)).getD (0+Int.toNat (0:Int)) default).call=x20.c.call)/\((((Array.toList (srtF x18)).getD (0+Int.toNat (0:Int)) default).inc=x20.c.inc)/\((((Array.toList (srtF x18)).getD (0+Int.toNat (0:Int)) default).urg=x20.c.urg)/\((((Array.toList (srtF x18)).getD (0+Int.toNat (0:Int)) default).code=x20.c.code)/\((0=0/\(((Array.toList (srtF x18)).getD (0+Int.toNat (0:Int)) default).nodes.length=x20.c.nodes.length))/\(((0:Int)=0)/\(((0:Int)=0)/\((((Array.toList (srtF x18)).getD (0+Int.toNat (0:Int)) default).closed=x20.c.closed)/\True))))))))/\True))/\(((x19.id=x20.x.id/\(x19.urg=x20.x.urg/\(x19.code=x20.x.code/\(True/\(((0:Int)=0)/\(((0:Int)=0)/\(True/\((0=0/\x19.units.length=x20.x.units.length)/\(x19.merged=x20.x.merged/\(x19.closed=x20.x.closed/\True))))))))))/\(((RLe x20.x.units.length x19.units.length)/\(RI x20.x.units.length x19.units x20.x.units))/\(((RLe x20.c.nodes.length ((Array.toList (srtF x18)).getD (0+Int.toNat (0:Int)) default).nodes.length)/\(RowsEq [.int .i64] x20.c.nodes.length (D.toF (aR (srtF x18) (0+Int.toNat (0:Int)) 4)) (encL encI x20.c.nodes)))/\True)))/\((((0:Int)<=(1:Int))/\(((1:Int)<=(x17.n:Int))/\((x17.n:Int)<=(x17.n:Int))))/\(∃ x21:Nat,(((x21+(1:Nat)<=x1.l.length)/\(((0=(x21:Int))/\(((↑(Int.toNat (x17.n:Int)-Int.toNat (1:Int)):Int)=(↑(Int.toNat (x17.n:Int)-Int.toNat (1:Int)):Int))/\(((0+Int.toNat (1:Int)=0+Int.toNat (1:Int))/\(Int.toNat (x17.n:Int)-Int.toNat (1:Int)=Int.toNat (x17.n:Int)-Int.toNat (1:Int)))/\((0=0/\0=0)/\((0=0/\x17.n=x17.n)/\((0=0/\0=0)/\((0=0/\0=0)/\((x1.x.id=x1.x.id/\(x1.x.urg=x1.x.urg/\(x1.x.code=x1.x.code/\((0=0/\x1.x.nodes.length=x1.x.nodes.length)/\(((0:Int)=0)/\(((0:Int)=0)/\((0=0/\x1.x.calls.length=x1.x.calls.length)/\((0=0/\x1.x.units.length=x1.x.units.length)/\(x1.x.merged=x1.x.merged/\(x1.x.closed=x1.x.closed/\True))))))))))/\((0=0/\x1.l.length=x1.l.length)/\True)))))))))/\(((x20.x.id=(rbAt x1 x21).id)/\((x20.c.urg=(rbAt x1 x21).urg)/\((x20.c.code=(rbAt x1 x21).code)/\((0=0/\(x20.c.nodes.length=(rbAt x1 x21).nodes.length))/\(((0:Int)=0)/\(((0:Int)=0)/\((0=0/\((1:Nat)=(rbAt x1 x21).calls.length))/\((0=0/\(x20.x.units.length=(rbAt x1 x21).units.length))/\((x20.x.merged=(rbAt x1 x21).merged)/\((x20.x.closed=(rbAt x1 x21).closed)/\True))))))))))/\(((RLe (rbAt x1 x21).nodes.length x20.c.nodes.length)/\(RowsEq [.int .i64] (rbAt x1 x21).nodes.length (encL encI x20.c.nodes) (encL encI (rbAt x1 x21).nodes)))/\(((RLe (rbAt x1 x21).calls.length 1)/\(RowsEq [.int .i64] (rbAt x1 x21).calls.length (encL encI (x20.c.call::@List.nil Int)) (encL encI (rbAt x1 x21).calls)))/\(((RLe (rbAt x1 x21).units.length x19.units.length)/\(RowsEq [.int .i64] (rbAt x1 x21).units.length (encL encI x19.units) (encL encI (rbAt x1 x21).units)))/\(((RLe ((Array.toList (srtF x18)).getD (0+Int.toNat (0:Int)) default).nodes.length ((Array.toList (srtF x18)).getD (0+Int.toNat (0:Int)) default).nodes.length)/\(RowsEq [.int .i64] ((Array.toList (srtF x18)).getD (0+Int.toNat (0:Int)) default).nodes.length (D.toF (aR (srtF x18) (0+Int.toNat (0:Int)) 4)) (D.toF (aR (srtF x18) (0+Int.toNat (0:Int)) 4))))/\(((RLe x19.nodes.length x19.nodes.length)/\(RI x19.nodes.length x19.nodes x19.nodes))/\(((RLe x19.calls.length x19.calls.length)/\(RI x19.calls.length x19.calls x19.calls))/\(((RLe (Array.size x18) (Array.size x18))/\(RowsEq (.int .i64:: .int .i64:: .int .i64::Kd.str:: .sl [.int .i64]:: .int .i64:: .int .i64::Kd.bool::[]) (Array.size x18) (aR (srtF x18)) (aR (srtF x18))))/\((((0:Int)=0)/\(((0:Int)=0)/\(ByteArray.empty=ByteArray.empty/\(True/\(((0:Int)=0)/\(((0:Int)=0)/\(True/\(True/\(((0:Int)=0)/\(false=false/\True))))))))))/\((x1.x.id=x1.x.id/\(x1.x.urg=x1.x.urg/\(x1.x.code=x1.x.code/\((0=0/\x1.x.nodes.length=x1.x.nodes.length)/\(((0:Int)=0)/\(((0:Int)=0)/\((0=0/\x1.x.calls.length=x1.x.calls.length)/\((0=0/\x1.x.units.length=x1.x.units.length)/\(x1.x.merged=x1.x.merged/\(x1.x.closed=x1.x.closed/\True))))))))))/\(((RLe x1.x.nodes.length x1.x.nodes.length)/\(RI x1.x.nodes.length x1.x.nodes x1.x.nodes))/\(((RLe x1.x.calls.length x1.x.calls.length)/\(RI x1.x.calls.length x1.x.calls x1.x.calls))/\(((RLe x1.x.units.length x1.x.units.length)/\(RI x1.x.units.length x1.x.units x1.x.units))/\(((RLe x1.l.length x1.l.length)/\(RowsEq (.int .i64:: .int .i64:: .int .i64::Kd.str:: .sl [.int .i64]:: .int .i64:: .int .i64::Kd.bool::[]) x1.l.length (encL encCR x1.l) (encL encCR x1.l)))/\True))))))))))))))))/\(∀ x22:Nat,((x22+(1:Nat)<=x1.l.length)->(((decide ((x22:Int)<(↑(Int.toNat (x17.n:Int)-Int.toNat (1:Int)):Int))=true)->((((0:Int)<=(x22:Int))/\((x22:Int)<(↑(Int.toNat (x17.n:Int)-Int.toNat (1:Int)):Int)))/\((0+Int.toNat (1:Int)+Int.toNat (x22:Int)<Array.size x18)/\(∃ x25:ICx,(((x25.c.nodes.length<=(4096:Nat))/\((x25.x.nodes.length<=(4096:Nat))/\(x25.x.calls.length<=(1000:Nat))))/\(((0=0/\0=0)/\(((((Array.toList (srtF x18)).getD (0+Int.toNat (1:Int)+Int.toNat (x22:Int)) default).call=x25.c.call)/\((((Array.toList (srtF x18)).getD (0+Int.toNat (1:Int)+Int.toNat (x22:Int)) default).inc=x25.c.inc)/\((((Array.toList (srtF x18)).getD (0+Int.toNat (1:Int)+Int.toNat (x22:Int)) default).urg=x25.c.urg)/\((((Array.toList (srtF x18)).getD (0+Int.toNat (1:Int)+Int.toNat (x22:Int)) default).code=x25.c.code)/\((0=0/\(((Array.toList (srtF x18)).getD (0+Int.toNat (1:Int)+Int.toNat (x22:Int)) default).nodes.length=x25.c.nodes.length))/\(((0:Int)=0)/\(((0:Int)=0)/\((((Array.toList (srtF x18)).getD (0+Int.toNat (1:Int)+Int.toNat (x22:Int)) default).closed=x25.c.closed)/\True))))))))/\True))/\(((((rbAt x1 x22).id=x25.x.id)/\(((rbAt x1 x22).urg=x25.x.urg)/\(((rbAt x1 x22).code=x25.x.code)/\((0=0/\((rbAt x1 x22).nodes.length=x25.x.nodes.length))/\(((0:Int)=0)/\(((0:Int)=0)/\((0=0/\((rbAt x1 x22).calls.length=x25.x.calls.length))/\((0=0/\((rbAt x1 x22).units.length=x25.x.units.length))/\(((rbAt x1 x22).merged=x25.x.merged)/\(((rbAt x1 x22).closed=x25.x.closed)/\True))))))))))/\(((RLe x25.x.nodes.length (rbAt x1 x22).nodes.length)/\(RI x25.x.nodes.length (rbAt x1 x22).nodes x25.x.nodes))/\(((RLe x25.x.calls.length (rbAt x1 x22).calls.length)/\(RI x25.x.calls.length (rbAt x1 x22).calls x25.x.calls))/\(((RLe x25.x.units.length (rbAt x1 x22).units.length)/\(RI x25.x.units.length (rbAt x1 x22).units x25.x.units))/\(((RLe x25.c.nodes.length ((Array.toList (srtF x18)).getD (0+Int.toNat (1:Int)+Int.toNat (x22:Int)) default).nodes.length)/\(RowsEq [.int .i64] x25.c.nodes.length (D.toF (aR (srtF x18) (0+Int.toNat (1:Int)+Int.toNat (x22:Int)) 4)) (encL encI x25.c.nodes)))/\True)))))/\((((-9223372036854775808:Int)<=(x22:Int)+1)/\((x22:Int)+1<=(9223372036854775807:Int)))/\(∃ x26:Nat,((x1.l.length-x26<x1.l.length-x22)/\((x26+(1:Nat)<=x1.l.length)/\((((x22:Int)+1=(x26:Int))/\(((↑(Int.toNat (x17.n:Int)-Int.toNat (1:Int)):Int)=(↑(Int.toNat (x17.n:Int)-Int.toNat (1:Int)):Int))/\(((0+Int.toNat (1:Int)=0+Int.toNat (1:Int))/\(Int.toNat (x17.n:Int)-Int.toNat (1:Int)=Int.toNat (x17.n:Int)-Int.toNat (1:Int)))/\((0=0/\0=0)/\((0=0/\x17.n=x17.n)/\((0=0/\0=0)/\((0=0/\0=0)/\((x1.x.id=x1.x.id/\(x1.x.urg=x1.x.urg/\(x1.x.code=x1.x.code/\((0=0/\x1.x.nodes.length=x1.x.nodes.length)/\(((0:Int)=0)/\(((0:Int)=0)/\((0=0/\x1.x.calls.length=x1.x.calls.length)/\((0=0/\x1.x.units.length=x1.x.units.length)/\(x1.x.merged=x1.x.merged/\(x1.x.closed=x1.x.closed/\True))))))))))/\((0=0/\x1.l.length=x1.l.length)/\True)))))))))/\(((x25.x.id=(rbAt x1 x26).id)/\(((furI x25.x x25.c).urg=(rbAt x1 x26).urg)/\(((furI x25.x x25.c).code=(rbAt x1 x26).code)/\((0=0/\((furI x25.x x25.c).nodes.length=(rbAt x1 x26).nodes.length))/\(((0:Int)=0)/\(((0:Int)=0)/\((0=0/\((furI x25.x x25.c).calls.length=(rbAt x1 x26).calls.length))/\((0=0/\(x25.x.units.length=(rbAt x1 x26).units.length))/\((x25.x.merged=(rbAt x1 x26).merged)/\((x25.x.closed=(rbAt x1 x26).closed)/\True))))))))))/\(((RLe (rbAt x1 x26).nodes.length (furI x25.x x25.c).nodes.length)/\(RowsEq [.int .i64] (rbAt x1 x26).nodes.length (encL encI (furI x25.x x25.c).nodes) (encL encI (rbAt x1 x26).nodes)))/\(((RLe (rbAt x1 x26).calls.length (furI x25.x x25.c).calls.length)/\(RowsEq [.int .i64] (rbAt x1 x26).calls.length (encL encI (furI x25.x x25.c).calls) (encL encI (rbAt x1 x26).calls)))/\(((RLe (rbAt x1 x26).units.length (rbAt x1 x22).units.length)/\(RowsEq [.int .i64] (rbAt x1 x26).units.length (encL encI (rbAt x1 x22).units) (encL encI (rbAt x1 x26).units)))/\(((RLe ((Array.toList (srtF x18)).getD (0+Int.toNat (0:Int)) default).nodes.length ((Array.toList (srtF x18)).getD (0+Int.toNat (0:Int)) default).nodes.length)/\(RowsEq [.int .i64] ((Array.toList (srtF x18)).getD (0+Int.toNat (0:Int)) default).nodes.length (D.toF (aR (srtF x18) (0+Int.toNat (0:Int)) 4)) (D.toF (aR (srtF x18) (0+Int.toNat (0:Int)) 4))))/\(((RLe x19.nodes.length x19.nodes.length)/\(RI x19.nodes.length x19.nodes x19.nodes))/\(((RLe x19.calls.length x19.calls.length)/\(RI x19.calls.length x19.calls x19.calls))/\(((RLe (Array.size x18) (Array.size x18))/\(RowsEq (.int .i64:: .int .i64:: .int .i64::Kd.str:: .sl [.int .i64]:: .int .i64:: .int .i64::Kd.bool::[]) (Array.size x18) (aR (srtF x18)) (aR (srtF x18))))/\((((0:Int)=0)/\(((0:Int)=0)/\(ByteArray.empty=ByteArray.empty/\(True/\(((0:Int)=0)/\(((0:Int)=0)/\(True/\(True/\(((0:Int)=0)/\(false=false/\True))))))))))/\((x1.x.id=x1.x.id/\(x1.x.urg=x1.x.urg/\(x1.x.code=x1.x.code/\((0=0/\x1.x.nodes.length=x1.x.nodes.length)/\(((0:Int)=0)/\(((0:Int)=0)/\((0=0/\x1.x.calls.length=x1.x.calls.length)/\((0=0/\x1.x.units.length=x1.x.units.length)/\(x1.x.merged=x1.x.merged/\(x1.x.closed=x1.x.closed/\True))))))))))/\(((RLe x1.x.nodes.length x1.x.nodes.length)/\(RI x1.x.nodes.length x1.x.nodes x1.x.nodes))/\(((RLe x1.x.calls.length x1.x.calls.length)/\(RI x1.x.calls.length x1.x.calls x1.x.calls))/\(((RLe x1.x.units.length x1.x.units.length)/\(RI x1.x.units.length x1.x.units x1.x.units))/\(((RLe x1.l.length x1.l.length)/\(RowsEq (.int .i64:: .int .i64:: .int .i64::Kd.str:: .sl [.int .i64]:: .int .i64:: .int .i64::Kd.bool::[]) x1.l.length (encL encCR x1.l) (encL encCR x1.l)))/\True))))))))))))))))))))))))))/\((decide ((x22:Int)<(↑(Int.toNat (x17.n:Int)-Int.toNat (1:Int)):Int))=false)->(∃ x28:List Int,((UpOk x28)/\(((0=0/\((rbAt x1 x22).calls.length=x28.length))/\True)/\((((RLe x28.length (rbAt x1 x22).calls.length)/\(RI x28.length (rbAt x1 x22).calls x28))/\True)/\(∃ x29:IncX,((IncOk x29)/\(((0=0/\((rbAt x1 x22).calls.length=x29.l.length))/\(1=x29.lo/\(1099511627776=x29.hi/\True)))/\((((RLe x29.l.length (rbAt x1 x22).calls.length)/\(RI x29.l.length (rbAt x1 x22).calls x29.l))/\True)/\((∃ x30:Unit,(True/\((decide ((rbAt x1 x22).merged≠(0:Int))=false)/\True)))/\(∀ x31:Unit,(True->(((((rbAt x1 x22).id=(rebI x1.x x1.l).id)/\(((rbAt x1 x22).urg=(rebI x1.x x1.l).urg)/\(((rbAt x1 x22).code=(rebI x1.x x1.l).code)/\((0=0/\((rbAt x1 x22).nodes.length=(rebI x1.x x1.l).nodes.length))/\(((0:Int)=0)/\(((0:Int)=0)/\((0=0/\((rbAt x1 x22).calls.length=(rebI x1.x x1.l).calls.length))/\((0=0/\((rbAt x1 x22).units.length=(rebI x1.x x1.l).units.length))/\(((rbAt x1 x22).merged=(rebI x1.x x1.l).merged)/\(((rbAt x1 x22).closed=(rebI x1.x x1.l).closed)/\True))))))))))/\(((0:Int)=0)/\True))/\(((RLe (rebI x1.x x1.l).nodes.length (rbAt x1 x22).nodes.length)/\(RowsEq [.int .i64] (rebI x1.x x1.l).nodes.length (encL encI (rbAt x1 x22).nodes) (encL encI (rebI x1.x x1.l).nodes)))/\(((RLe (rebI x1.x x1.l).calls.length (rbAt x1 x22).calls.length)/\(RowsEq [.int .i64] (rebI x1.x x1.l).calls.length (encL encI (rbAt x1 x22).calls) (encL encI (rebI x1.x x1.l).calls)))/\(((RLe (rebI x1.x x1.l).units.length (rbAt x1 x22).units.length)/\(RowsEq [.int .i64] (rebI x1.x x1.l).units.length (encL encI (rbAt x1 x22).units) (encL encI (rebI x1.x x1.l).units)))/\True)))))))))))))))))))))))))))))))))))))))))))))))))))))))=(Keeps cfgRb Tryz.f43 rbC rbI) by kernel_rfl) (fun x1=>fun h2=>⟨⟨(RBx.x x1),
⟨(by(try dsimp only at *);exact h2.x),
(by(try dsimp only at *);exact h2.m)⟩,
⟨⟨rfl,rfl,rfl,
⟨rfl,rfl⟩,rfl,rfl,
⟨rfl,rfl⟩,
⟨rfl,rfl⟩,rfl,rfl,trivial⟩,trivial⟩,
⟨⟨rl,rr⟩,
⟨rl,rr⟩,
⟨rl,rr⟩,trivial⟩,
(default),trivial,
(by(try dsimp only at *);(have:=h2.l.len;have:=rb_pos h2;exact decide_eq_false (by omega))),trivial⟩,
fun x5=>fun h6=>⟨((0:Nat)),
⟨(by(try dsimp only at *);omega),
⟨(by(try dsimp only at *);omega),rfl,
⟨rfl,rfl⟩,
⟨rfl,rfl⟩,
⟨rfl,rfl⟩,
⟨rfl,rfl,rfl,
⟨rfl,rfl⟩,rfl,rfl,
⟨rfl,rfl⟩,
⟨rfl,rfl⟩,rfl,rfl,trivial⟩,
⟨rfl,rfl⟩,trivial⟩,
⟨rfl,rfl,rfl,trivial,rfl,rfl,trivial,trivial,rfl,rfl,trivial⟩,
⟨rfl,rfl,rfl,
⟨rfl,rfl⟩,rfl,rfl,
⟨rfl,rfl⟩,
⟨rfl,rfl⟩,rfl,rfl,trivial⟩,
⟨rl,rr⟩,
⟨rl,rr⟩,
⟨rl,rr⟩,
⟨rl,rr⟩,trivial⟩,
fun x8=>fun h9=>⟨fun g10=>have h10:=dT g10;⟨⟨(by(try dsimp only at *);omega),
(by(try dsimp only at *);omega)⟩,
(by(try dsimp only at *);omega),
(List.getD (RBx.l x1) ((0:Nat)+Int.toNat (↑x8:Int)) default),
(by(try dsimp only at *);(rw[nat0];exact h2.l.ok _ (getC_mem' (by omega)))),
⟨⟨rfl,rfl,rfl,rfl,
⟨rfl,rfl⟩,
(by(try dsimp only at *);exact rfl),
(by(try dsimp only at *);exact rfl),rfl,trivial⟩,trivial⟩,
⟨⟨rl,
(by(try dsimp only at *);exact rr)⟩,trivial⟩,
⟨(by(try dsimp only at *);omega),
(by(try dsimp only at *);(have:=h2.l.len;have:=rb_pos h2;have:=sz_arr x1.l;have:Int.toNat 1=1:=rfl;omega))⟩,
(x8+(1:Nat)),
(by(try dsimp only at *);omega),
(by(try dsimp only at *);omega),
⟨(by(try dsimp only at *);omega),rfl,
⟨rfl,rfl⟩,
⟨rfl,rfl⟩,
⟨rfl,rfl⟩,
⟨rfl,rfl,rfl,
⟨rfl,rfl⟩,rfl,rfl,
⟨rfl,rfl⟩,
⟨rfl,rfl⟩,rfl,rfl,trivial⟩,
⟨rfl,rfl⟩,trivial⟩,
⟨rfl,rfl,rfl,trivial,rfl,rfl,trivial,trivial,rfl,rfl,trivial⟩,
⟨rfl,rfl,rfl,
⟨rfl,rfl⟩,rfl,rfl,
⟨rfl,rfl⟩,
⟨rfl,rfl⟩,rfl,rfl,trivial⟩,
⟨rl,rr⟩,
⟨rl,rr⟩,
⟨rl,rr⟩,
⟨rl,rr⟩,trivial⟩,
fun g13=>have h13:=dF g13;⟨⟨(default),trivial,
(by(try dsimp only at *);(have:=h2.l.len;have:=rb_pos h2;exact decide_eq_false (by omega))),trivial⟩,
fun x15=>fun h16=>⟨({ n:=List.length (RBx.l x1),f:=encL encCR (RBx.l x1):RX }),
(by(try dsimp only at *);(have:=h2.l.len;have:=rb_pos h2;have:=sz_arr x1.l;have:Int.toNat 1=1:=rfl;omega)),
⟨⟨rfl,rfl⟩,trivial⟩,
⟨⟨rl,rr⟩,trivial⟩,
(List.toArray (RBx.l x1)),
(by(try dsimp only at *);(have:=h2.l.len;have:=rb_pos h2;have:=sz_arr x1.l;have:Int.toNat 1=1:=rfl;omega)),
⟨⟨rfl,
(by(try dsimp only at *);grind)⟩,trivial,trivial⟩,
⟨⟨⟨(by(try dsimp only at *);grind)⟩,
(by(try dsimp only at *);exact rr)⟩,trivial⟩,
(RBx.x x1),
⟨(by(try dsimp only at *);exact h2.x.len),
(by(try dsimp only at *);exact Nat.le_trans h2.x.clen (by omega)),
(by(try dsimp only at *);exact Nat.le_trans h2.x.ulen (by omega))⟩,
⟨⟨rfl,rfl,rfl,
⟨rfl,rfl⟩,rfl,rfl,
⟨rfl,rfl⟩,
⟨rfl,rfl⟩,rfl,rfl,trivial⟩,trivial⟩,
⟨⟨rl,rr⟩,
⟨rl,rr⟩,
⟨rl,rr⟩,trivial⟩,
⟨(by(try dsimp only at *);omega),
(by(try dsimp only at *);(have:=h2.l.len;have:=rb_pos h2;have:=sz_arr x1.l;have:Int.toNat 1=1:=rfl;omega))⟩,
(by(try dsimp only at *);(have:=h2.l.len;have:=rb_pos h2;have:=sz_arr x1.l;have:Int.toNat 1=1:=rfl;omega)),
({ x:=RBx.x x1,c:=List.getD (srtC (RBx.l x1)) (0:Nat) default:ICx }),
(by(try dsimp only at *);exact(rb_at h2 (rb_pos h2)).len),
⟨⟨rfl,rfl⟩,
⟨(by(try dsimp only at *);exact rfl),
(by(try dsimp only at *);exact rfl),
(by(try dsimp only at *);exact rfl),
(by(try dsimp only at *);exact rfl),
⟨rfl,
(by(try dsimp only at *);exact rfl)⟩,rfl,rfl,
(by(try dsimp only at *);exact rfl),trivial⟩,trivial⟩,
⟨⟨rfl,rfl,rfl,trivial,rfl,rfl,trivial,
⟨rfl,rfl⟩,rfl,rfl,trivial⟩,
⟨rl,rr⟩,
⟨⟨(by(try dsimp only at *);exact Nat.le_refl _)⟩,
(by(try dsimp only at *);exact rr)⟩,trivial⟩,
⟨(by(try dsimp only at *);omega),
(by(try dsimp only at *);(have:=h2.l.len;have:=rb_pos h2;have:=sz_arr x1.l;have:Int.toNat 1=1:=rfl;omega)),
(by(try dsimp only at *);omega)⟩,
((0:Nat)),
⟨(by(try dsimp only at *);(have:=h2.l.len;have:=rb_pos h2;have:=sz_arr x1.l;have:Int.toNat 1=1:=rfl;omega)),
⟨(by(try dsimp only at *);omega),rfl,
⟨rfl,rfl⟩,
⟨rfl,rfl⟩,
⟨rfl,rfl⟩,
⟨rfl,rfl⟩,
⟨rfl,rfl⟩,
⟨rfl,rfl,rfl,
⟨rfl,rfl⟩,rfl,rfl,
⟨rfl,rfl⟩,
⟨rfl,rfl⟩,rfl,rfl,trivial⟩,
⟨rfl,rfl⟩,trivial⟩,
⟨(by(try dsimp only at *);exact rfl),
(by(try dsimp only at *);exact rfl),
(by(try dsimp only at *);exact rfl),
⟨rfl,
(by(try dsimp only at *);exact rfl)⟩,rfl,rfl,
⟨rfl,
(by(try dsimp only at *);exact rfl)⟩,
⟨rfl,
(by(try dsimp only at *);exact rfl)⟩,
(by(try dsimp only at *);exact rfl),
(by(try dsimp only at *);exact rfl),trivial⟩,
⟨⟨(by(try dsimp only at *);(rw[rb_zero];exact Nat.le_refl _))⟩,
(by(try dsimp only at *);exact rr)⟩,
⟨⟨(by(try dsimp only at *);(rw[rb_zero];exact Nat.le_refl _))⟩,
(by(try dsimp only at *);exact rr)⟩,
⟨⟨(by(try dsimp only at *);(rw[rb_zero];exact Nat.le_refl _))⟩,
(by(try dsimp only at *);exact rr)⟩,
⟨rl,rr⟩,
⟨rl,rr⟩,
⟨rl,rr⟩,
⟨rl,rr⟩,
⟨rfl,rfl,rfl,trivial,rfl,rfl,trivial,trivial,rfl,rfl,trivial⟩,
⟨rfl,rfl,rfl,
⟨rfl,rfl⟩,rfl,rfl,
⟨rfl,rfl⟩,
⟨rfl,rfl⟩,rfl,rfl,trivial⟩,
⟨rl,rr⟩,
⟨rl,rr⟩,
⟨rl,rr⟩,
⟨rl,rr⟩,trivial⟩,
fun x22=>fun h23=>⟨fun g24=>have h24:=dT g24;⟨⟨(by(try dsimp only at *);omega),
(by(try dsimp only at *);omega)⟩,
(by(try dsimp only at *);grind),
({ x:=rbAt x1 x22,c:=List.getD (srtC (RBx.l x1)) (x22+(1:Nat)) default:ICx }),
⟨(by(try dsimp only at *);exact(rb_at h2 (by have:Int.toNat 1=1:=rfl;omega)).len),
(by(try dsimp only at *);exact(rb_ok h2 h23).len),
(by(try dsimp only at *);exact Nat.le_trans (rb_ok h2 h23).clen (by omega))⟩,
⟨⟨rfl,rfl⟩,
⟨(by(try dsimp only at *);(rw[idx1];exact rfl)),
(by(try dsimp only at *);(rw[idx1];exact rfl)),
(by(try dsimp only at *);(rw[idx1];exact rfl)),
(by(try dsimp only at *);(rw[idx1];exact rfl)),
⟨rfl,
(by(try dsimp only at *);(rw[idx1];exact rfl))⟩,rfl,rfl,
(by(try dsimp only at *);(rw[idx1];exact rfl)),trivial⟩,trivial⟩,
⟨⟨rfl,rfl,rfl,
⟨rfl,rfl⟩,rfl,rfl,
⟨rfl,rfl⟩,
⟨rfl,rfl⟩,rfl,rfl,trivial⟩,
⟨rl,rr⟩,
⟨rl,rr⟩,
⟨rl,rr⟩,
⟨⟨(by(try dsimp only at *);(rw[idx1];exact Nat.le_refl _))⟩,
(by(try dsimp only at *);(rw[idx1];exact rr))⟩,trivial⟩,
⟨(by(try dsimp only at *);omega),
(by(try dsimp only at *);(have:=h2.l.len;have:=rb_pos h2;have:=sz_arr x1.l;have:Int.toNat 1=1:=rfl;omega))⟩,
(x22+(1:Nat)),
(by(try dsimp only at *);omega),
(by(try dsimp only at *);omega),
⟨(by(try dsimp only at *);omega),rfl,
⟨rfl,rfl⟩,
⟨rfl,rfl⟩,
⟨rfl,rfl⟩,
⟨rfl,rfl⟩,
⟨rfl,rfl⟩,
⟨rfl,rfl,rfl,
⟨rfl,rfl⟩,rfl,rfl,
⟨rfl,rfl⟩,
⟨rfl,rfl⟩,rfl,rfl,trivial⟩,
⟨rfl,rfl⟩,trivial⟩,
⟨(by(try dsimp only at *);(rw[rb_succ rfl h24];exact rfl)),
(by(try dsimp only at *);(rw[rb_succ rfl h24])),
(by(try dsimp only at *);(rw[rb_succ rfl h24])),
⟨rfl,
(by(try dsimp only at *);(rw[rb_succ rfl h24]))⟩,rfl,rfl,
⟨rfl,
(by(try dsimp only at *);(rw[rb_succ rfl h24]))⟩,
⟨rfl,
(by(try dsimp only at *);(rw[rb_succ rfl h24];exact rfl))⟩,
(by(try dsimp only at *);(rw[rb_succ rfl h24];exact rfl)),
(by(try dsimp only at *);(rw[rb_succ rfl h24];exact rfl)),trivial⟩,
⟨⟨(by(try dsimp only at *);(rw[rb_succ rfl h24];exact Nat.le_refl _))⟩,
(by(try dsimp only at *);(rw[rb_succ rfl h24];exact rr))⟩,
⟨⟨(by(try dsimp only at *);(rw[rb_succ rfl h24];exact Nat.le_refl _))⟩,
(by(try dsimp only at *);(rw[rb_succ rfl h24];exact rr))⟩,
⟨⟨(by(try dsimp only at *);(rw[rb_succ rfl h24];exact Nat.le_refl _))⟩,
(by(try dsimp only at *);(rw[rb_succ rfl h24];exact rr))⟩,
⟨rl,rr⟩,
⟨rl,rr⟩,
⟨rl,rr⟩,
⟨rl,rr⟩,
⟨rfl,rfl,rfl,trivial,rfl,rfl,trivial,trivial,rfl,rfl,trivial⟩,
⟨rfl,rfl,rfl,
⟨rfl,rfl⟩,rfl,rfl,
⟨rfl,rfl⟩,
⟨rfl,rfl⟩,rfl,rfl,trivial⟩,
⟨rl,rr⟩,
⟨rl,rr⟩,
⟨rl,rr⟩,
⟨rl,rr⟩,trivial⟩,
fun g27=>have h27:=dF g27;⟨(Ic.calls (rbAt x1 x22)),
(by(try dsimp only at *);exact⟨(rb_ok h2 h23).calls,(rb_ok h2 h23).clen⟩),
⟨⟨rfl,rfl⟩,trivial⟩,
⟨⟨rl,rr⟩,trivial⟩,
({ l:=Ic.calls (rbAt x1 x22),lo:=(1:Int),hi:=(1099511627776:Int):IncX }),
(by(try dsimp only at *);exact⟨(rb_ok h2 h23).calls,(rb_ok h2 h23).callr,Nat.le_trans (rb_ok h2 h23).clen (by omega)⟩),
⟨⟨rfl,rfl⟩,rfl,rfl,trivial⟩,
⟨⟨rl,rr⟩,trivial⟩,
⟨(default),trivial,
(by(try dsimp only at *);(have:=rb_m h2 x22;exact decide_eq_false (by omega))),trivial⟩,
fun x31=>fun h32=>⟨⟨⟨(by(try dsimp only at *);(rw[rb_end rfl h27])),
(by(try dsimp only at *);(rw[rb_end rfl h27])),
(by(try dsimp only at *);(rw[rb_end rfl h27])),
⟨rfl,
(by(try dsimp only at *);(rw[rb_end rfl h27]))⟩,rfl,rfl,
⟨rfl,
(by(try dsimp only at *);(rw[rb_end rfl h27]))⟩,
⟨rfl,
(by(try dsimp only at *);(rw[rb_end rfl h27]))⟩,
(by(try dsimp only at *);(rw[rb_end rfl h27])),
(by(try dsimp only at *);(rw[rb_end rfl h27])),trivial⟩,rfl,trivial⟩,
⟨⟨(by(try dsimp only at *);(rw[rb_end rfl h27];exact Nat.le_refl _))⟩,
(by(try dsimp only at *);(rw[rb_end rfl h27];exact rr))⟩,
⟨⟨(by(try dsimp only at *);(rw[rb_end rfl h27];exact Nat.le_refl _))⟩,
(by(try dsimp only at *);(rw[rb_end rfl h27];exact rr))⟩,
⟨⟨(by(try dsimp only at *);(rw[rb_end rfl h27];exact Nat.le_refl _))⟩,
(by(try dsimp only at *);(rw[rb_end rfl h27];exact rr))⟩,trivial⟩⟩⟩⟩⟩⟩⟩⟩)
theorem rb_good:Good Tryz.prog 43 rbC/\FnOk Tryz.prog 43:=good_of tok conRb (fn:=Tryz.f43) rfl (by decide+kernel) (fun _=>rfl) rb_keeps
end Go.Sym