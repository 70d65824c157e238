import Derived.Test.YtfflknhillcblaaDoorX11
import Derived.Test.YtfflknhillcblaaDoorXD
namespace Go.Sym
set_option linter.unusedVariables false
set_option linter.unusedSimpArgs false
open Go.Proofs
set_option maxRecDepth 100000
set_option maxHeartbeats 4000000
structure TKx where
 l:List Int
 n:Int
 m:Int
def tk1C:CT where
 X:=TKx
 pre:=fun x=>x.l.length<=1048576
 args:=fun x=>[.i .i64 x.n,.p 100000 0 0,.p 100001 0 0]
 g0:=fun x=>[(100000,.one .own [.sl 100002 0 x.l.length]),(100002,.rows .own k1 x.l.length (encL encI x.l)),(100001,.one .bor [.i .i64 x.m])]
 res:=fun x=>.b (decide ((x.l.length:Int)+1<x.m))
 g1:=fun x=>[(100000,.one .own [.sl 1 0 (x.l++[x.n]).length]),(100002,.dead),(1,.rows .own k1 (x.l++[x.n]).length (encL encI (x.l++[x.n])))]
set_option maxRecDepth 100000 in
theorem tk1_keeps:Keeps cfgN0 Tryd.f38 tk1C noIv:=Eq.mp (show((∀ x1:TKx,((x1.l.length<=(1048576:Nat))->(((True/\True)/\True)/\((0=0/\((x1.l.length<=x1.l.length)/\(((1:Nat)<=(1:Nat))/\(x1.l.length+(1:Nat)<=(1073741824:Nat)))))/\((decide ((↑(x1.l.length+(1:Nat)):Int)<x1.m)=decide ((x1.l.length:Int)+1<x1.m))/\(((0=0/\(x1.l.length+(1:Nat)=(x1.l++x1.n::@List.nil Int).length))/\True)/\(True/\(((RLe (x1.l++x1.n::@List.nil Int).length (x1.l.length+(1:Nat)))/\(RowsEq [.int .i64] (x1.l++x1.n::@List.nil Int).length (appRows x1.l.length (encL encI x1.l) 0 (litRows ((D.i x1.n::@List.nil D)::@List.nil (List D)))) (encL encI (x1.l++x1.n::@List.nil Int))))/\True)))))))))=(Keeps cfgN0 Tryd.f38 tk1C noIv) by kernel_rfl) (fun x1=>fun h2=>⟨⟨⟨trivial,trivial⟩,trivial⟩,
⟨rfl,
(by omega),
(by omega),
(by omega)⟩,
(by grind),
⟨⟨rfl,
(by grind)⟩,trivial⟩,trivial,
⟨⟨(by grind)⟩,
(by exact push_rowsI)⟩,trivial⟩)
theorem tk1_good:Good Tryd.prog 38 tk1C/\FnOk Tryd.prog 38:=good_of tok conN0 (fn:=Tryd.f38) rfl (by decide+kernel) (fun _=>rfl) tk1_keeps
structure ETx where
 x:LLx
 m:Int
structure ETok (x:ETx):Prop where
 n:x.x.n<=1073741824
 f:∀ j,j<x.x.n->(x.x.f j).length<=1048576
 m:1<=x.m/\x.m<=1000
def tkL (x:ETx) (k:Nat):List Int:=(enumL x.x).take k
def tkF (x:ETx):List Int:=(enumL x.x).take x.m.toNat
def etkC:CT where
 X:=ETx
 pre:=ETok
 args:=fun x=>[.fn 38 [.p 100003 0 0,.p 100004 0 0],.p 100000 0 0,.p 100001 0 0]
 g0:=fun x=>[(100000,.one .bor [.i .i64 x.x.i]),(100001,.one .bor [.sl 100002 0 x.x.n]),(100002,.rows .bor kLL x.x.n (encLL x.x.f)),(100003,.one .own [.ns]),(100004,.one .bor [.i .i64 x.m])]
 res:=fun _=>.tup []
 g1:=fun x=>[(100003,.one .own [.sl 1 0 (tkF x).length]),(1,.rows .own k1 (tkF x).length (encL encI (tkF x)))]
def etkI (x:ETx) (id:Nat):Option Inv:=match id with
 |0=>some { X:=Nat,ok:=fun k=>k<=(enumL x.x).length/\((k:Int)<x.m∨k=0),fr:=fun k=>[(19,.i .i64 k)],hp:=fun k=>[(100003,.one .own [.sl 160 0 (tkL x k).length]),(160,.rows .own k1 (tkL x k).length (encL encI (tkL x k)))],me:=fun k=>(enumL x.x).length-k }
 |_=>none
def cfgEt:Cfg:=⟨T,[],[(38,.one tk1C)],noInv,6,{}⟩
theorem conEt:ConOk Tryd.prog cfgEt:=ConL.ok (.cons (ConL.one tk1_good) .nil)
theorem et_in {x:ETx} (h3:¬ x.x.i<0) (h5:¬ (x.x.n:Int)<=x.x.i):enumL x.x=x.x.f (0+x.x.i.toNat):=by
 unfold enumL;rw[if_pos (by omega),Nat.zero_add]
theorem et_out {x:ETx} (h:x.x.i<0∨(x.x.n:Int)<=x.x.i):tkF x=[]:=by
 unfold tkF enumL;rw[if_neg (by omega),List.take_nil]
theorem et_len {x:ETx} {k:Nat} (h:k<=(enumL x.x).length):(tkL x k).length=k:=by unfold tkL;rw[List.length_take];omega
theorem et_go {x:ETx} (h3:¬ x.x.i<0) (h5:¬ (x.x.n:Int)<=x.x.i) {k:Nat} (hk:(k:Int)<(x.x.f (0+x.x.i.toNat)).length):tkL x k++[(x.x.f (0+x.x.i.toNat)).getD (0+((k:Nat):Int).toNat) default]=tkL x (k+1):=by
 unfold tkL
 rw[et_in h3 h5,nat0,take_succ_getD (d:=default) (by omega)]
theorem et_stop {x:ETx} (h:ETok x) (h3:¬ x.x.i<0) (h5:¬ (x.x.n:Int)<=x.x.i) {k:Nat} (h8:k<=(enumL x.x).length/\((k:Int)<x.m∨k=0)) (hk:(k:Int)<(x.x.f (0+x.x.i.toNat)).length) (hs:¬ ((tkL x k).length:Int)+1<x.m):tkL x k++[(x.x.f (0+x.x.i.toNat)).getD (0+((k:Nat):Int).toNat) default]=tkF x:=by
 have hm:=h.m
 rw[et_len h8.1]at hs
 rw[et_go h3 h5 hk]
 unfold tkL tkF
 rw[show k+1=x.m.toNat by omega]
theorem et_end {x:ETx} (h:ETok x) (h3:¬ x.x.i<0) (h5:¬ (x.x.n:Int)<=x.x.i) {k:Nat} (h8:k<=(enumL x.x).length/\((k:Int)<x.m∨k=0)) (hk:¬ (k:Int)<(x.x.f (0+x.x.i.toNat)).length):tkL x k=tkF x:=by
 have hm:=h.m
 have e:=congrArg List.length (et_in h3 h5)
 unfold tkL tkF
 rw[List.take_of_length_le (by omega),List.take_of_length_le (by omega)]
set_option maxRecDepth 100000 in
theorem etk_keeps:Keeps cfgEt Tryd.f53 etkC etkI:=Eq.mp (show((∀ x1:ETx,((ETok x1)->(((decide (x1.x.i<(0:Int))=false)->(((decide ((x1.x.n:Int)<=x1.x.i)=true)->(True/\(((True/\(0=0/\((tkF x1).length=(0:Nat))))/\True)/\(((tkF x1).length=(0:Nat))/\True))))/\((decide ((x1.x.n:Int)<=x1.x.i)=false)->((((0:Int)<=x1.x.i)/\(x1.x.i<(x1.x.n:Int)))/\((0+Int.toNat x1.x.i<x1.x.n)/\(∃ x6:Nat,((((x6<=(enumL x1.x).length)/\((x6:Int)<x1.m∨x6=(0:Nat)))/\(((0=(x6:Int))/\(((↑(x1.x.f (0+Int.toNat x1.x.i)).length:Int)=(↑(x1.x.f (0+Int.toNat x1.x.i)).length:Int))/\((0=0/\((x1.x.f (0+Int.toNat x1.x.i)).length=(x1.x.f (0+Int.toNat x1.x.i)).length))/\(((0=0/\0=0)/\((0=0/\0=0)/\True))/\((0=0/\0=0)/\((0=0/\0=0)/\True))))))/\(((True/\(0=0/\((tkL x1 x6).length=(0:Nat))))/\True)/\(((tkL x1 x6).length=(0:Nat))/\(((RLe (x1.x.f (0+Int.toNat x1.x.i)).length (x1.x.f (0+Int.toNat x1.x.i)).length)/\(RowsEq [.int .i64] (x1.x.f (0+Int.toNat x1.x.i)).length (D.toF (D.l (x1.x.f (0+Int.toNat x1.x.i)).length (encL encI (x1.x.f (0+Int.toNat x1.x.i))))) (D.toF (D.l (x1.x.f (0+Int.toNat x1.x.i)).length (encL encI (x1.x.f (0+Int.toNat x1.x.i)))))))/\((x1.x.i=x1.x.i/\True)/\(((0=0/\x1.x.n=x1.x.n)/\True)/\(((RLe x1.x.n x1.x.n)/\(RowsEq [.sl [.int .i64]] x1.x.n (encLL x1.x.f) (encLL x1.x.f)))/\((x1.m=x1.m/\True)/\True)))))))))/\(∀ x7:Nat,((x7<=(enumL x1.x).length/\((x7:Int)<x1.m∨x7=(0:Nat)))->(((decide ((x7:Int)<(↑(x1.x.f (0+Int.toNat x1.x.i)).length:Int))=true)->((((0:Int)<=(x7:Int))/\((x7:Int)<(↑(x1.x.f (0+Int.toNat x1.x.i)).length:Int)))/\((0+Int.toNat (x7:Int)<(x1.x.f (0+Int.toNat x1.x.i)).length)/\(∃ x10:TKx,((x10.l.length<=(1048576:Nat))/\((((x1.x.f (0+Int.toNat x1.x.i)).getD (0+Int.toNat (x7:Int)) default=x10.n)/\((0=0/\0=0)/\((0=0/\0=0)/\True)))/\((((0=0/\((tkL x1 x7).length=x10.l.length))/\True)/\(((RLe x10.l.length (tkL x1 x7).length)/\(RI x10.l.length (tkL x1 x7) x10.l))/\((x1.m=x10.m/\True)/\True)))/\((((!decide ((x10.l.length:Int)+1<x10.m))=true)->(True/\(((0=0/\((x10.l++x10.n::@List.nil Int).length=(tkF x1).length))/\True)/\(((RLe (tkF x1).length (x10.l++x10.n::@List.nil Int).length)/\(RowsEq [.int .i64] (tkF x1).length (encL encI (x10.l++x10.n::@List.nil Int)) (encL encI (tkF x1))))/\True))))/\(((!decide ((x10.l.length:Int)+1<x10.m))=false)->((((-9223372036854775808:Int)<=(x7:Int)+1)/\((x7:Int)+1<=(9223372036854775807:Int)))/\(∃ x13:Nat,(((enumL x1.x).length-x13<(enumL x1.x).length-x7)/\(((x13<=(enumL x1.x).length)/\((x13:Int)<x1.m∨x13=(0:Nat)))/\((((x7:Int)+1=(x13:Int))/\(((↑(x1.x.f (0+Int.toNat x1.x.i)).length:Int)=(↑(x1.x.f (0+Int.toNat x1.x.i)).length:Int))/\((0=0/\((x1.x.f (0+Int.toNat x1.x.i)).length=(x1.x.f (0+Int.toNat x1.x.i)).length))/\(((0=0/\0=0)/\((0=0/\0=0)/\True))/\((0=0/\0=0)/\((0=0/\0=0)/\True))))))/\(((0=0/\((x10.l++x10.n::@List.nil Int).length=(tkL x1 x13).length))/\True)/\(((RLe (tkL x1 x13).length (x10.l++x10.n::@List.nil Int).length)/\(RowsEq [.int .i64] (tkL x1 x13).length (encL encI (x10.l++x10.n::@List.nil Int)) (encL encI (tkL x1 x13))))/\(((RLe (x1.x.f (0+Int.toNat x1.x.i)).length (x1.x.f (0+Int.toNat x1.x.i)).length)/\(RowsEq [.int .i64] (x1.x.f (0+Int.toNat x1.x.i)).length (D.toF (D.l (x1.x.f (0+Int.toNat x1.x.i)).length (encL encI (x1.x.f (0+Int.toNat x1.x.i))))) (D.toF (D.l (x1.x.f (0+Int.toNat x1.x.i)).length (encL encI (x1.x.f (0+Int.toNat x1.x.i)))))))/\((x1.x.i=x1.x.i/\True)/\(((0=0/\x1.x.n=x1.x.n)/\True)/\(((RLe x1.x.n x1.x.n)/\(RowsEq [.sl [.int .i64]] x1.x.n (encLL x1.x.f) (encLL x1.x.f)))/\((x1.m=x1.m/\True)/\True)))))))))))))))))))))/\((decide ((x7:Int)<(↑(x1.x.f (0+Int.toNat x1.x.i)).length:Int))=false)->(True/\(((0=0/\((tkL x1 x7).length=(tkF x1).length))/\True)/\(((RLe (tkF x1).length (tkL x1 x7).length)/\(RowsEq [.int .i64] (tkF x1).length (encL encI (tkL x1 x7)) (encL encI (tkF x1))))/\True))))))))))))))/\((decide (x1.x.i<(0:Int))=true)->(True/\(((True/\(0=0/\((tkF x1).length=(0:Nat))))/\True)/\(((tkF x1).length=(0:Nat))/\True))))))))=(Keeps cfgEt Tryd.f53 etkC etkI) by kernel_rfl) (fun x1=>fun h2=>⟨fun g3=>have h3:=dF g3;⟨fun g4=>have h4:=dT g4;⟨trivial,
⟨⟨trivial,rfl,
(by exact congrArg List.length (et_out (.inr ‹_›)))⟩,trivial⟩,
(by exact congrArg List.length (et_out (.inr ‹_›))),trivial⟩,
fun g5=>have h5:=dF g5;⟨⟨(by omega),
(by omega)⟩,
(by omega),
((0:Nat)),
⟨⟨(by(try dsimp only at *);omega),
(by(try dsimp only at *);omega)⟩,
⟨(by(try dsimp only at *);omega),rfl,
⟨rfl,rfl⟩,
⟨⟨rfl,rfl⟩,
⟨rfl,rfl⟩,trivial⟩,
⟨rfl,rfl⟩,
⟨rfl,rfl⟩,trivial⟩,
⟨⟨trivial,rfl,
(by(try dsimp only at *);rfl)⟩,trivial⟩,
(by(try dsimp only at *);rfl),
⟨rl,rr⟩,
⟨rfl,trivial⟩,
⟨⟨rfl,rfl⟩,trivial⟩,
⟨rl,rr⟩,
⟨rfl,trivial⟩,trivial⟩,
fun x7=>fun h8=>⟨fun g9=>have h9:=dT g9;⟨⟨(by(try dsimp only at *);omega),
(by(try dsimp only at *);omega)⟩,
(by(try dsimp only at *);omega),
({ l:=tkL x1 x7,n:=List.getD (LLx.f (ETx.x x1) ((0:Nat)+Int.toNat (LLx.i (ETx.x x1)))) ((0:Nat)+Int.toNat (↑x7:Int)) default,m:=ETx.m x1:TKx }),
(by(try dsimp only at *);(have a:=et_len h8.1;have b:=h2.f (0+x1.x.i.toNat) (by omega);show(tkL x1 x7).length<=1048576;omega)),
⟨rfl,
⟨rfl,rfl⟩,
⟨rfl,rfl⟩,trivial⟩,
⟨⟨⟨rfl,rfl⟩,trivial⟩,
⟨rl,rr⟩,
⟨rfl,trivial⟩,trivial⟩,
fun g11=>have h11:=nT g11;⟨trivial,
⟨⟨rfl,
(by(try dsimp only at *);exact congrArg List.length (et_stop h2 h3 h5 h8 h9 h11))⟩,trivial⟩,
⟨⟨(by(try dsimp only at *);exact Nat.le_of_eq (congrArg List.length (et_stop h2 h3 h5 h8 h9 h11)).symm)⟩,
(by(try dsimp only at *);exact rowsE (et_stop h2 h3 h5 h8 h9 h11))⟩,trivial⟩,
fun g12=>have h12:=nF g12;⟨⟨(by(try dsimp only at *);omega),
(by(try dsimp only at *);(have b:=h2.f (0+x1.x.i.toNat) (by omega);omega))⟩,
(x7+(1:Nat)),
(by(try dsimp only at *);(have e:=congrArg List.length (et_in h3 h5);omega)),
⟨(by(try dsimp only at *);(have e:=congrArg List.length (et_in h3 h5);omega)),
(by(try dsimp only at *);(have a:=et_len h8.1;have h12':((tkL x1 x7).length:Int)+1<x1.m:=h12;omega))⟩,
⟨(by(try dsimp only at *);omega),rfl,
⟨rfl,rfl⟩,
⟨⟨rfl,rfl⟩,
⟨rfl,rfl⟩,trivial⟩,
⟨rfl,rfl⟩,
⟨rfl,rfl⟩,trivial⟩,
⟨⟨rfl,
(by(try dsimp only at *);exact congrArg List.length (et_go h3 h5 h9))⟩,trivial⟩,
⟨⟨(by(try dsimp only at *);exact Nat.le_of_eq (congrArg List.length (et_go h3 h5 h9)).symm)⟩,
(by(try dsimp only at *);exact rowsE (et_go h3 h5 h9))⟩,
⟨rl,rr⟩,
⟨rfl,trivial⟩,
⟨⟨rfl,rfl⟩,trivial⟩,
⟨rl,rr⟩,
⟨rfl,trivial⟩,trivial⟩⟩,
fun g14=>have h14:=dF g14;⟨trivial,
⟨⟨rfl,
(by(try dsimp only at *);((have e:=(et_end h2 h3 h5 h8 h14);first|(rw[e];done)|(rw[e];exact Nat.le_refl _)|(rw[e];exact rr)|(rw[e];exact push_rowsI)|(rw[e,List.length_append];rfl)|(rw[e,List.length_append];exact Nat.le_refl _)|(rw[e];dsimp only;rw[List.length_append];rfl)|(rw[e];dsimp only;rw[List.length_append];exact Nat.le_refl _))))⟩,trivial⟩,
⟨⟨(by(try dsimp only at *);((have e:=(et_end h2 h3 h5 h8 h14);first|(rw[e];done)|(rw[e];exact Nat.le_refl _)|(rw[e];exact rr)|(rw[e];exact push_rowsI)|(rw[e,List.length_append];rfl)|(rw[e,List.length_append];exact Nat.le_refl _)|(rw[e];dsimp only;rw[List.length_append];rfl)|(rw[e];dsimp only;rw[List.length_append];exact Nat.le_refl _))))⟩,
(by(try dsimp only at *);((have e:=(et_end h2 h3 h5 h8 h14);first|(rw[e];done)|(rw[e];exact Nat.le_refl _)|(rw[e];exact rr)|(rw[e];exact push_rowsI)|(rw[e,List.length_append];rfl)|(rw[e,List.length_append];exact Nat.le_refl _)|(rw[e];dsimp only;rw[List.length_append];rfl)|(rw[e];dsimp only;rw[List.length_append];exact Nat.le_refl _))))⟩,trivial⟩⟩⟩⟩,
fun g15=>have h15:=dT g15;⟨trivial,
⟨⟨trivial,rfl,
(by(try dsimp only at *);exact congrArg List.length (et_out (.inl ‹_›)))⟩,trivial⟩,
(by(try dsimp only at *);exact congrArg List.length (et_out (.inl ‹_›))),trivial⟩⟩)
theorem etk_good:Good Tryd.prog 53 etkC/\FnOk Tryd.prog 53:=good_of tok conEt (fn:=Tryd.f53) rfl (by decide+kernel) (fun _=>rfl) etk_keeps
def takeC:CT where
 X:=ETx
 pre:=ETok
 args:=fun x=>[.fn 53 [.p 100000 0 0,.p 100001 0 0],.i .i64 x.m]
 g0:=fun x=>[(100000,.one .bor [.i .i64 x.x.i]),(100001,.one .bor [.sl 100002 0 x.x.n]),(100002,.rows .bor kLL x.x.n (encLL x.x.f))]
 res:=fun x=>.sl 1 0 (tkF x).length
 g1:=fun x=>[(1,.rows .own k1 (tkF x).length (encL encI (tkF x)))]
def cfgTk:Cfg:=⟨T,[],[(53,.one etkC)],noInv,6,{}⟩
theorem conTk:ConOk Tryd.prog cfgTk:=ConL.ok (.cons (ConL.one etk_good) .nil)
set_option maxRecDepth 100000 in
theorem take_keeps:Keeps cfgTk Tryd.f16 takeC noIv:=Eq.mp (show((∀ x1:ETx,((ETok x1)->(∃ x3:ETx,((ETok x3)/\((((0=0/\0=0)/\((0=0/\0=0)/\True))/\((0=0/\0=0)/\((0=0/\0=0)/\True)))/\(((x1.x.i=x3.x.i/\True)/\(((0=0/\x1.x.n=x3.x.n)/\True)/\(((RLe x3.x.n x1.x.n)/\(RowsEq [.sl [.int .i64]] x3.x.n (encLL x1.x.f) (encLL x3.x.f)))/\((True/\True)/\((x1.m=x3.m/\True)/\True)))))/\((0=0/\((tkF x3).length=(tkF x1).length))/\(((RLe (tkF x1).length (tkF x3).length)/\(RowsEq [.int .i64] (tkF x1).length (encL encI (tkF x3)) (encL encI (tkF x1))))/\True)))))))))=(Keeps cfgTk Tryd.f16 takeC noIv) by kernel_rfl) (fun x1=>fun h2=>⟨(x1),
(by(try dsimp only at *);omega),
⟨⟨⟨rfl,rfl⟩,
⟨rfl,rfl⟩,trivial⟩,
⟨rfl,rfl⟩,
⟨rfl,rfl⟩,trivial⟩,
⟨⟨rfl,trivial⟩,
⟨⟨rfl,rfl⟩,trivial⟩,
⟨rl,rr⟩,
⟨trivial,trivial⟩,
⟨rfl,trivial⟩,trivial⟩,
⟨rfl,rfl⟩,
⟨rl,rr⟩,trivial⟩)
theorem take_good:Good Tryd.prog 16 takeC/\FnOk Tryd.prog 16:=good_of tok conTk (fn:=Tryd.f16) rfl (by decide+kernel) (fun _=>rfl) take_keeps
def oLat (es:List Ed) (v:Int) (k:Nat):List Int:=((List.range k).filter fun i=>(es.getD i default).f==v).map fun(i:Nat)=>(i:Int)
def oL (es:List Ed) (v:Int):List Int:=oLat es v es.length
structure OUx where
 es:List Ed
 v:Int
def voutC:CT where
 X:=OUx
 pre:=fun x=>x.es.length<=1048576
 args:=fun x=>[.sl 100000 0 x.es.length,.i .i64 x.v]
 g0:=fun x=>[(100000,.rows .bor kE x.es.length (encL encE x.es))]
 res:=fun x=>.sl 1 0 (oL x.es x.v).length
 g1:=fun x=>[(1,.rows .own k1 (oL x.es x.v).length (encL encI (oL x.es x.v)))]
def voutI (x:OUx) (id:Nat):Option Inv:=match id with
 |0=>some { X:=Nat,ok:=fun k=>k<=x.es.length,fr:=fun k=>[(6,.i .i64 k),(5,.sl 160 0 (oLat x.es x.v k).length)],hp:=fun k=>[(160,.rows .own k1 (oLat x.es x.v k).length (encL encI (oLat x.es x.v k)))],me:=fun k=>x.es.length-k }
 |_=>none
theorem oLat_len (es:List Ed) (v:Int) (k:Nat):(oLat es v k).length<=k:=by
 unfold oLat;rw[List.length_map]
 have:=List.length_filter_le (fun i=>(es.getD i default).f==v) (List.range k);simpa using this
theorem oL_yes {es:List Ed} {v:Int} {k:Nat} (h:(es.getD (0+((k:Nat):Int).toNat) default).f=v):oLat es v (k+1)=oLat es v k++[(k:Int)]:=by
 rw[nat0]at h
 unfold oLat;rw[List.range_succ,List.filter_append,List.filter_cons,if_pos (by rw[h];exact beq_self_eq_true _),List.map_append];rfl
theorem oL_no {es:List Ed} {v:Int} {k:Nat} (h:¬ (es.getD (0+((k:Nat):Int).toNat) default).f=v):oLat es v (k+1)=oLat es v k:=by
 rw[nat0]at h
 unfold oLat;rw[List.range_succ,List.filter_append,List.filter_cons,if_neg (fun q=>h (eq_of_beq q))];simp
theorem oL_end {es:List Ed} {v:Int} {k:Nat} (h1:k<=es.length) (h2:¬ (k:Int)<es.length):oLat es v k=oL es v:=by rw[show k=es.length by omega];rfl
set_option maxRecDepth 100000 in
theorem vout_keeps:Keeps cfgN0 Tryd.f13 voutC voutI:=Eq.mp (show((∀ x1:OUx,((x1.es.length<=(1048576:Nat))->(∃ x3:Nat,(((x3<=x1.es.length)/\(((0=(x3:Int))/\((True/\(0=0/\((oLat x1.es x1.v x3).length=(0:Nat))))/\(True/\((0=0/\x1.es.length=x1.es.length)/\(x1.v=x1.v/\True)))))/\(((oLat x1.es x1.v x3).length=(0:Nat))/\(((RLe x1.es.length x1.es.length)/\(RowsEq [.int .i64,.int .i64,.int .i64] x1.es.length (encL encE x1.es) (encL encE x1.es)))/\True))))/\(∀ x4:Nat,((x4<=x1.es.length)->(((decide ((x4:Int)<(x1.es.length:Int))=true)->((((0:Int)<=(x4:Int))/\((x4:Int)<(x1.es.length:Int)))/\((0+Int.toNat (x4:Int)<x1.es.length)/\(((decide ((x1.es.getD (0+Int.toNat (x4:Int)) default).f=x1.v)=true)->(((True/\True)/\True)/\((0=0/\(((oLat x1.es x1.v x4).length<=(oLat x1.es x1.v x4).length)/\(((1:Nat)<=(1:Nat))/\((oLat x1.es x1.v x4).length+(1:Nat)<=(1073741824:Nat)))))/\((((-9223372036854775808:Int)<=(x4:Int)+1)/\((x4:Int)+1<=(9223372036854775807:Int)))/\(∃ x8:Nat,((x1.es.length-x8<x1.es.length-x4)/\((x8<=x1.es.length)/\((((x4:Int)+1=(x8:Int))/\((0=0/\((oLat x1.es x1.v x4).length+(1:Nat)=(oLat x1.es x1.v x8).length))/\(True/\((0=0/\x1.es.length=x1.es.length)/\(x1.v=x1.v/\True)))))/\(((RLe (oLat x1.es x1.v x8).length ((oLat x1.es x1.v x4).length+(1:Nat)))/\(RowsEq [.int .i64] (oLat x1.es x1.v x8).length (appRows (oLat x1.es x1.v x4).length (encL encI (oLat x1.es x1.v x4)) 0 (litRows ((D.i (x4:Int)::@List.nil D)::@List.nil (List D)))) (encL encI (oLat x1.es x1.v x8))))/\(((RLe x1.es.length x1.es.length)/\(RowsEq [.int .i64,.int .i64,.int .i64] x1.es.length (encL encE x1.es) (encL encE x1.es)))/\True))))))))))/\((decide ((x1.es.getD (0+Int.toNat (x4:Int)) default).f=x1.v)=false)->((((-9223372036854775808:Int)<=(x4:Int)+1)/\((x4:Int)+1<=(9223372036854775807:Int)))/\(∃ x10:Nat,((x1.es.length-x10<x1.es.length-x4)/\((x10<=x1.es.length)/\((((x4:Int)+1=(x10:Int))/\((0=0/\((oLat x1.es x1.v x4).length=(oLat x1.es x1.v x10).length))/\(True/\((0=0/\x1.es.length=x1.es.length)/\(x1.v=x1.v/\True)))))/\(((RLe (oLat x1.es x1.v x10).length (oLat x1.es x1.v x4).length)/\(RowsEq [.int .i64] (oLat x1.es x1.v x10).length (encL encI (oLat x1.es x1.v x4)) (encL encI (oLat x1.es x1.v x10))))/\(((RLe x1.es.length x1.es.length)/\(RowsEq [.int .i64,.int .i64,.int .i64] x1.es.length (encL encE x1.es) (encL encE x1.es)))/\True))))))))))))/\((decide ((x4:Int)<(x1.es.length:Int))=false)->((0=0/\((oLat x1.es x1.v x4).length=(oL x1.es x1.v).length))/\(((RLe (oL x1.es x1.v).length (oLat x1.es x1.v x4).length)/\(RowsEq [.int .i64] (oL x1.es x1.v).length (encL encI (oLat x1.es x1.v x4)) (encL encI (oL x1.es x1.v))))/\True)))))))))))=(Keeps cfgN0 Tryd.f13 voutC voutI) by kernel_rfl) (fun x1=>fun h2=>⟨((0:Nat)),
⟨(by(try dsimp only at *);omega),
⟨(by(try dsimp only at *);omega),
⟨trivial,rfl,
(by(try dsimp only at *);rfl)⟩,trivial,
⟨rfl,rfl⟩,rfl,trivial⟩,
(by(try dsimp only at *);rfl),
⟨rl,rr⟩,trivial⟩,
fun x4=>fun h5=>⟨fun g6=>have h6:=dT g6;⟨⟨(by(try dsimp only at *);omega),
(by(try dsimp only at *);omega)⟩,
(by(try dsimp only at *);omega),
fun g7=>have h7:=dT g7;⟨⟨⟨trivial,trivial⟩,trivial⟩,
⟨rfl,
(by(try dsimp only at *);omega),
(by(try dsimp only at *);omega),
(by(try dsimp only at *);(have:=oLat_len x1.es x1.v x4;omega))⟩,
⟨(by(try dsimp only at *);omega),
(by(try dsimp only at *);omega)⟩,
(x4+(1:Nat)),
(by(try dsimp only at *);omega),
(by(try dsimp only at *);omega),
⟨(by(try dsimp only at *);omega),
⟨rfl,
(by(try dsimp only at *);((have e:=(oL_yes h7);first|(rw[e];done)|(rw[e];exact Nat.le_refl _)|(rw[e];exact rr)|(rw[e];exact push_rowsI)|(rw[e,List.length_append];rfl)|(rw[e,List.length_append];exact Nat.le_refl _)|(rw[e];dsimp only;rw[List.length_append];rfl)|(rw[e];dsimp only;rw[List.length_append];exact Nat.le_refl _))))⟩,trivial,
⟨rfl,rfl⟩,rfl,trivial⟩,
⟨⟨(by(try dsimp only at *);((have e:=(oL_yes h7);first|(rw[e];done)|(rw[e];exact Nat.le_refl _)|(rw[e];exact rr)|(rw[e];exact push_rowsI)|(rw[e,List.length_append];rfl)|(rw[e,List.length_append];exact Nat.le_refl _)|(rw[e];dsimp only;rw[List.length_append];rfl)|(rw[e];dsimp only;rw[List.length_append];exact Nat.le_refl _))))⟩,
(by(try dsimp only at *);((have e:=(oL_yes h7);first|(rw[e];done)|(rw[e];exact Nat.le_refl _)|(rw[e];exact rr)|(rw[e];exact push_rowsI)|(rw[e,List.length_append];rfl)|(rw[e,List.length_append];exact Nat.le_refl _)|(rw[e];dsimp only;rw[List.length_append];rfl)|(rw[e];dsimp only;rw[List.length_append];exact Nat.le_refl _))))⟩,
⟨rl,rr⟩,trivial⟩,
fun g9=>have h9:=dF g9;⟨⟨(by(try dsimp only at *);omega),
(by(try dsimp only at *);omega)⟩,
(x4+(1:Nat)),
(by(try dsimp only at *);omega),
(by(try dsimp only at *);omega),
⟨(by(try dsimp only at *);omega),
⟨rfl,
(by(try dsimp only at *);((have e:=(oL_no h9);first|(rw[e];done)|(rw[e];exact Nat.le_refl _)|(rw[e];exact rr)|(rw[e];exact push_rowsI)|(rw[e,List.length_append];rfl)|(rw[e,List.length_append];exact Nat.le_refl _)|(rw[e];dsimp only;rw[List.length_append];rfl)|(rw[e];dsimp only;rw[List.length_append];exact Nat.le_refl _))))⟩,trivial,
⟨rfl,rfl⟩,rfl,trivial⟩,
⟨⟨(by(try dsimp only at *);((have e:=(oL_no h9);first|(rw[e];done)|(rw[e];exact Nat.le_refl _)|(rw[e];exact rr)|(rw[e];exact push_rowsI)|(rw[e,List.length_append];rfl)|(rw[e,List.length_append];exact Nat.le_refl _)|(rw[e];dsimp only;rw[List.length_append];rfl)|(rw[e];dsimp only;rw[List.length_append];exact Nat.le_refl _))))⟩,
(by(try dsimp only at *);((have e:=(oL_no h9);first|(rw[e];done)|(rw[e];exact Nat.le_refl _)|(rw[e];exact rr)|(rw[e];exact push_rowsI)|(rw[e,List.length_append];rfl)|(rw[e,List.length_append];exact Nat.le_refl _)|(rw[e];dsimp only;rw[List.length_append];rfl)|(rw[e];dsimp only;rw[List.length_append];exact Nat.le_refl _))))⟩,
⟨rl,rr⟩,trivial⟩⟩,
fun g11=>have h11:=dF g11;⟨⟨rfl,
(by(try dsimp only at *);((have e:=(oL_end (es:=x1.es) (v:=x1.v) h5 h11);first|(rw[e];done)|(rw[e];exact Nat.le_refl _)|(rw[e];exact rr)|(rw[e];exact push_rowsI)|(rw[e,List.length_append];rfl)|(rw[e,List.length_append];exact Nat.le_refl _)|(rw[e];dsimp only;rw[List.length_append];rfl)|(rw[e];dsimp only;rw[List.length_append];exact Nat.le_refl _))))⟩,
⟨⟨(by(try dsimp only at *);((have e:=(oL_end (es:=x1.es) (v:=x1.v) h5 h11);first|(rw[e];done)|(rw[e];exact Nat.le_refl _)|(rw[e];exact rr)|(rw[e];exact push_rowsI)|(rw[e,List.length_append];rfl)|(rw[e,List.length_append];exact Nat.le_refl _)|(rw[e];dsimp only;rw[List.length_append];rfl)|(rw[e];dsimp only;rw[List.length_append];exact Nat.le_refl _))))⟩,
(by(try dsimp only at *);((have e:=(oL_end (es:=x1.es) (v:=x1.v) h5 h11);first|(rw[e];done)|(rw[e];exact Nat.le_refl _)|(rw[e];exact rr)|(rw[e];exact push_rowsI)|(rw[e,List.length_append];rfl)|(rw[e,List.length_append];exact Nat.le_refl _)|(rw[e];dsimp only;rw[List.length_append];rfl)|(rw[e];dsimp only;rw[List.length_append];exact Nat.le_refl _))))⟩,trivial⟩⟩⟩)
theorem vout_good:Good Tryd.prog 13 voutC/\FnOk Tryd.prog 13:=good_of tok conN0 (fn:=Tryd.f13) rfl (by decide+kernel) (fun _=>rfl) vout_keeps
def vbackC:CT where
 X:=List Ed
 pre:=fun es=>es.length<=1048576
 args:=fun es=>[.sl 100000 0 es.length]
 g0:=fun es=>[(100000,.rows .bor kE es.length (encL encE es))]
 res:=fun es=>.sl 1 0 es.length
 g1:=fun es=>[(1,.rows .own kE es.length (encL encE (es.map revE)))]
def vbackI (es:List Ed) (id:Nat):Option Inv:=match id with
 |0=>some { X:=Nat,ok:=fun k=>k<=es.length,fr:=fun k=>[(4,.i .i64 k),(3,.sl 160 0 k)],hp:=fun k=>[(160,.rows .own kE k (encL encE ((es.take k).map revE)))],me:=fun k=>es.length-k }
 |_=>none
theorem vb_step {es:List Ed} {k:Nat} (hk:(k:Int)<es.length):RowsEq kE (k+1) (appRows k (encL encE ((es.take k).map revE)) 0 (litRows [[.i (es.getD (0+((k:Nat):Int).toNat) default).t,.i (es.getD (0+((k:Nat):Int).toNat) default).f,.i (es.getD (0+((k:Nat):Int).toNat) default).d]])) (encL encE ((es.take (k+1)).map revE)):=by
 rw[nat0,take_succ_getD (d:=default) (by omega),List.map_append]
 exact rowsEq_push (v:=revE (es.getD k default)) (by rw[List.length_map,List.length_take];omega) (by rw[List.length_map,List.length_take];omega) ⟨rfl,rfl,rfl,trivial⟩
set_option maxRecDepth 100000 in
theorem vback_keeps:Keeps cfgN0 Tryd.f37 vbackC vbackI:=Eq.mp (show((∀ x1:List Ed,((x1.length<=(1048576:Nat))->(∃ x3:Nat,(((x3<=x1.length)/\(((0=(x3:Int))/\((True/\(0=0/\(x3=(0:Nat))))/\(True/\((0=0/\x1.length=x1.length)/\True))))/\((x3=(0:Nat))/\(((RLe x1.length x1.length)/\(RowsEq [.int .i64,.int .i64,.int .i64] x1.length (encL encE x1) (encL encE x1)))/\True))))/\(∀ x4:Nat,((x4<=x1.length)->(((decide ((x4:Int)<(x1.length:Int))=true)->((((0:Int)<=(x4:Int))/\((x4:Int)<(x1.length:Int)))/\((0+Int.toNat (x4:Int)<x1.length)/\((((0:Int)<=(x4:Int))/\((x4:Int)<(x1.length:Int)))/\((0+Int.toNat (x4:Int)<x1.length)/\((((0:Int)<=(x4:Int))/\((x4:Int)<(x1.length:Int)))/\((0+Int.toNat (x4:Int)<x1.length)/\(((True/\(True/\(True/\True)))/\True)/\((0=0/\((x4<=x4)/\(((1:Nat)<=(1:Nat))/\(x4+(1:Nat)<=(1073741824:Nat)))))/\((((-9223372036854775808:Int)<=(x4:Int)+1)/\((x4:Int)+1<=(9223372036854775807:Int)))/\(∃ x7:Nat,((x1.length-x7<x1.length-x4)/\((x7<=x1.length)/\((((x4:Int)+1=(x7:Int))/\((0=0/\(x4+(1:Nat)=x7))/\(True/\((0=0/\x1.length=x1.length)/\True))))/\(((RLe x7 (x4+(1:Nat)))/\(RowsEq [.int .i64,.int .i64,.int .i64] x7 (appRows x4 (encL encE (List.map revE (List.take x4 x1))) 0 (litRows ((D.i (x1.getD (0+Int.toNat (x4:Int)) default).t::D.i (x1.getD (0+Int.toNat (x4:Int)) default).f::D.i (x1.getD (0+Int.toNat (x4:Int)) default).d::@List.nil D)::@List.nil (List D)))) (encL encE (List.map revE (List.take x7 x1)))))/\(((RLe x1.length x1.length)/\(RowsEq [.int .i64,.int .i64,.int .i64] x1.length (encL encE x1) (encL encE x1)))/\True))))))))))))))))/\((decide ((x4:Int)<(x1.length:Int))=false)->((0=0/\x4=x1.length)/\(((RLe x1.length x4)/\(RowsEq [.int .i64,.int .i64,.int .i64] x1.length (encL encE (List.map revE (List.take x4 x1))) (encL encE (List.map revE x1))))/\True)))))))))))=(Keeps cfgN0 Tryd.f37 vbackC vbackI) by kernel_rfl) (fun x1=>fun h2=>⟨((0:Nat)),
⟨(by(try dsimp only at *);omega),
⟨(by(try dsimp only at *);omega),
⟨trivial,rfl,rfl⟩,trivial,
⟨rfl,rfl⟩,trivial⟩,rfl,
⟨rl,rr⟩,trivial⟩,
fun x4=>fun h5=>⟨fun g6=>have h6:=dT g6;⟨⟨(by(try dsimp only at *);omega),
(by(try dsimp only at *);omega)⟩,
(by(try dsimp only at *);omega),
⟨(by(try dsimp only at *);omega),
(by(try dsimp only at *);omega)⟩,
(by(try dsimp only at *);omega),
⟨(by(try dsimp only at *);omega),
(by(try dsimp only at *);omega)⟩,
(by(try dsimp only at *);omega),
⟨⟨trivial,trivial,trivial,trivial⟩,trivial⟩,
⟨rfl,
(by(try dsimp only at *);omega),
(by(try dsimp only at *);omega),
(by(try dsimp only at *);omega)⟩,
⟨(by(try dsimp only at *);omega),
(by(try dsimp only at *);omega)⟩,
(x4+(1:Nat)),
(by(try dsimp only at *);omega),
(by(try dsimp only at *);omega),
⟨(by(try dsimp only at *);omega),
⟨rfl,rfl⟩,trivial,
⟨rfl,rfl⟩,trivial⟩,
⟨rl,
(by(try dsimp only at *);exact vb_step ‹_›)⟩,
⟨rl,rr⟩,trivial⟩,
fun g8=>have h8:=dF g8;⟨⟨rfl,
(by(try dsimp only at *);omega)⟩,
⟨⟨(by(try dsimp only at *);omega)⟩,
(by(try dsimp only at *);(rw[List.take_of_length_le (by omega)];exact rr))⟩,trivial⟩⟩⟩)
theorem vback_good:Good Tryd.prog 37 vbackC/\FnOk Tryd.prog 37:=good_of tok conN0 (fn:=Tryd.f37) rfl (by decide+kernel) (fun _=>rfl) vback_keeps
def vinC:CT where
 X:=OUx
 pre:=fun x=>x.es.length<=1048576
 args:=fun x=>[.sl 100000 0 x.es.length,.i .i64 x.v]
 g0:=fun x=>[(100000,.rows .bor kE x.es.length (encL encE x.es))]
 res:=fun x=>.sl 1 0 (oL (x.es.map revE) x.v).length
 g1:=fun x=>[(1,.rows .own k1 (oL (x.es.map revE) x.v).length (encL encI (oL (x.es.map revE) x.v)))]
def cfgVi:Cfg:=⟨T,[],[(13,.one voutC),(37,.one vbackC)],noInv,6,{}⟩
theorem conVi:ConOk Tryd.prog cfgVi:=ConL.ok (.cons (ConL.one vout_good) (.cons (ConL.one vback_good) .nil))
set_option maxRecDepth 100000 in
theorem vin_keeps:Keeps cfgVi Tryd.f14 vinC noIv:=Eq.mp (show((∀ x1:OUx,((x1.es.length<=(1048576:Nat))->(∃ x3:List Ed,((x3.length<=(1048576:Nat))/\(((0=0/\x1.es.length=x3.length)/\True)/\((((RLe x3.length x1.es.length)/\(RowsEq [.int .i64,.int .i64,.int .i64] x3.length (encL encE x1.es) (encL encE x3)))/\True)/\(∃ x4:OUx,((x4.es.length<=(1048576:Nat))/\(((0=0/\x3.length=x4.es.length)/\(x1.v=x4.v/\True))/\((((RLe x4.es.length x3.length)/\(RowsEq [.int .i64,.int .i64,.int .i64] x4.es.length (encL encE (List.map revE x3)) (encL encE x4.es)))/\True)/\((0=0/\((oL x4.es x4.v).length=(oL (List.map revE x1.es) x1.v).length))/\(((RLe (oL (List.map revE x1.es) x1.v).length (oL x4.es x4.v).length)/\(RowsEq [.int .i64] (oL (List.map revE x1.es) x1.v).length (encL encI (oL x4.es x4.v)) (encL encI (oL (List.map revE x1.es) x1.v))))/\True)))))))))))))=(Keeps cfgVi Tryd.f14 vinC noIv) by kernel_rfl) (fun x1=>fun h2=>⟨(OUx.es x1),
(by(try dsimp only at *);omega),
⟨⟨rfl,rfl⟩,trivial⟩,
⟨⟨rl,rr⟩,trivial⟩,
({ es:=List.map revE (OUx.es x1),v:=OUx.v x1:OUx }),
(by(try dsimp only at *);grind),
⟨⟨rfl,
(by(try dsimp only at *);grind)⟩,rfl,trivial⟩,
⟨⟨⟨(by(try dsimp only at *);grind)⟩,rr⟩,trivial⟩,
⟨rfl,rfl⟩,
⟨rl,rr⟩,trivial⟩)
theorem vin_good:Good Tryd.prog 14 vinC/\FnOk Tryd.prog 14:=good_of tok conVi (fn:=Tryd.f14) rfl (by decide+kernel) (fun _=>rfl) vin_keeps
structure AJx where
 p:NewX
 v:Int
 k:Int
def ajP (x:AJx):Prop:=0<=x.k/\x.k<=255
def lawAj (pre:AJx->Prop):CT:=⟨AJx,pre,fun x=>[nA7 x.p,.i .i64 x.v,.i .u8 x.k],fun x=>nH7 x.p,fun _=>.b true,fun _=>[]⟩
def ajNI (_:AJx) (id:Nat):Option Inv:=match id with
 |100025=>some (cutT 25 true)
 |_=>none
theorem okP_out {Q:Prop} {p:NewX} (h:Q/\okB p=false):¬ ((p.n<=12/\p.es.length<=40)/\errN p=0):=of_decide_eq_false h.2
theorem okP_in {Q:Prop} {p:NewX} (h:Q/\okB p=true):(p.n<=12/\p.es.length<=40)/\errN p=0:=of_decide_eq_true h.2
set_option maxRecDepth 100000 in
theorem aj_no:Keeps cfgMn7 Tryd.f3 (lawAj fun x=>ajP x/\okB x.p=false) ajNI:=Eq.mp (show((∀ x1:AJx,((ajP x1/\okB x1.p=false)->(∃ x3:Unit,(True/\(True/\(True/\((false=true->(false=true/\True))/\(false=false->(∃ x6:NewX,(True/\(((x1.p.n=x6.n/\((0=0/\x1.p.es.length=x6.es.length)/\True))/\True)/\((((RLe x6.es.length x1.p.es.length)/\(RowsEq [.int .i64,.int .i64,.int .i64] x6.es.length (encL encE x1.p.es) (encL encE x6.es)))/\True)/\((∃ x7:NewX,(True/\(((x1.p.n=x7.n/\((0=0/\x1.p.es.length=x7.es.length)/\True))/\True)/\((((RLe x7.es.length x1.p.es.length)/\(RowsEq [.int .i64,.int .i64,.int .i64] x7.es.length (encL encE x1.p.es) (encL encE x7.es)))/\True)/\((((!decide (x7.n<=(12:Int)/\x7.es.length<=(40:Nat)))=false)->(∃ x9:Unit,(True/\(((!decide (errN x6=0))=true)/\True))))/\(((!decide (x7.n<=(12:Int)/\x7.es.length<=(40:Nat)))=true)->(∃ x11:Unit,(True/\(true=true/\True)))))))))/\(∀ x12:Unit,(True->(true=true/\True)))))))))))))))))=(Keeps cfgMn7 Tryd.f3 (lawAj fun x=>ajP x/\okB x.p=false) ajNI) by kernel_rfl) (fun x1=>fun h2=>⟨(default),trivial,trivial,trivial,
fun h4=>⟨(by(try dsimp only at *);omega),trivial⟩,
fun h5=>⟨(AJx.p x1),trivial,
⟨⟨rfl,
⟨rfl,rfl⟩,trivial⟩,trivial⟩,
⟨⟨rl,rr⟩,trivial⟩,
⟨(AJx.p x1),trivial,
⟨⟨rfl,
⟨rfl,rfl⟩,trivial⟩,trivial⟩,
⟨⟨rl,rr⟩,trivial⟩,
fun g8=>have h8:=nF g8;⟨(default),trivial,
(by(try dsimp only at *);(have q:=okP_out h2;rw[decide_eq_false (fun e=>q ⟨‹_›,e⟩)];rfl)),trivial⟩,
fun g10=>have h10:=nT g10;⟨(default),trivial,rfl,trivial⟩⟩,
fun x12=>fun h13=>⟨rfl,trivial⟩⟩⟩)
def AJx.o (x:AJx):List Int:=oL x.p.es x.v
def AJx.i (x:AJx):List Int:=oL (x.p.es.map revE) x.v
def AJx.m (x:AJx):Int:=1+x.k%8
def ajT (x:AJx) (s:Bool) (m:Int):ETx:=⟨⟨x.p.g.n,adjG x.p.g s,x.v⟩,m⟩
def ajYI (_:AJx) (id:Nat):Option Inv:=match id with
 |100025=>some (cutT 25 false)
 |_=>none
def cfgAj:Cfg:=⟨T,[],[(10,.one wkC),(11,.one madeYC),(12,.one smallC),(13,.one voutC),(14,.one vinC),(17,.one (outC true)),(18,.one (outC false)),(16,.one takeC),(15,.one sameC)],noInv,12,{}⟩
theorem conAj:ConOk Tryd.prog cfgAj:=ConL.ok (.cons (ConL.one wk_good) (.cons (ConL.one madeY_good) (.cons (ConL.one small_good) (.cons (ConL.one vout_good) (.cons (ConL.one vin_good) (.cons (ConL.one out_good) (.cons (ConL.one in_good) (.cons (ConL.one take_good) (.cons (ConL.one same_good) .nil)))))))))
theorem aj_gok {x:AJx} (h:ajP x/\okB x.p=true):GOk x.p.g:=(err_g (okP_in h).2).1
theorem aj_m {x:AJx} (h:ajP x/\okB x.p=true):1<=x.m/\x.m<=8:=by unfold AJx.m;omega
theorem aj_tok {x:AJx} (h:ajP x/\okB x.p=true) (s:Bool) {m:Int} (hm:1<=m/\m<=1000):ETok (ajT x s m):=by
 have g:=aj_gok h
 have:=g.n
 refine⟨by show x.p.g.n<=_;omega,fun j _=>?_,hm⟩
 have:=adj_len x.p.es x.p.es.length s j
 have:=(okP_in h).1.2
 show(adj x.p.es x.p.es.length s j).length<=_
 omega
def sel (s:Bool) (es:List Ed):List Ed:=match s with|true=>es|false=>es.map revE
theorem sel_f (s:Bool) (es:List Ed) (i:Nat):((sel s es).getD i default).f=cond s (es.getD i default).f (es.getD i default).t:=by
 cases s
 ·show((es.map revE).getD i default).f=(es.getD i default).t
  rw[List.getD_eq_getElem?_getD,List.getD_eq_getElem?_getD,List.getElem?_map]
  cases es[i]? <;>rfl
 ·rfl
theorem sel_len (s:Bool) (es:List Ed):(sel s es).length=es.length:=by
 cases s
 ·exact List.length_map _
 ·rfl
theorem aj_enum {x:AJx} (h:ajP x/\okB x.p=true) (s:Bool) (m:Int):enumL (ajT x s m).x=oL (sel s x.p.es) x.v:=by
 have g:=aj_gok h
 unfold enumL oL oLat
 rw[sel_len]
 have hf:∀ i,((sel s x.p.es).getD i default).f=cond s (x.p.es.getD i default).f (x.p.es.getD i default).t:=sel_f s _
 simp only[hf]
 show(if 0<=x.v/\x.v<((x.p.g.n:Nat):Int)then adj x.p.es x.p.es.length s x.v.toNat else [])=_
 split
 ·rename_i q
  unfold adj
  rw[show((x.v.toNat:Nat):Int)=x.v by omega]
 ·rename_i q
  rw[List.filter_eq_nil_iff.2]
  ·rfl
  intro i hi hb
  have hi:i<x.p.es.length:=List.mem_range.1 hi
  have hb:=eq_of_beq hb
  have he:=g.e i hi
  change edOk x.p.g.n (x.p.es.getD i default)at he
  obtain⟨a,b,c,d⟩:=he
  cases s
  ·have hb:(x.p.es.getD i default).t=x.v:=hb
   exact q (by omega)
  ·have hb:(x.p.es.getD i default).f=x.v:=hb
   exact q (by omega)
theorem aj_len {x:AJx} (h:ajP x/\okB x.p=true) (s:Bool):(oL (sel s x.p.es) x.v).length<=40:=by
 have:=oLat_len (sel s x.p.es) x.v (sel s x.p.es).length
 have:=sel_len s x.p.es
 have:=(okP_in h).1.2
 unfold oL
 omega
theorem aj_all {x:AJx} (h:ajP x/\okB x.p=true) (s:Bool):tkF (ajT x s 1000)=oL (sel s x.p.es) x.v:=by
 have:=aj_len h s
 unfold tkF
 rw[aj_enum h]
 exact List.take_of_length_le (by show _<=(1000:Int).toNat;omega)
theorem aj_some {x:AJx} (h:ajP x/\okB x.p=true):tkF (ajT x true (1+x.k%8))=(oL x.p.es x.v).take x.m.toNat:=by
 unfold tkF
 rw[aj_enum h];rfl
theorem aj_tlen {x:AJx} (h:ajP x/\okB x.p=true) (s:Bool) (m:Int):(tkF (ajT x s m)).length<=1073741824:=by
 have:=aj_len h s
 unfold tkF
 rw[aj_enum h,List.length_take];omega
theorem rows_take7 {l:List Int} {k n:Nat} (hn:n<=k):RowsEq k1 n (encL encI l) (encL encI (l.take k)):=⟨fun r hr=>rowEq_of_eq (by
 unfold encL
 rw[List.getD_eq_getElem?_getD,List.getD_eq_getElem?_getD,List.getElem?_take,if_pos (Nat.lt_of_lt_of_le hr hn)])⟩
theorem aj_cut {x:AJx} (h:ajP x/\okB x.p=true):(min (1+x.k%8) (((oL x.p.es x.v).length:Nat):Int)).toNat-Int.toNat 0=((oL x.p.es x.v).take x.m.toNat).length:=by
 have:=aj_m h
 rw[List.length_take]
 unfold AJx.m at*
 simp only[Int.toNat_zero,Nat.sub_zero]
 omega
set_option maxRecDepth 100000 in
theorem aj_yes:Keeps cfgAj Tryd.f3 (lawAj fun x=>ajP x/\okB x.p=true) ajYI:=Eq.mp (show((∀ x1:AJx,((ajP x1/\okB x1.p=true)->(∃ x3:Unit,(True/\(True/\(True/\((false=true->(false=true/\True))/\(false=false->(∃ x6:NewX,((errN x6=0)/\(((x1.p.n=x6.n/\((0=0/\x1.p.es.length=x6.es.length)/\True))/\True)/\((((RLe x6.es.length x1.p.es.length)/\(RowsEq [.int .i64,.int .i64,.int .i64] x6.es.length (encL encE x1.p.es) (encL encE x6.es)))/\True)/\((∃ x7:NewX,(True/\(((x1.p.n=x7.n/\((0=0/\x1.p.es.length=x7.es.length)/\True))/\True)/\((((RLe x7.es.length x1.p.es.length)/\(RowsEq [.int .i64,.int .i64,.int .i64] x7.es.length (encL encE x1.p.es) (encL encE x7.es)))/\True)/\((((!decide (x7.n<=(12:Int)/\x7.es.length<=(40:Nat)))=false)->(∃ x9:Unit,(True/\(false=false/\True))))/\(((!decide (x7.n<=(12:Int)/\x7.es.length<=(40:Nat)))=true)->(∃ x11:Unit,(True/\(true=false/\True)))))))))/\(∀ x12:Unit,(True->(∃ x14:OUx,((x14.es.length<=(1048576:Nat))/\(((0=0/\x1.p.es.length=x14.es.length)/\(x1.v=x14.v/\True))/\((((RLe x14.es.length x1.p.es.length)/\(RowsEq [.int .i64,.int .i64,.int .i64] x14.es.length (encL encE x1.p.es) (encL encE x14.es)))/\True)/\(∃ x15:OUx,((x15.es.length<=(1048576:Nat))/\(((0=0/\x1.p.es.length=x15.es.length)/\(x1.v=x15.v/\True))/\((((RLe x15.es.length x1.p.es.length)/\(RowsEq [.int .i64,.int .i64,.int .i64] x15.es.length (encL encE x1.p.es) (encL encE x15.es)))/\True)/\((((-9223372036854775808:Int)<=x1.k)/\(x1.k<=(9223372036854775807:Int)))/\((((0:Int)<=x1.k)/\((0:Int)<8))/\((((-9223372036854775808:Int)<=(1:Int)+x1.k%8)/\((1:Int)+x1.k%8<=(9223372036854775807:Int)))/\(∃ x16:GIx,(True/\(((0=0/\0=0)/\(x1.v=x16.i/\True))/\(((RLe 1 1/\(RowsEq [.sl [.int .i64,.int .i64,.int .i64],.sl [.sl [.int .i64]],.sl [.sl [.int .i64]]] 1 (encG (NewX.g x6)) (encG x16.g)))/\True)/\(∃ x17:ETx,((ETok x17)/\((((0=0/\0=0)/\((0=0/\0=0)/\True))/\(1000=x17.m/\True))/\(((x16.i=x17.x.i/\True)/\(((0=0/\x16.g.n=x17.x.n)/\True)/\(((RLe x17.x.n x16.g.n)/\(RowsEq [.sl [.int .i64]] x17.x.n (encLL (adjG x16.g true)) (encLL x17.x.f)))/\True)))/\(∃ x18:LLX,((x18.a.length<=(1073741824:Nat))/\(((0=0/\((tkF x17).length=x18.a.length))/\((0=0/\((oL x14.es x14.v).length=x18.b.length))/\True))/\((((RLe x18.a.length (tkF x17).length)/\(RI x18.a.length (tkF x17) x18.a))/\(((RLe x18.b.length (oL x14.es x14.v).length)/\(RI x18.b.length (oL x14.es x14.v) x18.b))/\True))/\(((decide (x18.a=x18.b)=true)->(∃ x20:GIx,(True/\(((0=0/\0=0)/\(x1.v=x20.i/\True))/\(((RLe 1 1/\(RowsEq [.sl [.int .i64,.int .i64,.int .i64],.sl [.sl [.int .i64]],.sl [.sl [.int .i64]]] 1 (encG (NewX.g x6)) (encG x20.g)))/\True)/\(∃ x21:ETx,((ETok x21)/\((((0=0/\0=0)/\((0=0/\0=0)/\True))/\(1000=x21.m/\True))/\(((x20.i=x21.x.i/\True)/\(((0=0/\x20.g.n=x21.x.n)/\True)/\(((RLe x21.x.n x20.g.n)/\(RowsEq [.sl [.int .i64]] x21.x.n (encLL (adjG x20.g false)) (encLL x21.x.f)))/\True)))/\(∃ x22:LLX,((x22.a.length<=(1073741824:Nat))/\(((0=0/\((tkF x21).length=x22.a.length))/\((0=0/\((oL (List.map revE x15.es) x15.v).length=x22.b.length))/\True))/\((((RLe x22.a.length (tkF x21).length)/\(RI x22.a.length (tkF x21) x22.a))/\(((RLe x22.b.length (oL (List.map revE x15.es) x15.v).length)/\(RI x22.b.length (oL (List.map revE x15.es) x15.v) x22.b))/\True))/\(((decide (x22.a=x22.b)=true)->(∃ x24:GIx,(True/\(((0=0/\0=0)/\(x1.v=x24.i/\True))/\(((RLe 1 1/\(RowsEq [.sl [.int .i64,.int .i64,.int .i64],.sl [.sl [.int .i64]],.sl [.sl [.int .i64]]] 1 (encG (NewX.g x6)) (encG x24.g)))/\True)/\(∃ x25:ETx,((ETok x25)/\((((0=0/\0=0)/\((0=0/\0=0)/\True))/\(((1:Int)+x1.k%8=x25.m)/\True))/\(((x24.i=x25.x.i/\True)/\(((0=0/\x24.g.n=x25.x.n)/\True)/\(((RLe x25.x.n x24.g.n)/\(RowsEq [.sl [.int .i64]] x25.x.n (encLL (adjG x24.g true)) (encLL x25.x.f)))/\True)))/\((((0:Int)<=(0:Int))/\(((0:Int)<=min ((1:Int)+x1.k%8) (↑(oL x14.es x14.v).length:Int))/\(min ((1:Int)+x1.k%8) (↑(oL x14.es x14.v).length:Int)<=(↑(oL x14.es x14.v).length:Int))))/\(∃ x26:LLX,((x26.a.length<=(1073741824:Nat))/\(((0=0/\((tkF x25).length=x26.a.length))/\(((0+Int.toNat (0:Int)=(0:Nat))/\(Int.toNat (min ((1:Int)+x1.k%8) (↑(oL x14.es x14.v).length:Int))-Int.toNat 0=x26.b.length))/\True))/\((((RLe x26.a.length (tkF x25).length)/\(RI x26.a.length (tkF x25) x26.a))/\(((RLe x26.b.length (oL x14.es x14.v).length)/\(RI x26.b.length (oL x14.es x14.v) x26.b))/\True))/\((decide (x26.a=x26.b)=true)/\True)))))))))))))))/\((decide (x22.a=x22.b)=false)->(false=true/\True))))))))))))))))/\((decide (x18.a=x18.b)=false)->(false=true/\True))))))))))))))))))))))))))))))))))))))))))=(Keeps cfgAj Tryd.f3 (lawAj fun x=>ajP x/\okB x.p=true) ajYI) by kernel_rfl) (fun x1=>fun h2=>⟨(default),
 trivial,trivial,trivial,
fun h4=>⟨(by(try dsimp only at *);omega),trivial⟩,
fun h5=>⟨(AJx.p x1),
(by(try dsimp only at *);exact(okP_in h2).2),
⟨⟨rfl,
⟨rfl,rfl⟩,trivial⟩,trivial⟩,
⟨⟨rl,rr⟩,trivial⟩,
⟨(AJx.p x1),trivial,
⟨⟨rfl,
⟨rfl,rfl⟩,trivial⟩,trivial⟩,
⟨⟨rl,rr⟩,trivial⟩,
fun g8=>have h8:=nF g8;⟨(default),trivial,rfl,trivial⟩,
fun g10=>have h10:=nT g10;⟨(default),trivial,
(by(try dsimp only at *);exact absurd (okP_in h2).1 ‹_›),trivial⟩⟩,
fun x12=>fun h13=>⟨({ es:=NewX.es (AJx.p x1),v:=AJx.v x1:OUx }),
(by(try dsimp only at *);(have:=(okP_in h2).1.2;show x1.p.es.length<=1048576;omega)),
⟨⟨rfl,rfl⟩,rfl,trivial⟩,
⟨⟨rl,rr⟩,trivial⟩,
({ es:=NewX.es (AJx.p x1),v:=AJx.v x1:OUx }),
(by(try dsimp only at *);(have:=(okP_in h2).1.2;show x1.p.es.length<=1048576;omega)),
⟨⟨rfl,rfl⟩,rfl,trivial⟩,
⟨⟨rl,rr⟩,trivial⟩,
⟨(by(try dsimp only at *);(have:=h2.1.1;have:=h2.1.2;omega)),
(by(try dsimp only at *);(have:=h2.1.1;have:=h2.1.2;omega))⟩,
⟨(by(try dsimp only at *);(have:=h2.1.1;have:=h2.1.2;omega)),
(by(try dsimp only at *);omega)⟩,
⟨(by(try dsimp only at *);omega),
(by(try dsimp only at *);omega)⟩,
({ g:=NewX.g (AJx.p x1),i:=AJx.v x1:GIx }),trivial,
⟨⟨rfl,rfl⟩,rfl,trivial⟩,
⟨⟨rl,rr⟩,trivial⟩,
({ x:={ n:=Gr.n (NewX.g (AJx.p x1)),f:=adjG (NewX.g (AJx.p x1)) true,i:=AJx.v x1:LLx },m:=(1000:Int):ETx }),
(by(try dsimp only at *);exact aj_tok h2 _ (by decide)),
⟨⟨⟨rfl,rfl⟩,
⟨rfl,rfl⟩,trivial⟩,rfl,trivial⟩,
⟨⟨rfl,trivial⟩,
⟨⟨rfl,rfl⟩,trivial⟩,
⟨rl,rr⟩,trivial⟩,
({ a:=tkF { x:={ n:=Gr.n (NewX.g (AJx.p x1)),f:=adjG (NewX.g (AJx.p x1)) true,i:=AJx.v x1:LLx },m:=(1000:Int):ETx },b:=oL (NewX.es (AJx.p x1)) (AJx.v x1):LLX }),
(by(try dsimp only at *);exact aj_tlen h2 _ _),
⟨⟨rfl,rfl⟩,
⟨rfl,rfl⟩,trivial⟩,
⟨⟨rl,rr⟩,
⟨rl,rr⟩,trivial⟩,
fun g19=>have h19:=dT g19;⟨({ g:=NewX.g (AJx.p x1),i:=AJx.v x1:GIx }),trivial,
⟨⟨rfl,rfl⟩,rfl,trivial⟩,
⟨⟨rl,rr⟩,trivial⟩,
({ x:={ n:=Gr.n (NewX.g (AJx.p x1)),f:=adjG (NewX.g (AJx.p x1)) false,i:=AJx.v x1:LLx },m:=(1000:Int):ETx }),
(by(try dsimp only at *);exact aj_tok h2 _ (by decide)),
⟨⟨⟨rfl,rfl⟩,
⟨rfl,rfl⟩,trivial⟩,rfl,trivial⟩,
⟨⟨rfl,trivial⟩,
⟨⟨rfl,rfl⟩,trivial⟩,
⟨rl,rr⟩,trivial⟩,
({ a:=tkF { x:={ n:=Gr.n (NewX.g (AJx.p x1)),f:=adjG (NewX.g (AJx.p x1)) false,i:=AJx.v x1:LLx },m:=(1000:Int):ETx },b:=oL (List.map revE (NewX.es (AJx.p x1))) (AJx.v x1):LLX }),
(by(try dsimp only at *);exact aj_tlen h2 _ _),
⟨⟨rfl,rfl⟩,
⟨rfl,rfl⟩,trivial⟩,
⟨⟨rl,rr⟩,
⟨rl,rr⟩,trivial⟩,
fun g23=>have h23:=dT g23;⟨({ g:=NewX.g (AJx.p x1),i:=AJx.v x1:GIx }),trivial,
⟨⟨rfl,rfl⟩,rfl,trivial⟩,
⟨⟨rl,rr⟩,trivial⟩,
({ x:={ n:=Gr.n (NewX.g (AJx.p x1)),f:=adjG (NewX.g (AJx.p x1)) true,i:=AJx.v x1:LLx },m:=(1:Int)+AJx.k x1%(8:Int):ETx }),
(by(try dsimp only at *);exact aj_tok h2 _ (by have:=aj_m h2;unfold AJx.m at this;omega)),
⟨⟨⟨rfl,rfl⟩,
⟨rfl,rfl⟩,trivial⟩,rfl,trivial⟩,
⟨⟨rfl,trivial⟩,
⟨⟨rfl,rfl⟩,trivial⟩,
⟨rl,rr⟩,trivial⟩,
⟨(by(try dsimp only at *);omega),
(by(try dsimp only at *);omega),
(by(try dsimp only at *);omega)⟩,
({ a:=tkF (ajT x1 true ((1:Int)+AJx.k x1%(8:Int))),b:=List.take (Int.toNat (AJx.m x1)) (oL (NewX.es (AJx.p x1)) (AJx.v x1)):LLX }),
(by(try dsimp only at *);exact aj_tlen h2 _ _),
⟨⟨rfl,
(by(try dsimp only at *);rfl)⟩,
⟨(by(try dsimp only at *);omega),
(by(try dsimp only at *);exact aj_cut h2)⟩,trivial⟩,
⟨⟨⟨(by(try dsimp only at *);exact Nat.le_refl _)⟩,
(by(try dsimp only at *);exact rr)⟩,
⟨⟨(by(try dsimp only at *);grind)⟩,
(by(try dsimp only at *);exact rows_take7 (by show(List.take _ _).length<=_;rw[List.length_take];exact Nat.min_le_left _ _))⟩,trivial⟩,
(by(try dsimp only at *);exact decide_eq_true (aj_some h2)),trivial⟩,
fun g27=>have h27:=dF g27;⟨(by(try dsimp only at *);exact absurd (aj_all h2 false) ‹_›),trivial⟩⟩,
fun g28=>have h28:=dF g28;⟨(by(try dsimp only at *);exact absurd (aj_all h2 true) ‹_›),trivial⟩⟩⟩⟩)
theorem ajN_good:Good Tryd.prog 3 (lawAj fun x=>ajP x/\okB x.p=false)/\FnOk Tryd.prog 3:=good_of tok conMn7 (fn:=Tryd.f3) rfl (by decide+kernel) (fun _=>rfl) aj_no
theorem ajY_good:Good Tryd.prog 3 (lawAj fun x=>ajP x/\okB x.p=true)/\FnOk Tryd.prog 3:=good_of tok conAj (fn:=Tryd.f3) rfl (by decide+kernel) (fun _=>rfl) aj_yes
theorem aj_good7:Good Tryd.prog 3 (lawAj ajP):=both_b (X:=AJx) (pre:=ajP) (t:=fun x:AJx=>okB x.p) ajY_good.1 ajN_good.1
end Go.Sym