import Derived.Test.YtlldhkhmhgcpaaaDoorPN
import Derived.Test.YtlldhkhmhgcpaaaDoorQ8
import Derived.Test.YtlldhkhmhgcpaaaDoorNT
import Derived.Test.YtlldhkhmhgcpaaaDoorXD
namespace Go.Sym
set_option linter.unusedVariables false
set_option linter.unusedSimpArgs false
open Go.Proofs
set_option maxRecDepth 100000
set_option maxHeartbeats 4000000
structure LlX where
 c:CaX
 of:List Int
 m:Int
def llA (x:LlX):List SV:=[caseA x.c,.sl 100003 0 x.of.length,.i .u8 x.m]
def llH (x:LlX):List (Nat × Blk):=caseH x.c++[(100003,.rows .bor k1 x.of.length (encL encI x.of))]
def llW (x:LlX):List Nat:=ofW x.of x.of.length
def llP (x:LlX):PlX:=⟨x.c.g,x.c.ts,x.c.us,llW x,x.m%4⟩
def llB (x:LlX) (n:Nat):BWX:=⟨x.c.g,x.c.ts,llW x,n⟩
def llC (b:Bool):CT:=⟨LlX,fun x=>((0<=x.m/\x.m<=255)/\x.of.length<=9223372036854775807)/\netOk x.c=b,llA,llH,fun _=>.b true,fun _=>[]⟩
def CLl (b:CT):List (Nat × Con):=[(6,.one wakesC),(12,.one b),(13,.one ofLC),(14,.one plC),(15,.one cboundC)]
def cfgLl:Cfg:=⟨T,[],CLl netYesC,noInv,60,{ kn:=true }⟩
def cfgLn:Cfg:=⟨T,[],CLl netNoC,noInv,60,{ kn:=true }⟩
theorem conL1 {b:CT} (h:Good Tryd.prog 12 b/\FnOk Tryd.prog 12):ConL Tryd.prog (CLl b):=.cons (ConL.one wakes_good) (.cons (ConL.one h) (.cons (ConL.one ofL_good) (.cons (ConL.one pl_good) (.cons (ConL.one cbound_good) .nil))))
theorem conLl:ConOk Tryd.prog cfgLl:=ConL.ok (conL1 netYes_good)
theorem conLn:ConOk Tryd.prog cfgLn:=ConL.ok (conL1 netNo_good)
def llI (x:LlX) (id:Nat):Option Inv:=match id with
 |0=>some { X:=Nat,ok:=fun k=>k<=x.c.us.length,fr:=fun k=>[(12,.i .i64 (freeAt x.c.us k).length),(47,.i .i64 k),(46,.i .i64 x.c.us.length)],hp:=fun k=>[],me:=fun k=>x.c.us.length-k }
 |_=>none
theorem ll_n {x:LlX} (h:netOk x.c=true):PlOk (llP x):=by
 obtain⟨h1,h2,h3,h4,h5⟩:=net_gok h
 exact⟨h1,h2,by show x.c.us.length<=12;omega,ofW_ok _ _⟩
theorem ll_b {x:LlX} (h:netOk x.c=true) (n:Nat):BWok (llB x n):=by
 obtain⟨h1,h2,h3,h4,h5⟩:=net_gok h
 exact⟨h1,h2,ofW_ok _ _⟩
theorem ll_min {x:LlX} (h:netOk x.c=true) {k:Nat} (hk:k<=x.c.us.length) (h1:¬ (k:Int)<x.c.us.length) (h2:¬ resE (llP x)≠0) (h3:¬ 4<((freeAt x.c.us k).length:Int)):(boundW (llB x (freeAt x.c.us k).length)).1<=(resB (llP x)).worst:=by
 obtain⟨hg,hn,_,_,_⟩:=net_gok h
 rw[free_end hk h1]at h3 ⊢
 have h2:resE (llP x)=0:=Decidable.not_not.1 h2
 have e:resB (llP x)=bstP (llP x):=by
  unfold resE at h2
  unfold resB
  split at h2
  ·cases h2
  ·split at h2
   ·cases h2
   ·rename_i a b
    rw[if_neg (fun q=>q.elim a b)]
 obtain⟨_,nd,hl,hw⟩:=bst_att (llP x)
 rw[fr_free]at hl
 have hl:nd.length=(freeL x.c.us).length:=hl
 rw[e,hw]
 have ht:(srP (llP x)).tg=nodesL x.c.g.n x.of:=elems_min (n:=x.c.g.n) (ofW_ok _ _) (by omega)
 rw[wait_is (x:=srP (llP x)) hg (fun v hv=>by rw[ht]at hv;exact nodesL_mem hv),ht]
 show _<=(worstR x.c.g x.c.ts nd x.of).1
 unfold llB llW
 rw[bound_same hg hn]
 unfold boundR
 rw[if_neg (by show ¬ (((freeL x.c.us).length:Int)<0∨4<((freeL x.c.us).length:Int));omega)]
 by_cases h0:(freeL x.c.us).length=0
 ·rw[if_pos (show(((freeL x.c.us).length:Nat):Int)=0 by omega)]
  have:nd=[]:=List.length_eq_zero_iff.1 (by omega)
  rw[this];exact Int.le_refl _
 ·rw[if_neg (show ¬ (((freeL x.c.us).length:Nat):Int)=0 by omega)]
  show(putR x.c.g x.c.ts x.of ((freeL x.c.us).length:Int).toNat [] 0).1<=_
  rw[show((freeL x.c.us).length:Int).toNat=nd.length by omega]
  exact bound_min hg x.c.ts x.of nd
theorem ll_y {us:List Un} {k:Nat} (h:(k:Int)<us.length) (h1:(us.getD (0+(k:Int).toNat) default).st=1):((freeAt us k).length:Int)+1=(freeAt us (k+1)).length:=by
 rw[nat0]at h1
 rw[free_yes h h1,List.length_append];rfl
theorem ll_z {us:List Un} {k:Nat} (h:(k:Int)<us.length) (h1:¬ (us.getD (0+(k:Int).toNat) default).st=1):((freeAt us k).length:Int)=(freeAt us (k+1)).length:=by
 rw[nat0]at h1
 rw[free_no h h1]
set_option maxRecDepth 100000 in
theorem ll_no:Keeps cfgLn Tryd.f5 (llC false) noIv:=Eq.mp (show((∀ x1:LlX,(((((0:Int)<=x1.m/\x1.m<=(255:Int))/\x1.of.length<=(9223372036854775807:Nat))/\netOk x1.c=false)->(∃ x3:Unit,(True/\(True/\(True/\((false=true->(false=true/\True))/\(false=false->(∃ x6:CaX,((netOk x6=false)/\(((x1.c.n=x6.n/\((0=0/\x1.c.es.length=x6.es.length)/\((0=0/\x1.c.ts.length=x6.ts.length)/\((0=0/\x1.c.us.length=x6.us.length)/\True))))/\True)/\((((RLe x6.es.length x1.c.es.length)/\(RowsEq [.int .i64,.int .i64,.int .i64] x6.es.length (encL encE x1.c.es) (encL encE x6.es)))/\(((RLe x6.ts.length x1.c.ts.length)/\(RI x6.ts.length x1.c.ts x6.ts))/\(((RLe x6.us.length x1.c.us.length)/\(RowsEq [.int .i64,.int .i64,.int .i64,.int .i64,.int .i64,.int .i64,.int .i64,.int .i64,.int .i64,.int .i64] x6.us.length (encL encU x1.c.us) (encL encU x6.us)))/\True)))/\(∃ x7:List Int,((x7.length<=(9223372036854775807:Nat))/\(((0=0/\x1.of.length=x7.length)/\True)/\((((RLe x7.length x1.of.length)/\(RI x7.length x1.of x7))/\True)/\(true=true/\True))))))))))))))))))=(Keeps cfgLn Tryd.f5 (llC false) noIv) by kernel_rfl) (fun x1=>fun h2=>⟨(default),trivial,trivial,trivial,
fun h4=>⟨(by(try dsimp only at *);omega),trivial⟩,
fun h5=>⟨(LlX.c x1),
(by(try dsimp only at *);grind),
⟨⟨rfl,
⟨rfl,rfl⟩,
⟨rfl,rfl⟩,
⟨rfl,rfl⟩,trivial⟩,trivial⟩,
⟨⟨rl,rr⟩,
⟨rl,rr⟩,
⟨rl,rr⟩,trivial⟩,
(LlX.of x1),
(by(try dsimp only at *);omega),
⟨⟨rfl,rfl⟩,trivial⟩,
⟨⟨rl,rr⟩,trivial⟩,rfl,trivial⟩⟩)
set_option maxRecDepth 100000 in
theorem ll_yes:Keeps cfgLl Tryd.f5 (llC true) llI:=Eq.mp (show((∀ x1:LlX,(((((0:Int)<=x1.m/\x1.m<=(255:Int))/\x1.of.length<=(9223372036854775807:Nat))/\netOk x1.c=true)->(∃ x3:Unit,(True/\(True/\(True/\((false=true->(false=true/\True))/\(false=false->(∃ x6:CaX,((netOk x6=true)/\(((x1.c.n=x6.n/\((0=0/\x1.c.es.length=x6.es.length)/\((0=0/\x1.c.ts.length=x6.ts.length)/\((0=0/\x1.c.us.length=x6.us.length)/\True))))/\True)/\((((RLe x6.es.length x1.c.es.length)/\(RowsEq [.int .i64,.int .i64,.int .i64] x6.es.length (encL encE x1.c.es) (encL encE x6.es)))/\(((RLe x6.ts.length x1.c.ts.length)/\(RI x6.ts.length x1.c.ts x6.ts))/\(((RLe x6.us.length x1.c.us.length)/\(RowsEq [.int .i64,.int .i64,.int .i64,.int .i64,.int .i64,.int .i64,.int .i64,.int .i64,.int .i64,.int .i64] x6.us.length (encL encU x1.c.us) (encL encU x6.us)))/\True)))/\(∃ x7:List Int,((x7.length<=(9223372036854775807:Nat))/\(((0=0/\x1.of.length=x7.length)/\True)/\((((RLe x7.length x1.of.length)/\(RI x7.length x1.of x7))/\True)/\(((decide (40<(x1.of.length:Int))=true)->(true=true/\True))/\((decide (40<(x1.of.length:Int))=false)->((((-9223372036854775808:Int)<=x1.m)/\(x1.m<=(9223372036854775807:Int)))/\((((0:Int)<=x1.m)/\((0:Int)<4))/\(∃ x10:PlX,((PlOk x10)/\(((0=0/\0=0)/\((0=0/\x1.c.ts.length=x10.ts.length)/\((0=0/\x1.c.us.length=x10.us.length)/\(((szW (ofW x7 x7.length)=szW x10.ws)/\True)/\((x1.m%4=x10.max)/\True)))))/\(((RLe 1 1/\(RowsEq [.sl [.int .i64,.int .i64,.int .i64],.sl [.sl [.int .i64]],.sl [.sl [.int .i64]]] 1 (encG (CaX.g x6)) (encG x10.g)))/\(((RLe x10.ts.length x1.c.ts.length)/\(RI x10.ts.length x1.c.ts x10.ts))/\(((RLe x10.us.length x1.c.us.length)/\(RowsEq [.int .i64,.int .i64,.int .i64,.int .i64,.int .i64,.int .i64,.int .i64,.int .i64,.int .i64,.int .i64] x10.us.length (encL encU x1.c.us) (encL encU x10.us)))/\(((RLe (szW x10.ws) (szW (ofW x7 x7.length)))/\(RowsEq [.int .u64] (szW x10.ws) (encL encW (ofW x7 x7.length)) (encL encW x10.ws)))/\True))))/\(∃ x11:Nat,(((x11<=x1.c.us.length)/\(((0=(↑(freeAt x1.c.us x11).length:Int))/\((0=(x11:Int))/\(((x1.c.us.length:Int)=(x1.c.us.length:Int))/\((0=0/\x1.c.us.length=x1.c.us.length)/\((0=0/\((3:Nat)=(3:Nat)))/\((resE x10=resE x10)/\(((resB x10).worst=(resB x10).worst)/\((0=0/\((resB x10).best.length=(resB x10).best.length))/\((resE x10=resE x10)/\(((resB x10).worst=(resB x10).worst)/\((0=0/\((resB x10).best.length=(resB x10).best.length))/\(((0=0/\((resB x10).best.length=(resB x10).best.length))/\(((resB x10).worst=(resB x10).worst)/\((resE x10=resE x10)/\True)))/\(((0=0/\((resB x10).best.length=(resB x10).best.length))/\(((resB x10).worst=(resB x10).worst)/\((resE x10=resE x10)/\True)))/\((x1.m%4=x1.m%4)/\(x1.m=x1.m/\(x1.m=x1.m/\(((szW (ofW x7 x7.length)=szW (ofW x7 x7.length))/\True)/\((0=0/\x1.c.us.length=x1.c.us.length)/\((0=0/\((3:Nat)=(3:Nat)))/\((0=0/\x1.c.ts.length=x1.c.ts.length)/\((0=0/\((2:Nat)=(2:Nat)))/\((0=0/\0=0)/\(false=false/\((decide (40<(x1.of.length:Int))=decide (40<(x1.of.length:Int)))/\(((x1.of.length:Int)=(x1.of.length:Int))/\((0=0/\x1.of.length=x1.of.length)/\(false=false/\(false=false/\((0=0/\0=0)/\((0=0/\0=0)/\(((szW (ofW x7 x7.length)=szW (ofW x7 x7.length))/\True)/\((0=0/\x1.of.length=x1.of.length)/\((0=0/\0=0)/\((0=0/\0=0)/\((x1.c.n=x1.c.n/\((0=0/\x1.c.es.length=x1.c.es.length)/\((0=0/\x1.c.ts.length=x1.c.ts.length)/\((0=0/\x1.c.us.length=x1.c.us.length)/\True))))/\(false=false/\(true=true/\(false=false/\((0=0/\0=0)/\((x1.c.n=x1.c.n/\((0=0/\x1.c.es.length=x1.c.es.length)/\((0=0/\x1.c.ts.length=x1.c.ts.length)/\((0=0/\x1.c.us.length=x1.c.us.length)/\True))))/\((0=0/\x1.of.length=x1.of.length)/\(x1.m=x1.m/\True))))))))))))))))))))))))))))))))))))))))))/\(((RLe (resB x10).best.length (resB x10).best.length)/\(RowsEq [.int .i64,.int .i64] (resB x10).best.length (encL encM (resB x10).best) (encL encM (resB x10).best)))/\(((szW (ofW x7 x7.length)=szW (ofW x7 x7.length))/\True)/\(((RLe (szW (ofW x7 x7.length)) (szW (ofW x7 x7.length)))/\(RowsEq [.int .u64] (szW (ofW x7 x7.length)) (encL encW (ofW x7 x7.length)) (encL encW (ofW x7 x7.length))))/\((RLe 1 1/\(RowsEq [.sl [.int .i64,.int .i64,.int .i64],.sl [.sl [.int .i64]],.sl [.sl [.int .i64]]] 1 (encG (CaX.g x6)) (encG (CaX.g x6))))/\((x1.c.n=x1.c.n/\((0=0/\x1.c.es.length=x1.c.es.length)/\((0=0/\x1.c.ts.length=x1.c.ts.length)/\((0=0/\x1.c.us.length=x1.c.us.length)/\True))))/\(((RLe x1.c.es.length x1.c.es.length)/\(RowsEq [.int .i64,.int .i64,.int .i64] x1.c.es.length (encL encE x1.c.es) (encL encE x1.c.es)))/\(((RLe x1.c.ts.length x1.c.ts.length)/\(RI x1.c.ts.length x1.c.ts x1.c.ts))/\(((RLe x1.c.us.length x1.c.us.length)/\(RowsEq [.int .i64,.int .i64,.int .i64,.int .i64,.int .i64,.int .i64,.int .i64,.int .i64,.int .i64,.int .i64] x1.c.us.length (encL encU x1.c.us) (encL encU x1.c.us)))/\(((RLe x1.of.length x1.of.length)/\(RI x1.of.length x1.of x1.of))/\True)))))))))))/\(∀ x12:Nat,((x12<=x1.c.us.length)->(((decide ((x12:Int)<(x1.c.us.length:Int))=true)->((((0:Int)<=(x12:Int))/\((x12:Int)<(x1.c.us.length:Int)))/\((0+Int.toNat (x12:Int)<x1.c.us.length)/\(((decide ((x1.c.us.getD (0+Int.toNat (x12:Int)) default).st=(1:Int))=true)->((((-9223372036854775808:Int)<=(↑(freeAt x1.c.us x12).length:Int)+1)/\((↑(freeAt x1.c.us x12).length:Int)+1<=(9223372036854775807:Int)))/\((((-9223372036854775808:Int)<=(x12:Int)+1)/\((x12:Int)+1<=(9223372036854775807:Int)))/\(∃ x16:Nat,((x1.c.us.length-x16<x1.c.us.length-x12)/\((x16<=x1.c.us.length)/\((((↑(freeAt x1.c.us x12).length:Int)+1=(↑(freeAt x1.c.us x16).length:Int))/\(((x12:Int)+1=(x16:Int))/\(((x1.c.us.length:Int)=(x1.c.us.length:Int))/\((0=0/\x1.c.us.length=x1.c.us.length)/\((0=0/\((3:Nat)=(3:Nat)))/\((resE x10=resE x10)/\(((resB x10).worst=(resB x10).worst)/\((0=0/\((resB x10).best.length=(resB x10).best.length))/\((resE x10=resE x10)/\(((resB x10).worst=(resB x10).worst)/\((0=0/\((resB x10).best.length=(resB x10).best.length))/\(((0=0/\((resB x10).best.length=(resB x10).best.length))/\(((resB x10).worst=(resB x10).worst)/\((resE x10=resE x10)/\True)))/\(((0=0/\((resB x10).best.length=(resB x10).best.length))/\(((resB x10).worst=(resB x10).worst)/\((resE x10=resE x10)/\True)))/\((x1.m%4=x1.m%4)/\(x1.m=x1.m/\(x1.m=x1.m/\(((szW (ofW x7 x7.length)=szW (ofW x7 x7.length))/\True)/\((0=0/\x1.c.us.length=x1.c.us.length)/\((0=0/\((3:Nat)=(3:Nat)))/\((0=0/\x1.c.ts.length=x1.c.ts.length)/\((0=0/\((2:Nat)=(2:Nat)))/\((0=0/\0=0)/\(false=false/\((decide (40<(x1.of.length:Int))=decide (40<(x1.of.length:Int)))/\(((x1.of.length:Int)=(x1.of.length:Int))/\((0=0/\x1.of.length=x1.of.length)/\(false=false/\(false=false/\((0=0/\0=0)/\((0=0/\0=0)/\(((szW (ofW x7 x7.length)=szW (ofW x7 x7.length))/\True)/\((0=0/\x1.of.length=x1.of.length)/\((0=0/\0=0)/\((0=0/\0=0)/\((x1.c.n=x1.c.n/\((0=0/\x1.c.es.length=x1.c.es.length)/\((0=0/\x1.c.ts.length=x1.c.ts.length)/\((0=0/\x1.c.us.length=x1.c.us.length)/\True))))/\(false=false/\(true=true/\(false=false/\((0=0/\0=0)/\((x1.c.n=x1.c.n/\((0=0/\x1.c.es.length=x1.c.es.length)/\((0=0/\x1.c.ts.length=x1.c.ts.length)/\((0=0/\x1.c.us.length=x1.c.us.length)/\True))))/\((0=0/\x1.of.length=x1.of.length)/\(x1.m=x1.m/\True))))))))))))))))))))))))))))))))))))))))))/\(((RLe (resB x10).best.length (resB x10).best.length)/\(RowsEq [.int .i64,.int .i64] (resB x10).best.length (encL encM (resB x10).best) (encL encM (resB x10).best)))/\(((szW (ofW x7 x7.length)=szW (ofW x7 x7.length))/\True)/\(((RLe (szW (ofW x7 x7.length)) (szW (ofW x7 x7.length)))/\(RowsEq [.int .u64] (szW (ofW x7 x7.length)) (encL encW (ofW x7 x7.length)) (encL encW (ofW x7 x7.length))))/\((RLe 1 1/\(RowsEq [.sl [.int .i64,.int .i64,.int .i64],.sl [.sl [.int .i64]],.sl [.sl [.int .i64]]] 1 (encG (CaX.g x6)) (encG (CaX.g x6))))/\((x1.c.n=x1.c.n/\((0=0/\x1.c.es.length=x1.c.es.length)/\((0=0/\x1.c.ts.length=x1.c.ts.length)/\((0=0/\x1.c.us.length=x1.c.us.length)/\True))))/\(((RLe x1.c.es.length x1.c.es.length)/\(RowsEq [.int .i64,.int .i64,.int .i64] x1.c.es.length (encL encE x1.c.es) (encL encE x1.c.es)))/\(((RLe x1.c.ts.length x1.c.ts.length)/\(RI x1.c.ts.length x1.c.ts x1.c.ts))/\(((RLe x1.c.us.length x1.c.us.length)/\(RowsEq [.int .i64,.int .i64,.int .i64,.int .i64,.int .i64,.int .i64,.int .i64,.int .i64,.int .i64,.int .i64] x1.c.us.length (encL encU x1.c.us) (encL encU x1.c.us)))/\(((RLe x1.of.length x1.of.length)/\(RI x1.of.length x1.of x1.of))/\True))))))))))))))))/\((decide ((x1.c.us.getD (0+Int.toNat (x12:Int)) default).st=(1:Int))=false)->((((-9223372036854775808:Int)<=(x12:Int)+1)/\((x12:Int)+1<=(9223372036854775807:Int)))/\(∃ x18:Nat,((x1.c.us.length-x18<x1.c.us.length-x12)/\((x18<=x1.c.us.length)/\((((↑(freeAt x1.c.us x12).length:Int)=(↑(freeAt x1.c.us x18).length:Int))/\(((x12:Int)+1=(x18:Int))/\(((x1.c.us.length:Int)=(x1.c.us.length:Int))/\((0=0/\x1.c.us.length=x1.c.us.length)/\((0=0/\((3:Nat)=(3:Nat)))/\((resE x10=resE x10)/\(((resB x10).worst=(resB x10).worst)/\((0=0/\((resB x10).best.length=(resB x10).best.length))/\((resE x10=resE x10)/\(((resB x10).worst=(resB x10).worst)/\((0=0/\((resB x10).best.length=(resB x10).best.length))/\(((0=0/\((resB x10).best.length=(resB x10).best.length))/\(((resB x10).worst=(resB x10).worst)/\((resE x10=resE x10)/\True)))/\(((0=0/\((resB x10).best.length=(resB x10).best.length))/\(((resB x10).worst=(resB x10).worst)/\((resE x10=resE x10)/\True)))/\((x1.m%4=x1.m%4)/\(x1.m=x1.m/\(x1.m=x1.m/\(((szW (ofW x7 x7.length)=szW (ofW x7 x7.length))/\True)/\((0=0/\x1.c.us.length=x1.c.us.length)/\((0=0/\((3:Nat)=(3:Nat)))/\((0=0/\x1.c.ts.length=x1.c.ts.length)/\((0=0/\((2:Nat)=(2:Nat)))/\((0=0/\0=0)/\(false=false/\((decide (40<(x1.of.length:Int))=decide (40<(x1.of.length:Int)))/\(((x1.of.length:Int)=(x1.of.length:Int))/\((0=0/\x1.of.length=x1.of.length)/\(false=false/\(false=false/\((0=0/\0=0)/\((0=0/\0=0)/\(((szW (ofW x7 x7.length)=szW (ofW x7 x7.length))/\True)/\((0=0/\x1.of.length=x1.of.length)/\((0=0/\0=0)/\((0=0/\0=0)/\((x1.c.n=x1.c.n/\((0=0/\x1.c.es.length=x1.c.es.length)/\((0=0/\x1.c.ts.length=x1.c.ts.length)/\((0=0/\x1.c.us.length=x1.c.us.length)/\True))))/\(false=false/\(true=true/\(false=false/\((0=0/\0=0)/\((x1.c.n=x1.c.n/\((0=0/\x1.c.es.length=x1.c.es.length)/\((0=0/\x1.c.ts.length=x1.c.ts.length)/\((0=0/\x1.c.us.length=x1.c.us.length)/\True))))/\((0=0/\x1.of.length=x1.of.length)/\(x1.m=x1.m/\True))))))))))))))))))))))))))))))))))))))))))/\(((RLe (resB x10).best.length (resB x10).best.length)/\(RowsEq [.int .i64,.int .i64] (resB x10).best.length (encL encM (resB x10).best) (encL encM (resB x10).best)))/\(((szW (ofW x7 x7.length)=szW (ofW x7 x7.length))/\True)/\(((RLe (szW (ofW x7 x7.length)) (szW (ofW x7 x7.length)))/\(RowsEq [.int .u64] (szW (ofW x7 x7.length)) (encL encW (ofW x7 x7.length)) (encL encW (ofW x7 x7.length))))/\((RLe 1 1/\(RowsEq [.sl [.int .i64,.int .i64,.int .i64],.sl [.sl [.int .i64]],.sl [.sl [.int .i64]]] 1 (encG (CaX.g x6)) (encG (CaX.g x6))))/\((x1.c.n=x1.c.n/\((0=0/\x1.c.es.length=x1.c.es.length)/\((0=0/\x1.c.ts.length=x1.c.ts.length)/\((0=0/\x1.c.us.length=x1.c.us.length)/\True))))/\(((RLe x1.c.es.length x1.c.es.length)/\(RowsEq [.int .i64,.int .i64,.int .i64] x1.c.es.length (encL encE x1.c.es) (encL encE x1.c.es)))/\(((RLe x1.c.ts.length x1.c.ts.length)/\(RI x1.c.ts.length x1.c.ts x1.c.ts))/\(((RLe x1.c.us.length x1.c.us.length)/\(RowsEq [.int .i64,.int .i64,.int .i64,.int .i64,.int .i64,.int .i64,.int .i64,.int .i64,.int .i64,.int .i64] x1.c.us.length (encL encU x1.c.us) (encL encU x1.c.us)))/\(((RLe x1.of.length x1.of.length)/\(RI x1.of.length x1.of x1.of))/\True)))))))))))))))))))/\((decide ((x12:Int)<(x1.c.us.length:Int))=false)->(((decide (resE x10≠(0:Int))=false)->(((decide (4<(↑(freeAt x1.c.us x12).length:Int))=true)->(true=true/\True))/\((decide (4<(↑(freeAt x1.c.us x12).length:Int))=false)->(∃ x23:BWX,((BWok x23)/\(((0=0/\0=0)/\((0=0/\x1.c.ts.length=x23.ts.length)/\(((szW (ofW x7 x7.length)=szW x23.ws)/\True)/\(((↑(freeAt x1.c.us x12).length:Int)=x23.u)/\True))))/\(((RLe 1 1/\(RowsEq [.sl [.int .i64,.int .i64,.int .i64],.sl [.sl [.int .i64]],.sl [.sl [.int .i64]]] 1 (encG (CaX.g x6)) (encG x23.g)))/\(((RLe x23.ts.length x1.c.ts.length)/\(RI x23.ts.length x1.c.ts x23.ts))/\(((RLe (szW x23.ws) (szW (ofW x7 x7.length)))/\(RowsEq [.int .u64] (szW x23.ws) (encL encW (ofW x7 x7.length)) (encL encW x23.ws)))/\True)))/\((decide (Prod.fst (boundW x23)<=(resB x10).worst)=true)/\True))))))))/\((decide (resE x10≠(0:Int))=true)->(true=true/\True))))))))))))))))))))))))))))))))))=(Keeps cfgLl Tryd.f5 (llC true) llI) by kernel_rfl) (fun x1=>fun h2=>⟨(default),
 trivial,trivial,trivial,
fun h4=>⟨(by(try dsimp only at *);omega),trivial⟩,
fun h5=>⟨(LlX.c x1),
(by(try dsimp only at *);grind),
⟨⟨rfl,
⟨rfl,rfl⟩,
⟨rfl,rfl⟩,
⟨rfl,rfl⟩,trivial⟩,trivial⟩,
⟨⟨rl,rr⟩,
⟨rl,rr⟩,
⟨rl,rr⟩,trivial⟩,
(LlX.of x1),
(by(try dsimp only at *);omega),
⟨⟨rfl,rfl⟩,trivial⟩,
⟨⟨rl,rr⟩,trivial⟩,
fun g8=>have h8:=dT g8;⟨rfl,trivial⟩,
fun g9=>have h9:=dF g9;⟨⟨(by(try dsimp only at *);omega),
(by(try dsimp only at *);omega)⟩,
⟨(by(try dsimp only at *);omega),
(by(try dsimp only at *);omega)⟩,
(llP x1),
(by(try dsimp only at *);exact ll_n h2.2),
⟨⟨rfl,rfl⟩,
⟨rfl,
(by(try dsimp only at *);rfl)⟩,
⟨rfl,
(by(try dsimp only at *);rfl)⟩,
⟨(by(try dsimp only at *);rfl),trivial⟩,
(by(try dsimp only at *);rfl),trivial⟩,
⟨⟨rl,
(by(try dsimp only at *);exact rr)⟩,
⟨⟨(by(try dsimp only at *);exact Nat.le_refl _)⟩,
(by(try dsimp only at *);exact rr)⟩,
⟨⟨(by(try dsimp only at *);exact Nat.le_refl _)⟩,
(by(try dsimp only at *);exact rr)⟩,
⟨⟨(by(try dsimp only at *);exact Nat.le_refl _)⟩,
(by(try dsimp only at *);exact rr)⟩,trivial⟩,
((0:Nat)),
⟨(by(try dsimp only at *);omega),
⟨(by(try dsimp only at *);rfl),
(by(try dsimp only at *);omega),rfl,
⟨rfl,rfl⟩,
⟨rfl,rfl⟩,rfl,rfl,
⟨rfl,rfl⟩,rfl,rfl,
⟨rfl,rfl⟩,
⟨⟨rfl,rfl⟩,rfl,rfl,trivial⟩,
⟨⟨rfl,rfl⟩,rfl,rfl,trivial⟩,rfl,rfl,rfl,
⟨rfl,trivial⟩,
⟨rfl,rfl⟩,
⟨rfl,rfl⟩,
⟨rfl,rfl⟩,
⟨rfl,rfl⟩,
⟨rfl,rfl⟩,rfl,rfl,rfl,
⟨rfl,rfl⟩,rfl,rfl,
⟨rfl,rfl⟩,
⟨rfl,rfl⟩,
⟨rfl,trivial⟩,
⟨rfl,rfl⟩,
⟨rfl,rfl⟩,
⟨rfl,rfl⟩,
⟨rfl,
⟨rfl,rfl⟩,
⟨rfl,rfl⟩,
⟨rfl,rfl⟩,trivial⟩,rfl,rfl,rfl,
⟨rfl,rfl⟩,
⟨rfl,
⟨rfl,rfl⟩,
⟨rfl,rfl⟩,
⟨rfl,rfl⟩,trivial⟩,
⟨rfl,rfl⟩,rfl,trivial⟩,
⟨rl,rr⟩,
⟨rfl,trivial⟩,
⟨rl,rr⟩,
⟨rl,rr⟩,
⟨rfl,
⟨rfl,rfl⟩,
⟨rfl,rfl⟩,
⟨rfl,rfl⟩,trivial⟩,
⟨rl,rr⟩,
⟨rl,rr⟩,
⟨rl,rr⟩,
⟨rl,rr⟩,trivial⟩,
fun x12=>fun h13=>⟨fun g14=>have h14:=dT g14;⟨⟨(by(try dsimp only at *);omega),
(by(try dsimp only at *);omega)⟩,
(by(try dsimp only at *);omega),
fun g15=>have h15:=dT g15;⟨⟨(by(try dsimp only at *);omega),
(by(try dsimp only at *);(have:=freeAt_len (k:=x12) (net_gok h2.2).2.2.2.2;omega))⟩,
⟨(by(try dsimp only at *);omega),
(by(try dsimp only at *);(have:=(net_gok h2.2).2.2.2.2;omega))⟩,
(x12+(1:Nat)),
(by(try dsimp only at *);omega),
(by(try dsimp only at *);omega),
⟨(by(try dsimp only at *);exact ll_y h14 h15),
(by(try dsimp only at *);omega),rfl,
⟨rfl,rfl⟩,
⟨rfl,rfl⟩,rfl,rfl,
⟨rfl,rfl⟩,rfl,rfl,
⟨rfl,rfl⟩,
⟨⟨rfl,rfl⟩,rfl,rfl,trivial⟩,
⟨⟨rfl,rfl⟩,rfl,rfl,trivial⟩,rfl,rfl,rfl,
⟨rfl,trivial⟩,
⟨rfl,rfl⟩,
⟨rfl,rfl⟩,
⟨rfl,rfl⟩,
⟨rfl,rfl⟩,
⟨rfl,rfl⟩,rfl,rfl,rfl,
⟨rfl,rfl⟩,rfl,rfl,
⟨rfl,rfl⟩,
⟨rfl,rfl⟩,
⟨rfl,trivial⟩,
⟨rfl,rfl⟩,
⟨rfl,rfl⟩,
⟨rfl,rfl⟩,
⟨rfl,
⟨rfl,rfl⟩,
⟨rfl,rfl⟩,
⟨rfl,rfl⟩,trivial⟩,rfl,rfl,rfl,
⟨rfl,rfl⟩,
⟨rfl,
⟨rfl,rfl⟩,
⟨rfl,rfl⟩,
⟨rfl,rfl⟩,trivial⟩,
⟨rfl,rfl⟩,rfl,trivial⟩,
⟨rl,rr⟩,
⟨rfl,trivial⟩,
⟨rl,rr⟩,
⟨rl,rr⟩,
⟨rfl,
⟨rfl,rfl⟩,
⟨rfl,rfl⟩,
⟨rfl,rfl⟩,trivial⟩,
⟨rl,rr⟩,
⟨rl,rr⟩,
⟨rl,rr⟩,
⟨rl,rr⟩,trivial⟩,
fun g17=>have h17:=dF g17;⟨⟨(by(try dsimp only at *);omega),
(by(try dsimp only at *);(have:=(net_gok h2.2).2.2.2.2;omega))⟩,
(x12+(1:Nat)),
(by(try dsimp only at *);omega),
(by(try dsimp only at *);omega),
⟨(by(try dsimp only at *);exact ll_z h14 h17),
(by(try dsimp only at *);omega),rfl,
⟨rfl,rfl⟩,
⟨rfl,rfl⟩,rfl,rfl,
⟨rfl,rfl⟩,rfl,rfl,
⟨rfl,rfl⟩,
⟨⟨rfl,rfl⟩,rfl,rfl,trivial⟩,
⟨⟨rfl,rfl⟩,rfl,rfl,trivial⟩,rfl,rfl,rfl,
⟨rfl,trivial⟩,
⟨rfl,rfl⟩,
⟨rfl,rfl⟩,
⟨rfl,rfl⟩,
⟨rfl,rfl⟩,
⟨rfl,rfl⟩,rfl,rfl,rfl,
⟨rfl,rfl⟩,rfl,rfl,
⟨rfl,rfl⟩,
⟨rfl,rfl⟩,
⟨rfl,trivial⟩,
⟨rfl,rfl⟩,
⟨rfl,rfl⟩,
⟨rfl,rfl⟩,
⟨rfl,
⟨rfl,rfl⟩,
⟨rfl,rfl⟩,
⟨rfl,rfl⟩,trivial⟩,rfl,rfl,rfl,
⟨rfl,rfl⟩,
⟨rfl,
⟨rfl,rfl⟩,
⟨rfl,rfl⟩,
⟨rfl,rfl⟩,trivial⟩,
⟨rfl,rfl⟩,rfl,trivial⟩,
⟨rl,rr⟩,
⟨rfl,trivial⟩,
⟨rl,rr⟩,
⟨rl,rr⟩,
⟨rfl,
⟨rfl,rfl⟩,
⟨rfl,rfl⟩,
⟨rfl,rfl⟩,trivial⟩,
⟨rl,rr⟩,
⟨rl,rr⟩,
⟨rl,rr⟩,
⟨rl,rr⟩,trivial⟩⟩,
fun g19=>have h19:=dF g19;⟨fun g20=>have h20:=dF g20;⟨fun g21=>have h21:=dT g21;⟨rfl,trivial⟩,
fun g22=>have h22:=dF g22;⟨({ g:=CaX.g (LlX.c x1),ts:=CaX.ts (LlX.c x1),ws:=ofW (LlX.of x1) (List.length (LlX.of x1)),u:=(↑(List.length (freeAt (CaX.us (LlX.c x1)) x12)):Int):BWX }),
(by(try dsimp only at *);exact ll_b h2.2 _),
⟨⟨rfl,rfl⟩,
⟨rfl,rfl⟩,
⟨rfl,trivial⟩,rfl,trivial⟩,
⟨⟨rl,rr⟩,
⟨rl,rr⟩,
⟨rl,rr⟩,trivial⟩,
(by(try dsimp only at *);exact decide_eq_true (ll_min h2.2 h13 h19 h20 h22)),trivial⟩⟩,
fun g24=>have h24:=dT g24;⟨rfl,trivial⟩⟩⟩⟩⟩⟩)
theorem ll_good:Good Tryd.prog 5 ⟨LlX,fun x=>(0<=x.m/\x.m<=255)/\x.of.length<=9223372036854775807,llA,llH,fun _=>.b true,fun _=>[]⟩/\FnOk Tryd.prog 5:=
 ⟨both_b (b:=fun x:LlX=>netOk x.c) (good_of tok conLl (fn:=Tryd.f5) rfl (by decide+kernel) (fun _=>rfl) ll_yes).1 (good_of tok conLn (fn:=Tryd.f5) rfl (by decide+kernel) (fun _=>rfl) ll_no).1,Tryd.f5,rfl,by decide+kernel,rfl⟩
end Go.Sym