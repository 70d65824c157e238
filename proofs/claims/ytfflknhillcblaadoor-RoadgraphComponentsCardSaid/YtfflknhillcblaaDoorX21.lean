import Derived.Test.YtfflknhillcblaaDoorX20
import Derived.Test.YtfflknhillcblaaDoorX10
import Derived.Test.YtfflknhillcblaaDoorXD
namespace Go.Sym
set_option linter.unusedVariables false
set_option linter.unusedSimpArgs false
open Go.Proofs
set_option maxRecDepth 100000
set_option maxHeartbeats 4000000
def lawCm (b:Bool):CT:=⟨NewX,fun x=>True/\okB x=b,fun x=>[nA7 x],fun x=>nH7 x,fun _=>.b true,fun _=>[]⟩
def cmNI (_:NewX) (id:Nat):Option Inv:=match id with
 |100024=>some (cutT 24 true)
 |_=>none
set_option maxRecDepth 100000 in
theorem cm_no:Keeps cfgMn7 Tryd.f5 (lawCm false) cmNI:=Eq.mp (show((∀ x1:NewX,((True/\okB x1=false)->(∃ x3:Unit,(True/\(True/\(True/\((false=true->(false=true/\True))/\(false=false->(∃ x6:NewX,(True/\(((x1.n=x6.n/\((0=0/\x1.es.length=x6.es.length)/\True))/\True)/\((((RLe x6.es.length x1.es.length)/\(RowsEq [.int .i64,.int .i64,.int .i64] x6.es.length (encL encE x1.es) (encL encE x6.es)))/\True)/\((∃ x7:NewX,(True/\(((x1.n=x7.n/\((0=0/\x1.es.length=x7.es.length)/\True))/\True)/\((((RLe x7.es.length x1.es.length)/\(RowsEq [.int .i64,.int .i64,.int .i64] x7.es.length (encL encE x1.es) (encL encE x7.es)))/\True)/\((((!decide (x7.n<=(12:Int)/\x7.es.length<=(40:Nat)))=false)->(∃ x9:Unit,(True/\(((!decide (errN x6=0))=true)/\True))))/\(((!decide (x7.n<=(12:Int)/\x7.es.length<=(40:Nat)))=true)->(∃ x11:Unit,(True/\(true=true/\True)))))))))/\(∀ x12:Unit,(True->(true=true/\True)))))))))))))))))=(Keeps cfgMn7 Tryd.f5 (lawCm false) cmNI) by kernel_rfl) (fun x1=>fun h2=>⟨(default),trivial,trivial,trivial,
fun h4=>⟨(by(try dsimp only at *);omega),trivial⟩,
fun h5=>⟨(x1),trivial,
⟨⟨rfl,
⟨rfl,rfl⟩,trivial⟩,trivial⟩,
⟨⟨rl,rr⟩,trivial⟩,
⟨(x1),trivial,
⟨⟨rfl,
⟨rfl,rfl⟩,trivial⟩,trivial⟩,
⟨⟨rl,rr⟩,trivial⟩,
fun g8=>have h8:=nF g8;⟨(default),trivial,
(by(try dsimp only at *);(have q:=ok_out h2;rw[decide_eq_false (fun e=>q ⟨‹_›,e⟩)];rfl)),trivial⟩,
fun g10=>have h10:=nT g10;⟨(default),trivial,rfl,trivial⟩⟩,
fun x12=>fun h13=>⟨rfl,trivial⟩⟩⟩)
def cmYI (x:NewX) (id:Nat):Option Inv:=match id with
 |100024=>some (cutT 24 false)
 |0=>some { X:=Nat,ok:=fun k=>k<=(compsL x.g).length,fr:=fun k=>[(39,.i .i64 k),(7,.i .i64 (sumC x.g k)),(8,.p 8 0 0)],hp:=fun k=>[(8,.one .own [.q 80 (szW (alC x.g k))]),(80,.rows .bor kW (szW (alC x.g k)) (encL encW (alC x.g k)))],me:=fun k=>(compsL x.g).length-k }
 |_=>none
def cfgCm7:Cfg:=⟨T,[],[(10,.one wkC),(11,.one madeYC),(12,.one smallC),(24,.one coC),(25,.one paC),(21,.one listC),(15,.one sameC),(26,.one lenC),(27,.one unC)],noInv,11,{}⟩
theorem conCm7:ConOk Tryd.prog cfgCm7:=ConL.ok (.cons (ConL.one wk_good) (.cons (ConL.one madeY_good) (.cons (ConL.one small_good) (.cons (ConL.one co_good) (.cons (ConL.one pa_good) (.cons (ConL.one list_good) (.cons (ConL.one same_good) (.cons (ConL.one len_good) (.cons (ConL.one un_good) .nil)))))))))
theorem cm_p {p:NewX} (h:True/\okB p=true):P12 p.g:=⟨ok_g h,(ok_in h).1.2⟩
theorem cm_n {p:NewX} (h:True/\okB p=true):p.n=(p.g.n:Int):=by have:=(err_g (ok_in h).2).2.2;omega
theorem cm_len {p:NewX} (h:True/\okB p=true):(compsL p.g).length=(partsL p.g).length:=by
 rw[<- comps_parts (cm_p h)];exact(List.length_map _).symm
theorem cm_in {p:NewX} {k:Nat} (hk:(k:Int)<(compsL p.g).length):(compsL p.g).getD (0+(k:Int).toNat) default∈compsL p.g:=by
 rw[nat0,List.getD_eq_getElem?_getD,List.getElem?_eq_getElem (by omega)];exact List.getElem_mem _
theorem cm_at {p:NewX} (h:True/\okB p=true) {k:Nat} (hk:(k:Int)<(compsL p.g).length):elemsZ ((compsL p.g).getD (0+(k:Int).toNat) default)=(partsL p.g).getD (0+(k:Int).toNat) default:=by
 rw[<- comps_parts (cm_p h),nat0]
 unfold compsZ
 have hk:k<(compsL p.g).length:=by omega
 rw[List.getD_eq_getElem?_getD,List.getD_eq_getElem?_getD,List.getElem?_map,List.getElem?_eq_getElem hk];rfl
theorem cm_rng {p:NewX} (h:True/\okB p=true) {k:Nat} (hk:k<=(compsL p.g).length) (w:List Nat): -9223372036854775808<=sumC p.g k+lenW w/\sumC p.g k+lenW w<=9223372036854775807:=by
 have a:=sumC_rng (g:=p.g) hk
 have b:=compsL_len (ok_g h)
 have c:=lenW_rng w
 omega
theorem cm_end {p:NewX} (h:True/\okB p=true) {k:Nat} (hk:k<=(compsL p.g).length) (hn:¬ (k:Int)<(compsL p.g).length):sumC p.g k=p.n/\lenW (alC p.g k)=p.n:=by
 obtain rfl:k=(compsL p.g).length:=by omega
 rw[cm_n h]
 exact⟨len_sum (ok_g h),len_all (ok_g h)⟩
set_option maxRecDepth 100000 in
theorem cm_yes:Keeps cfgCm7 Tryd.f5 (lawCm true) cmYI:=Eq.mp (show((∀ x1:NewX,((True/\okB x1=true)->(∃ x3:Unit,(True/\(True/\(True/\((false=true->(false=true/\True))/\(false=false->(∃ x6:NewX,((errN x6=0)/\(((x1.n=x6.n/\((0=0/\x1.es.length=x6.es.length)/\True))/\True)/\((((RLe x6.es.length x1.es.length)/\(RowsEq [.int .i64,.int .i64,.int .i64] x6.es.length (encL encE x1.es) (encL encE x6.es)))/\True)/\((∃ x7:NewX,(True/\(((x1.n=x7.n/\((0=0/\x1.es.length=x7.es.length)/\True))/\True)/\((((RLe x7.es.length x1.es.length)/\(RowsEq [.int .i64,.int .i64,.int .i64] x7.es.length (encL encE x1.es) (encL encE x7.es)))/\True)/\((((!decide (x7.n<=(12:Int)/\x7.es.length<=(40:Nat)))=false)->(∃ x9:Unit,(True/\(false=false/\True))))/\(((!decide (x7.n<=(12:Int)/\x7.es.length<=(40:Nat)))=true)->(∃ x11:Unit,(True/\(true=false/\True)))))))))/\(∀ x12:Unit,(True->(∃ x14:Gr,((G12 x14)/\(((0=0/\0=0)/\True)/\(((RLe 1 1/\(RowsEq [.sl [.int .i64,.int .i64,.int .i64],.sl [.sl [.int .i64]],.sl [.sl [.int .i64]]] 1 (encG (NewX.g x6)) (encG x14)))/\True)/\(∃ x15:Gr,((P12 x15)/\(((x1.n=(x15.n:Int))/\((0=0/\x1.es.length=x15.es.length)/\True))/\((((RLe x15.es.length x1.es.length)/\(RowsEq [.int .i64,.int .i64,.int .i64] x15.es.length (encL encE x1.es) (encL encE x15.es)))/\True)/\(((decide ((↑(compsL x14).length:Int)≠(↑(partsL x15).length:Int))=true)->(false=true/\True))/\((decide ((↑(compsL x14).length:Int)≠(↑(partsL x15).length:Int))=false)->(∃ x18:Nat,(((x18<=(compsL (NewX.g x1)).length)/\(((0=(x18:Int))/\(((0:Int)=sumC (NewX.g x1) x18)/\((0=0/\0=0)/\(((↑(compsL x14).length:Int)=(↑(compsL x14).length:Int))/\((0=0/\((compsL x14).length=(compsL x14).length))/\((0=0/\((partsL x15).length=(partsL x15).length))/\((0=0/\((compsL x14).length=(compsL x14).length))/\(true=true/\((0=0/\0=0)/\((0=0/\0=0)/\((x1.n=x1.n/\((0=0/\x1.es.length=x1.es.length)/\True))/\True)))))))))))/\(((szW (alC (NewX.g x1) x18)=(0:Nat))/\True)/\((szW (alC (NewX.g x1) x18)=(0:Nat))/\(((RLe (partsL x15).length (partsL x15).length)/\(RowsEq [.sl [.int .i64]] (partsL x15).length (encL encLI (partsL x15)) (encL encLI (partsL x15))))/\(((RLe (compsL x14).length (compsL x14).length)/\(RowsEq (Kd.pt 64 [.int .u64]::[]) (compsL x14).length (encL encSt (compsL x14)) (encL encSt (compsL x14))))/\((RLe 1 1/\(RowsEq [.sl [.int .i64,.int .i64,.int .i64],.sl [.sl [.int .i64]],.sl [.sl [.int .i64]]] 1 (encG (NewX.g x6)) (encG (NewX.g x6))))/\((x1.n=x1.n/\((0=0/\x1.es.length=x1.es.length)/\True))/\(((RLe x1.es.length x1.es.length)/\(RowsEq [.int .i64,.int .i64,.int .i64] x1.es.length (encL encE x1.es) (encL encE x1.es)))/\True)))))))))/\(∀ x19:Nat,((x19<=(compsL (NewX.g x1)).length)->(((decide ((x19:Int)<(↑(compsL x14).length:Int))=true)->((((0:Int)<=(x19:Int))/\((x19:Int)<(↑(compsL x14).length:Int)))/\((0+Int.toNat (x19:Int)<(compsL x14).length)/\(∃ x22:List Nat,((WOk x22)/\((((szW ((compsL x14).getD (0+Int.toNat (x19:Int)) default)=szW x22)/\True)/\True)/\((((RLe (szW x22) (szW ((compsL x14).getD (0+Int.toNat (x19:Int)) default)))/\(RowsEq [.int .u64] (szW x22) (D.toF (D.l (szW ((compsL x14).getD (0+Int.toNat (x19:Int)) default)) (encL encW ((compsL x14).getD (0+Int.toNat (x19:Int)) default)))) (encL encW x22)))/\True)/\((((0:Int)<=(x19:Int))/\((x19:Int)<(↑(partsL x15).length:Int)))/\((0+Int.toNat (x19:Int)<(partsL x15).length)/\(∃ x23:LLX,((x23.a.length<=(1073741824:Nat))/\(((0=0/\((elemsW x22).length=x23.a.length))/\((0=0/\(((partsL x15).getD (0+Int.toNat (x19:Int)) default).length=x23.b.length))/\True))/\((((RLe x23.a.length (elemsW x22).length)/\(RI x23.a.length (elemsZ x22) x23.a))/\(((RLe x23.b.length ((partsL x15).getD (0+Int.toNat (x19:Int)) default).length)/\(RowsEq [.int .i64] x23.b.length (D.toF (D.l ((partsL x15).getD (0+Int.toNat (x19:Int)) default).length (encL encI ((partsL x15).getD (0+Int.toNat (x19:Int)) default)))) (encL encI x23.b)))/\True))/\((((!decide (x23.a=x23.b))=true)->(false=true/\True))/\(((!decide (x23.a=x23.b))=false)->(∃ x26:List Nat,((WOk x26)/\((((szW ((compsL x14).getD (0+Int.toNat (x19:Int)) default)=szW x26)/\True)/\True)/\((((RLe (szW x26) (szW ((compsL x14).getD (0+Int.toNat (x19:Int)) default)))/\(RowsEq [.int .u64] (szW x26) (D.toF (D.l (szW ((compsL x14).getD (0+Int.toNat (x19:Int)) default)) (encL encW ((compsL x14).getD (0+Int.toNat (x19:Int)) default)))) (encL encW x26)))/\True)/\((((-9223372036854775808:Int)<=sumC (NewX.g x1) x19+lenW x26)/\(sumC (NewX.g x1) x19+lenW x26<=(9223372036854775807:Int)))/\(∃ x27:TwoX,(((WOk x27.a)/\(WOk x27.b))/\((((szW (alC (NewX.g x1) x19)=szW x27.a)/\True)/\(((szW ((compsL x14).getD (0+Int.toNat (x19:Int)) default)=szW x27.b)/\True)/\True))/\((((RLe (szW x27.a) (szW (alC (NewX.g x1) x19)))/\(RowsEq [.int .u64] (szW x27.a) (encL encW (alC (NewX.g x1) x19)) (encL encW x27.a)))/\(((RLe (szW x27.b) (szW ((compsL x14).getD (0+Int.toNat (x19:Int)) default)))/\(RowsEq [.int .u64] (szW x27.b) (D.toF (D.l (szW ((compsL x14).getD (0+Int.toNat (x19:Int)) default)) (encL encW ((compsL x14).getD (0+Int.toNat (x19:Int)) default)))) (encL encW x27.b)))/\True))/\((((-9223372036854775808:Int)<=(x19:Int)+1)/\((x19:Int)+1<=(9223372036854775807:Int)))/\(∃ x28:Nat,(((compsL (NewX.g x1)).length-x28<(compsL (NewX.g x1)).length-x19)/\((x28<=(compsL (NewX.g x1)).length)/\((((x19:Int)+1=(x28:Int))/\((sumC (NewX.g x1) x19+lenW x26=sumC (NewX.g x1) x28)/\((0=0/\0=0)/\(((↑(compsL x14).length:Int)=(↑(compsL x14).length:Int))/\((0=0/\((compsL x14).length=(compsL x14).length))/\((0=0/\((partsL x15).length=(partsL x15).length))/\((0=0/\((compsL x14).length=(compsL x14).length))/\(true=true/\((0=0/\0=0)/\((0=0/\0=0)/\((x1.n=x1.n/\((0=0/\x1.es.length=x1.es.length)/\True))/\True)))))))))))/\(((szW (unW x27.a x27.b)=szW (alC (NewX.g x1) x28))/\True)/\(((RLe (szW (alC (NewX.g x1) x28)) (szW (unW x27.a x27.b)))/\(RowsEq [.int .u64] (szW (alC (NewX.g x1) x28)) (encL encW (unW x27.a x27.b)) (encL encW (alC (NewX.g x1) x28))))/\(((RLe (partsL x15).length (partsL x15).length)/\(RowsEq [.sl [.int .i64]] (partsL x15).length (encL encLI (partsL x15)) (encL encLI (partsL x15))))/\(((RLe (compsL x14).length (compsL x14).length)/\(RowsEq (Kd.pt 64 [.int .u64]::[]) (compsL x14).length (encL encSt (compsL x14)) (encL encSt (compsL x14))))/\((RLe 1 1/\(RowsEq [.sl [.int .i64,.int .i64,.int .i64],.sl [.sl [.int .i64]],.sl [.sl [.int .i64]]] 1 (encG (NewX.g x6)) (encG (NewX.g x6))))/\((x1.n=x1.n/\((0=0/\x1.es.length=x1.es.length)/\True))/\(((RLe x1.es.length x1.es.length)/\(RowsEq [.int .i64,.int .i64,.int .i64] x1.es.length (encL encE x1.es) (encL encE x1.es)))/\True))))))))))))))))))))))))))))))))))))/\((decide ((x19:Int)<(↑(compsL x14).length:Int))=false)->(((decide (sumC (NewX.g x1) x19=x1.n)=true)->(∃ x31:List Nat,((WOk x31)/\((((szW (alC (NewX.g x1) x19)=szW x31)/\True)/\True)/\((((RLe (szW x31) (szW (alC (NewX.g x1) x19)))/\(RowsEq [.int .u64] (szW x31) (encL encW (alC (NewX.g x1) x19)) (encL encW x31)))/\True)/\((decide (lenW x31=x1.n)=true)/\True))))))/\((decide (sumC (NewX.g x1) x19=x1.n)=false)->(false=true/\True)))))))))))))))))))))))))))))))))))=(Keeps cfgCm7 Tryd.f5 (lawCm true) cmYI) by kernel_rfl) (fun x1=>fun h2=>⟨(default),
 trivial,trivial,trivial,
fun h4=>⟨(by(try dsimp only at *);omega),trivial⟩,
fun h5=>⟨(x1),
(by(try dsimp only at *);exact(ok_in h2).2),
⟨⟨rfl,
⟨rfl,rfl⟩,trivial⟩,trivial⟩,
⟨⟨rl,rr⟩,trivial⟩,
⟨(x1),trivial,
⟨⟨rfl,
⟨rfl,rfl⟩,trivial⟩,trivial⟩,
⟨⟨rl,rr⟩,trivial⟩,
fun g8=>have h8:=nF g8;⟨(default),trivial,rfl,trivial⟩,
fun g10=>have h10:=nT g10;⟨(default),trivial,
(by(try dsimp only at *);exact absurd (ok_in h2).1 ‹_›),trivial⟩⟩,
fun x12=>fun h13=>⟨(NewX.g x1),
(by(try dsimp only at *);exact ok_g h2),
⟨⟨rfl,rfl⟩,trivial⟩,
⟨⟨rl,rr⟩,trivial⟩,
(NewX.g x1),
(by(try dsimp only at *);exact cm_p h2),
⟨(by(try dsimp only at *);exact cm_n h2),
⟨rfl,
(by(try dsimp only at *);rfl)⟩,trivial⟩,
⟨⟨⟨(by(try dsimp only at *);exact Nat.le_refl _)⟩,
(by(try dsimp only at *);exact rr)⟩,trivial⟩,
fun g16=>have h16:=dT g16;⟨(by(try dsimp only at *);exact absurd (congrArg Int.ofNat (cm_len h2)) ‹_›),trivial⟩,
fun g17=>have h17:=dF g17;⟨((0:Nat)),
⟨(by(try dsimp only at *);omega),
⟨(by(try dsimp only at *);omega),
(by(try dsimp only at *);rfl),
⟨rfl,rfl⟩,rfl,
⟨rfl,rfl⟩,
⟨rfl,rfl⟩,
⟨rfl,rfl⟩,rfl,
⟨rfl,rfl⟩,
⟨rfl,rfl⟩,
⟨rfl,
⟨rfl,rfl⟩,trivial⟩,trivial⟩,
⟨(by(try dsimp only at *);rfl),trivial⟩,
(by(try dsimp only at *);rfl),
⟨rl,rr⟩,
⟨rl,rr⟩,
⟨rl,rr⟩,
⟨rfl,
⟨rfl,rfl⟩,trivial⟩,
⟨rl,rr⟩,trivial⟩,
fun x19=>fun h20=>⟨fun g21=>have h21:=dT g21;⟨⟨(by(try dsimp only at *);omega),
(by(try dsimp only at *);omega)⟩,
(by(try dsimp only at *);omega),
(List.getD (compsL (NewX.g x1)) ((0:Nat)+Int.toNat (↑x19:Int)) default),
(by(try dsimp only at *);exact compsL_ok (ok_g h2) (cm_in h21)),
⟨⟨rfl,trivial⟩,trivial⟩,
⟨⟨rl,
(by(try dsimp only at *);exact rr)⟩,trivial⟩,
⟨(by(try dsimp only at *);omega),
(by(try dsimp only at *);omega)⟩,
(by(try dsimp only at *);omega),
({ a:=elemsZ (List.getD (compsL (NewX.g x1)) ((0:Nat)+Int.toNat (↑x19:Int)) default),b:=List.getD (partsL (NewX.g x1)) ((0:Nat)+Int.toNat (↑x19:Int)) default:LLX }),
(by(try dsimp only at *);exact Nat.le_trans (Nat.le_of_eq (elemsZ_len _)) (Nat.le_trans (elemsW_len _) (by omega))),
⟨⟨rfl,
(by(try dsimp only at *);exact(elemsZ_len _).symm)⟩,
⟨rfl,rfl⟩,trivial⟩,
⟨⟨⟨(by(try dsimp only at *);exact Nat.le_of_eq (elemsZ_len _))⟩,rr⟩,
⟨rl,
(by(try dsimp only at *);exact rr)⟩,trivial⟩,
fun g24=>have h24:=nT g24;⟨(by(try dsimp only at *);exact absurd (cm_at h2 h21) ‹_›),trivial⟩,
fun g25=>have h25:=nF g25;⟨(List.getD (compsL (NewX.g x1)) ((0:Nat)+Int.toNat (↑x19:Int)) default),
(by(try dsimp only at *);exact compsL_ok (ok_g h2) (cm_in h21)),
⟨⟨rfl,trivial⟩,trivial⟩,
⟨⟨rl,
(by(try dsimp only at *);exact rr)⟩,trivial⟩,
⟨(by(try dsimp only at *);exact(cm_rng h2 h20 _).1),
(by(try dsimp only at *);exact(cm_rng h2 h20 _).2)⟩,
({ a:=alC (NewX.g x1) x19,b:=List.getD (compsL (NewX.g x1)) ((0:Nat)+Int.toNat (↑x19:Int)) default:TwoX }),
⟨(by(try dsimp only at *);exact alC_ok (ok_g h2) _),
(by(try dsimp only at *);exact compsL_ok (ok_g h2) (cm_in h21))⟩,
⟨⟨rfl,trivial⟩,
⟨rfl,trivial⟩,trivial⟩,
⟨⟨rl,rr⟩,
⟨rl,
(by(try dsimp only at *);exact rr)⟩,trivial⟩,
⟨(by(try dsimp only at *);omega),
(by(try dsimp only at *);(have:=compsL_len (ok_g h2);omega))⟩,
(x19+(1:Nat)),
(by(try dsimp only at *);omega),
(by(try dsimp only at *);omega),
⟨(by(try dsimp only at *);omega),
(by(try dsimp only at *);(rw[sumC_succ (by omega),nat0];done)),
⟨rfl,rfl⟩,rfl,
⟨rfl,rfl⟩,
⟨rfl,rfl⟩,
⟨rfl,rfl⟩,rfl,
⟨rfl,rfl⟩,
⟨rfl,rfl⟩,
⟨rfl,
⟨rfl,rfl⟩,trivial⟩,trivial⟩,
⟨(by(try dsimp only at *);(rw[alC_succ (by omega),nat0];done)),trivial⟩,
⟨⟨(by(try dsimp only at *);(rw[alC_succ (by omega),nat0];first|exact Nat.le_refl _|exact rr))⟩,
(by(try dsimp only at *);(rw[alC_succ (by omega),nat0];first|exact Nat.le_refl _|exact rr))⟩,
⟨rl,rr⟩,
⟨rl,rr⟩,
⟨rl,rr⟩,
⟨rfl,
⟨rfl,rfl⟩,trivial⟩,
⟨rl,rr⟩,trivial⟩⟩,
fun g29=>have h29:=dF g29;⟨fun g30=>have h30:=dT g30;⟨(alC (NewX.g x1) x19),
(by(try dsimp only at *);exact alC_ok (ok_g h2) _),
⟨⟨rfl,trivial⟩,trivial⟩,
⟨⟨rl,rr⟩,trivial⟩,
(by(try dsimp only at *);exact decide_eq_true (cm_end h2 h20 h29).2),trivial⟩,
fun g32=>have h32:=dF g32;⟨(by(try dsimp only at *);exact absurd (cm_end h2 h20 h29).1 ‹_›),trivial⟩⟩⟩⟩⟩⟩⟩)
theorem cmN_good:Good Tryd.prog 5 (lawCm false)/\FnOk Tryd.prog 5:=good_of tok conMn7 (fn:=Tryd.f5) rfl (by decide+kernel) (fun _=>rfl) cm_no
theorem cmY_good:Good Tryd.prog 5 (lawCm true)/\FnOk Tryd.prog 5:=good_of tok conCm7 (fn:=Tryd.f5) rfl (by decide+kernel) (fun _=>rfl) cm_yes
theorem cm_good:Good Tryd.prog 5 ⟨NewX,fun _=>True,(lawCm true).args,(lawCm true).g0,fun _=>.b true,fun _=>[]⟩:=both_b (X:=NewX) (t:=okB) cmY_good.1 cmN_good.1
end Go.Sym