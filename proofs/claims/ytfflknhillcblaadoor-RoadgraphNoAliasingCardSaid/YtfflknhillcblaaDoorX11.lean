import Derived.Test.YtfflknhillcblaaDoorX7
import Derived.Test.YtfflknhillcblaaDoorXR
import Derived.Test.YtfflknhillcblaaDoorXD
namespace Go.Sym
set_option linter.unusedVariables false
set_option linter.unusedSimpArgs false
open Go.Proofs
set_option maxRecDepth 100000
set_option maxHeartbeats 4000000
def hasC:CT where
 X:=BitX
 pre:=fun x=>WOk x.ws
 args:=fun x=>[setV x.ws 100000,.i .i64 x.n]
 g0:=fun x=>setH x.ws .bor 100000
 res:=fun x=>.b (decide (0<=x.n)&&hasW x.ws x.n.toNat)
 g1:=fun x=>[]
set_option maxRecDepth 100000 in
theorem has_keeps : Keeps cfgN0 Tryd.f34 hasC noIv := Eq.mp (show ((∀ x1 : BitX, ((WOk x1.ws)-> (((decide (szW x1.ws = (0 : Nat)) = false)-> (((decide (x1.n < (0 : Int)) = false)-> (((decide ((4096 : Int) <= x1.n) = true)-> ((false = (decide ((0 : Int) <= x1.n) && hasW x1.ws (Int.toNat x1.n)))/\True))/\((decide ((4096 : Int) <= x1.n) = false)-> ((((0 : Int) <= x1.n)/\(((0 : Int) < 64)/\(((-9223372036854775808 : Int) <= x1.n / 64)/\(x1.n / 64 <= (9223372036854775807 : Int)))))/\((szW x1.ws ≠ (0 : Nat))/\((((0 : Int) <= x1.n / 64)/\(x1.n / 64 < (↑(64 : Nat) : Int)))/\((0 + Int.toNat (x1.n / 64) < szW x1.ws)/\((((0 : Int) <= x1.n)/\((0 : Int) < 64))/\(((0 : Int) <= x1.n % 64)/\((decide (IntKind.wrap .u64 (↑(BitVec.toNat (BitVec.ofInt (IntKind.bits .u64) (Int.fdiv (↑(x1.ws.getD (0 + Int.toNat (x1.n / 64)) default) : Int) ((2 : Int) ^ min (Int.toNat (x1.n % 64)) (IntKind.bits .u64))) &&& BitVec.ofInt (IntKind.bits .u64) (1 : Int))) : Int) = 1) = (decide ((0 : Int) <= x1.n) && hasW x1.ws (Int.toNat x1.n)))/\True))))))))))/\((decide (x1.n < (0 : Int)) = true)-> ((false = (decide ((0 : Int) <= x1.n) && hasW x1.ws (Int.toNat x1.n)))/\True))))/\((decide (szW x1.ws = (0 : Nat)) = true)-> ((false = (decide ((0 : Int) <= x1.n) && hasW x1.ws (Int.toNat x1.n)))/\True)))))) = (Keeps cfgN0 Tryd.f34 hasC noIv) by kernel_rfl) (fun x1 => fun h2 => ⟨fun g3 => have h3 := dF g3; ⟨fun g4 => have h4 := dF g4; ⟨fun g5 => have h5 := dT g5; ⟨(by
        (rw[hasW_big h2 (by omega),Bool.and_false])),trivial⟩,
fun g6=>have h6:=dF g6;⟨⟨(by omega),
(by omega),
(by omega),
(by omega)⟩,
(by omega),
⟨(by omega),
(by omega)⟩,
(by
       (rw[szW_full h3];omega)),
⟨(by omega),
(by omega)⟩,
(by omega),
(by
       exact has_bit h2 (by omega)),trivial⟩⟩,
fun g7=>have h7:=dT g7;⟨(by grind),trivial⟩⟩,
fun g8 => have h8 := dT g8; ⟨(by
       (rw[szW_zero.1 h8,hasW_nil,Bool.and_false])),trivial⟩⟩)
theorem has_mem {ws:List Nat} (h:WOk ws) (x:Int):(decide (0<=x)&&hasW ws x.toNat)=decide (x∈elemsZ ws):=by
 rw[Bool.eq_iff_iff,Bool.and_eq_true,decide_eq_true_iff,decide_eq_true_iff,elemsZ_mem]
 constructor
 ·rintro⟨a,b⟩
  refine⟨a,?_,b⟩
  rcases Classical.em (x<4096)with q|q
  ·exact q
  ·rw[hasW_big h (by omega)]at b;cases b
 ·rintro⟨a,_,b⟩;exact⟨a,b⟩
theorem rev_rev (g:Gr):revG (revG g)=g:=by
 unfold revG
 rw[List.map_map]
 have:revE∘revE=id:=by funext e;rfl
 rw[this,List.map_id]
theorem rev_at {g:Gr} {i:Nat} (hi:i<g.es.length):(revG g).es.getD i default=revE (g.es.getD i default):=by
 show(g.es.map revE).getD i default=_
 rw[List.getD_eq_getElem?_getD,List.getElem?_map,List.getElem?_eq_getElem hi,List.getD_eq_getElem?_getD,List.getElem?_eq_getElem hi];rfl
theorem Rch.some {g:Gr} {S:Int->Prop} {v:Nat} (r:Rch g S v):∃ u:Nat,u<g.n/\S u:=by
 induction r with
 |src a b=>exact⟨_,a,b⟩
 |step _ _ _ ih=>exact ih
theorem Rch.back {g:Gr} {u v:Nat} (r:Rch g (· =(u:Int)) v) {T:Int->Prop}:Rch (revG g) T v->Rch (revG g) T u:=by
 induction r with
 |src a b=>intro h;obtain rfl:_=u:=Int.ofNat.inj b;exact h
 |@step i a b _ ih=>
  intro h
  refine ih ?_
  have e1:frN (revG g) i=toN g i:=by unfold frN toN;rw[rev_at a];rfl
  have e2:toN (revG g) i=frN g i:=by unfold frN toN;rw[rev_at a];rfl
  have e3:opn (revG g) i=opn g i:=by unfold opn;rw[rev_at a];rfl
  rw[<- e2]
  exact .step (by show i<(g.es.map revE).length;rw[List.length_map];exact a) (by rw[e3];exact b) (by rw[e1];exact h)
def aW (a:Int):List Nat:=ofW [a] 1
theorem rW1_mem {g:Gr} (h:G12 g) {a b:Int}:b∈elemsZ (rW g (aW a))↔0<=b/\Rch g (· =a) b.toNat:=by
 rw[rW_mem h.g]
 have e:∀ v,Rch g (· ∈elemsZ (aW a)) v↔Rch g (· =a) v:=fun v=>by
  constructor
  ·exact fun r=>r.mono fun v h=>by simpa using(ofW_mem (l:=[a]).1 h).1
  ·intro r
   have hn:=h.n
   exact r.least (C:=fun v=>Rch g (· ∈elemsZ (aW a)) v) (fun v hv h=>.src hv ((ofW_mem (l:=[a])).2 ⟨by simpa using h,by omega,by omega⟩)) (fun i hi ho h=>.step hi ho h)
 rw[e]
theorem rev_half {g:Gr} (h:G12 g) {a b:Int} (q:b∈elemsZ (rW g (aW a))):a∈elemsZ (rW (revG g) (aW b)):=by
 have h2:G12 (revG g):=⟨h.n,revG_ok h.g⟩
 obtain⟨q1,r⟩:=(rW1_mem h).1 q
 obtain⟨u,hu,e⟩:=r.some
 have e:(u:Int)=a:=e
 subst e
 refine(rW1_mem h2).2 ⟨by omega,?_⟩
 rw[Int.toNat_natCast]
 exact r.back (.src (r.lt h.g) (by show((b.toNat:Nat):Int)=b;omega))
theorem rev_both {g:Gr} (h:G12 g) (a b:Int):b∈elemsZ (rW g (aW a))↔a∈elemsZ (rW (revG g) (aW b)):=by
 refine⟨rev_half h,fun q=>?_⟩
 have:=rev_half (g:=revG g) ⟨h.n,revG_ok h.g⟩ q
 rwa [rev_rev]at this
structure RVx where
 p:NewX
 a:Int
 b:Int
def okB (p:NewX):Bool:=decide ((p.n<=12/\p.es.length<=40)/\errN p=0)
def lawRv (b:Bool):CT:=⟨RVx,fun x=>True/\okB x.p=b,fun x=>[nA7 x.p,.i .i64 x.a,.i .i64 x.b],fun x=>nH7 x.p,fun _=>.b true,fun _=>[]⟩
def rvNI (_:RVx) (id:Nat):Option Inv:=match id with
 |100030=>some (cutT 30 true)
 |_=>none
def cfgMn7:Cfg:=⟨T,[],[(10,.one wkC),(11,.one madeC),(12,.one smallC)],noInv,8,{}⟩
theorem conMn7:ConOk Tryd.prog cfgMn7:=ConL.ok (.cons (ConL.one wk_good) (.cons (ConL.one made_good) (.cons (ConL.one small_good) .nil)))
theorem ok_out {p:NewX} (h:True/\okB p=false):¬ ((p.n<=12/\p.es.length<=40)/\errN p=0):=of_decide_eq_false h.2
theorem ok_in {p:NewX} (h:True/\okB p=true):(p.n<=12/\p.es.length<=40)/\errN p=0:=of_decide_eq_true h.2
theorem ok_g {p:NewX} (h:True/\okB p=true):G12 p.g:=by
 have a:=ok_in h
 have b:=err_g a.2
 exact⟨by omega,b.1⟩
set_option maxRecDepth 100000 in
theorem rv_no:Keeps cfgMn7 Tryd.f8 (lawRv false) rvNI:=Eq.mp (show((∀ x1:RVx,((True/\okB x1.p=false)->(∃ x3:Unit,(True/\(True/\(True/\((false=true->(false=true/\True))/\(false=false->(∃ x6:NewX,(True/\(((x1.p.n=x6.n/\((0=0/\x1.p.es.length=x6.es.length)/\True))/\True)/\((((RLe x6.es.length x1.p.es.length)/\(RowsEq [.int .i64,.int .i64,.int .i64] x6.es.length (encL encE x1.p.es) (encL encE x6.es)))/\True)/\((∃ x7:NewX,(True/\(((x1.p.n=x7.n/\((0=0/\x1.p.es.length=x7.es.length)/\True))/\True)/\((((RLe x7.es.length x1.p.es.length)/\(RowsEq [.int .i64,.int .i64,.int .i64] x7.es.length (encL encE x1.p.es) (encL encE x7.es)))/\True)/\((((!decide (x7.n<=(12:Int)/\x7.es.length<=(40:Nat)))=false)->(∃ x9:Unit,(True/\(((!decide (errN x6=0))=true)/\True))))/\(((!decide (x7.n<=(12:Int)/\x7.es.length<=(40:Nat)))=true)->(∃ x11:Unit,(True/\(true=true/\True)))))))))/\(∀ x12:Unit,(True->(true=true/\True)))))))))))))))))=(Keeps cfgMn7 Tryd.f8 (lawRv false) rvNI) by kernel_rfl) (fun x1=>fun h2=>⟨(default),trivial,trivial,trivial,
fun h4=>⟨(by(try dsimp only at *);omega),trivial⟩,
fun h5=>⟨(RVx.p x1),trivial,
⟨⟨rfl,
⟨rfl,rfl⟩,trivial⟩,trivial⟩,
⟨⟨rl,rr⟩,trivial⟩,
⟨(RVx.p x1),trivial,
⟨⟨rfl,
⟨rfl,rfl⟩,trivial⟩,trivial⟩,
⟨⟨rl,rr⟩,trivial⟩,
fun g8=>have h8:=nF g8;⟨(default),trivial,
(by(try dsimp only at *);(have q:=ok_out h2;rw[decide_eq_false (fun e=>q ⟨‹_›,e⟩)];rfl)),trivial⟩,
fun g10=>have h10:=nT g10;⟨(default),trivial,rfl,trivial⟩⟩,
fun x12=>fun h13=>⟨rfl,trivial⟩⟩⟩)
def rvYI (x:RVx) (id:Nat):Option Inv:=match id with
 |100030=>some (cutT 30 false)
 |100049=>some (cutT 49 false)
 | 0 => some { X := Nat, ok := fun k => k <= x.p.es.length, fr := fun k => [(55, .i .i64 k)], hp := fun _ => [], me := fun k => x.p.es.length - k,
               inn:=fun k id=>match id with
                |100095=>some (cutT 95 false)
                |_=>none }
 |_=>none
def cfgRv7:Cfg:=⟨T,[],[(10,.one wkC),(11,.one madeYC),(12,.one smallC),(31,.one revC),(32,.one nodesC),(33,.one edgesC),(29,.one edgeC),(20,.one ofC),(19,.one reachC),(34,.one hasC)],noInv,17,{}⟩
theorem rv_len (g:Gr):(revG g).es.length=g.es.length:=List.length_map _
theorem rv_e {g:Gr} {k:Nat} (hk:(k:Int)<g.es.length):edAt ⟨revG g,(k:Int)⟩=revE (g.es.getD (0+((k:Nat):Int).toNat) default):=by
 have e:=rv_len g
 rw[edAt_yes (x:=⟨revG g,(k:Int)⟩) ⟨Int.natCast_nonneg _,by show(k:Int)<(revG g).es.length;omega⟩]
 show(revG g).es.getD ((k:Nat):Int).toNat default=_
 rw[Nat.zero_add,Int.toNat_natCast]
 exact rev_at (by omega)
theorem rv_e2 {g:Gr} {k:Nat} (hk:(k:Int)<g.es.length):edAt ⟨revG (revG g),(k:Int)⟩=g.es.getD (0+((k:Nat):Int).toNat) default:=by
 rw[rev_rev,edAt_yes (x:=⟨g,(k:Int)⟩) ⟨Int.natCast_nonneg _,hk⟩,Nat.zero_add]
theorem rv_has {g:Gr} (h:G12 g) (a b:Int):((decide (0<=b)&&hasW (rW g (aW a)) b.toNat)==(decide (0<=a)&&hasW (rW (revG g) (aW b)) a.toNat))=true:=by
 rw[has_mem (rW_ok _ _),has_mem (rW_ok _ _),decide_eq_decide.2 (rev_both h a b)]
 exact beq_self_eq_true _
set_option maxRecDepth 100000 in
theorem rv_yes:Keeps cfgRv7 Tryd.f8 (lawRv true) rvYI:=Eq.mp (show((∀ x1:RVx,((True/\okB x1.p=true)->(∃ x3:Unit,(True/\(True/\(True/\((false=true->(false=true/\True))/\(false=false->(∃ x6:NewX,((errN x6=0)/\(((x1.p.n=x6.n/\((0=0/\x1.p.es.length=x6.es.length)/\True))/\True)/\((((RLe x6.es.length x1.p.es.length)/\(RowsEq [.int .i64,.int .i64,.int .i64] x6.es.length (encL encE x1.p.es) (encL encE x6.es)))/\True)/\((∃ x7:NewX,(True/\(((x1.p.n=x7.n/\((0=0/\x1.p.es.length=x7.es.length)/\True))/\True)/\((((RLe x7.es.length x1.p.es.length)/\(RowsEq [.int .i64,.int .i64,.int .i64] x7.es.length (encL encE x1.p.es) (encL encE x7.es)))/\True)/\((((!decide (x7.n<=(12:Int)/\x7.es.length<=(40:Nat)))=false)->(∃ x9:Unit,(True/\(false=false/\True))))/\(((!decide (x7.n<=(12:Int)/\x7.es.length<=(40:Nat)))=true)->(∃ x11:Unit,(True/\(true=false/\True)))))))))/\(∀ x12:Unit,(True->(∃ x14:Gr,((GOk x14)/\(((0=0/\0=0)/\True)/\(((RLe 1 1/\(RowsEq [.sl [.int .i64,.int .i64,.int .i64],.sl [.sl [.int .i64]],.sl [.sl [.int .i64]]] 1 (encG (NewX.g x6)) (encG x14)))/\True)/\((∃ x15:Gr,(True/\(((0=0/\0=0)/\True)/\(((RLe 1 1/\(RowsEq [.sl [.int .i64,.int .i64,.int .i64],.sl [.sl [.int .i64]],.sl [.sl [.int .i64]]] 1 (encG (revG x14)) (encG x15)))/\True)/\(((decide ((x15.n:Int)≠x1.p.n)=false)->(∃ x17:Gr,(True/\(((0=0/\0=0)/\True)/\(((RLe 1 1/\(RowsEq [.sl [.int .i64,.int .i64,.int .i64],.sl [.sl [.int .i64]],.sl [.sl [.int .i64]]] 1 (encG (revG x14)) (encG x17)))/\True)/\(∃ x18:Unit,(True/\((decide ((x17.es.length:Int)≠(x1.p.es.length:Int))=false)/\True))))))))/\((decide ((x15.n:Int)≠x1.p.n)=true)->(∃ x20:Unit,(True/\(true=false/\True)))))))))/\(∀ x21:Unit,(True->(∃ x23:Gr,((GOk x23)/\(((0=0/\0=0)/\True)/\(((RLe 1 1/\(RowsEq [.sl [.int .i64,.int .i64,.int .i64],.sl [.sl [.int .i64]],.sl [.sl [.int .i64]]] 1 (encG (revG x14)) (encG x23)))/\True)/\(∃ x24:Nat,(((x24<=x1.p.es.length)/\(((0=(x24:Int))/\(((x1.p.es.length:Int)=(x1.p.es.length:Int))/\((0=0/\x1.p.es.length=x1.p.es.length)/\((0=0/\0=0)/\((0=0/\0=0)/\(true=true/\((0=0/\0=0)/\((0=0/\0=0)/\((x1.p.n=x1.p.n/\((0=0/\x1.p.es.length=x1.p.es.length)/\True))/\(x1.a=x1.a/\(x1.b=x1.b/\True)))))))))))/\((RLe 1 1/\(RowsEq [.sl [.int .i64,.int .i64,.int .i64],.sl [.sl [.int .i64]],.sl [.sl [.int .i64]]] 1 (encG (revG x23)) (encG (revG x23))))/\((RLe 1 1/\(RowsEq [.sl [.int .i64,.int .i64,.int .i64],.sl [.sl [.int .i64]],.sl [.sl [.int .i64]]] 1 (encG (revG x14)) (encG (revG x14))))/\((RLe 1 1/\(RowsEq [.sl [.int .i64,.int .i64,.int .i64],.sl [.sl [.int .i64]],.sl [.sl [.int .i64]]] 1 (encG (NewX.g x6)) (encG (NewX.g x6))))/\((x1.p.n=x1.p.n/\((0=0/\x1.p.es.length=x1.p.es.length)/\True))/\(((RLe x1.p.es.length x1.p.es.length)/\(RowsEq [.int .i64,.int .i64,.int .i64] x1.p.es.length (encL encE x1.p.es) (encL encE x1.p.es)))/\True)))))))/\(∀ x25:Nat,((x25<=x1.p.es.length)->(((decide ((x25:Int)<(x1.p.es.length:Int))=true)->((((0:Int)<=(x25:Int))/\((x25:Int)<(x1.p.es.length:Int)))/\((0+Int.toNat (x25:Int)<x1.p.es.length)/\(∃ x28:GIx,(True/\(((0=0/\0=0)/\(((x25:Int)=x28.i)/\True))/\(((RLe 1 1/\(RowsEq [.sl [.int .i64,.int .i64,.int .i64],.sl [.sl [.int .i64]],.sl [.sl [.int .i64]]] 1 (encG (revG x14)) (encG x28.g)))/\True)/\(∃ x29:GIx,(True/\(((0=0/\0=0)/\(((x25:Int)=x29.i)/\True))/\(((RLe 1 1/\(RowsEq [.sl [.int .i64,.int .i64,.int .i64],.sl [.sl [.int .i64]],.sl [.sl [.int .i64]]] 1 (encG (revG x23)) (encG x29.g)))/\True)/\((((decide ((edAt x28).f≠(x1.p.es.getD (0+Int.toNat (x25:Int)) default).t)=false)->(((decide ((edAt x28).t≠(x1.p.es.getD (0+Int.toNat (x25:Int)) default).f)=false)->(((decide ((edAt x28).d≠(x1.p.es.getD (0+Int.toNat (x25:Int)) default).d)=false)->(∃ x33:Unit,(True/\(((!(decide ((edAt x29).f=(x1.p.es.getD (0+Int.toNat (x25:Int)) default).f)&&(decide ((edAt x29).t=(x1.p.es.getD (0+Int.toNat (x25:Int)) default).t)&&(decide ((edAt x29).d=(x1.p.es.getD (0+Int.toNat (x25:Int)) default).d)&&true))))=false)/\True))))/\((decide ((edAt x28).d≠(x1.p.es.getD (0+Int.toNat (x25:Int)) default).d)=true)->(∃ x35:Unit,(True/\(true=false/\True))))))/\((decide ((edAt x28).t≠(x1.p.es.getD (0+Int.toNat (x25:Int)) default).f)=true)->(∃ x37:Unit,(True/\(true=false/\True))))))/\((decide ((edAt x28).f≠(x1.p.es.getD (0+Int.toNat (x25:Int)) default).t)=true)->(∃ x39:Unit,(True/\(true=false/\True)))))/\(∀ x40:Unit,(True->((((-9223372036854775808:Int)<=(x25:Int)+1)/\((x25:Int)+1<=(9223372036854775807:Int)))/\(∃ x42:Nat,((x1.p.es.length-x42<x1.p.es.length-x25)/\((x42<=x1.p.es.length)/\((((x25:Int)+1=(x42:Int))/\(((x1.p.es.length:Int)=(x1.p.es.length:Int))/\((0=0/\x1.p.es.length=x1.p.es.length)/\((0=0/\0=0)/\((0=0/\0=0)/\(true=true/\((0=0/\0=0)/\((0=0/\0=0)/\((x1.p.n=x1.p.n/\((0=0/\x1.p.es.length=x1.p.es.length)/\True))/\(x1.a=x1.a/\(x1.b=x1.b/\True)))))))))))/\((RLe 1 1/\(RowsEq [.sl [.int .i64,.int .i64,.int .i64],.sl [.sl [.int .i64]],.sl [.sl [.int .i64]]] 1 (encG (revG x23)) (encG (revG x23))))/\((RLe 1 1/\(RowsEq [.sl [.int .i64,.int .i64,.int .i64],.sl [.sl [.int .i64]],.sl [.sl [.int .i64]]] 1 (encG (revG x14)) (encG (revG x14))))/\((RLe 1 1/\(RowsEq [.sl [.int .i64,.int .i64,.int .i64],.sl [.sl [.int .i64]],.sl [.sl [.int .i64]]] 1 (encG (NewX.g x6)) (encG (NewX.g x6))))/\((x1.p.n=x1.p.n/\((0=0/\x1.p.es.length=x1.p.es.length)/\True))/\(((RLe x1.p.es.length x1.p.es.length)/\(RowsEq [.int .i64,.int .i64,.int .i64] x1.p.es.length (encL encE x1.p.es) (encL encE x1.p.es)))/\True))))))))))))))))))))))))/\((decide ((x25:Int)<(x1.p.es.length:Int))=false)->(((True/\True)/\True)/\(∃ x44:List Int,((x44.length<=(1048576:Nat))/\(((0=0/\((1:Nat)=x44.length))/\True)/\((((RLe x44.length 1)/\(RowsEq [.int .i64] x44.length (litRows ((D.i x1.a::@List.nil D)::@List.nil (List D))) (encL encI x44)))/\True)/\(∃ x45:RLx,((RLok x45)/\(((0=0/\0=0)/\(((szW (ofW x44 x44.length)=szW x45.ws)/\True)/\True))/\(((RLe 1 1/\(RowsEq [.sl [.int .i64,.int .i64,.int .i64],.sl [.sl [.int .i64]],.sl [.sl [.int .i64]]] 1 (encG (NewX.g x6)) (encG x45.g)))/\(((RLe (szW x45.ws) (szW (ofW x44 x44.length)))/\(RowsEq [.int .u64] (szW x45.ws) (encL encW (ofW x44 x44.length)) (encL encW x45.ws)))/\True))/\(∃ x46:BitX,((WOk x46.ws)/\((((szW (ofW (reachQ x45.g (elemsZ x45.ws)) (reachQ x45.g (elemsZ x45.ws)).length)=szW x46.ws)/\True)/\(x1.b=x46.n/\True))/\((((RLe (szW x46.ws) (szW (ofW (reachQ x45.g (elemsZ x45.ws)) (reachQ x45.g (elemsZ x45.ws)).length)))/\(RowsEq [.int .u64] (szW x46.ws) (encL encW (ofW (reachQ x45.g (elemsZ x45.ws)) (reachQ x45.g (elemsZ x45.ws)).length)) (encL encW x46.ws)))/\True)/\(((True/\True)/\True)/\(∃ x47:List Int,((x47.length<=(1048576:Nat))/\(((0=0/\((1:Nat)=x47.length))/\True)/\((((RLe x47.length 1)/\(RowsEq [.int .i64] x47.length (litRows ((D.i x1.b::@List.nil D)::@List.nil (List D))) (encL encI x47)))/\True)/\(∃ x48:RLx,((RLok x48)/\(((0=0/\0=0)/\(((szW (ofW x47 x47.length)=szW x48.ws)/\True)/\True))/\(((RLe 1 1/\(RowsEq [.sl [.int .i64,.int .i64,.int .i64],.sl [.sl [.int .i64]],.sl [.sl [.int .i64]]] 1 (encG (revG x14)) (encG x48.g)))/\(((RLe (szW x48.ws) (szW (ofW x47 x47.length)))/\(RowsEq [.int .u64] (szW x48.ws) (encL encW (ofW x47 x47.length)) (encL encW x48.ws)))/\True))/\(∃ x49:BitX,((WOk x49.ws)/\((((szW (ofW (reachQ x48.g (elemsZ x48.ws)) (reachQ x48.g (elemsZ x48.ws)).length)=szW x49.ws)/\True)/\(x1.a=x49.n/\True))/\((((RLe (szW x49.ws) (szW (ofW (reachQ x48.g (elemsZ x48.ws)) (reachQ x48.g (elemsZ x48.ws)).length)))/\(RowsEq [.int .u64] (szW x49.ws) (encL encW (ofW (reachQ x48.g (elemsZ x48.ws)) (reachQ x48.g (elemsZ x48.ws)).length)) (encL encW x49.ws)))/\True)/\((((decide ((0:Int)<=x46.n)&&hasW x46.ws (Int.toNat x46.n))==(decide ((0:Int)<=x49.n)&&hasW x49.ws (Int.toNat x49.n)))=true)/\True))))))))))))))))))))))))))))))))))))))))))))))))))))))))))))=(Keeps cfgRv7 Tryd.f8 (lawRv true) rvYI) by kernel_rfl) (fun x1=>fun h2=>⟨(default),
 trivial,trivial,trivial,
fun h4=>⟨(by(try dsimp only at *);omega),trivial⟩,
fun h5=>⟨(RVx.p x1),
(by(try dsimp only at *);exact(ok_in h2).2),
⟨⟨rfl,
⟨rfl,rfl⟩,trivial⟩,trivial⟩,
⟨⟨rl,rr⟩,trivial⟩,
⟨(RVx.p x1),trivial,
⟨⟨rfl,
⟨rfl,rfl⟩,trivial⟩,trivial⟩,
⟨⟨rl,rr⟩,trivial⟩,
fun g8=>have h8:=nF g8;⟨(default),trivial,rfl,trivial⟩,
fun g10=>have h10:=nT g10;⟨(default),trivial,
(by(try dsimp only at *);exact absurd (ok_in h2).1 ‹_›),trivial⟩⟩,
fun x12=>fun h13=>⟨(NewX.g (RVx.p x1)),
(by(try dsimp only at *);exact(ok_g h2).g),
⟨⟨rfl,rfl⟩,trivial⟩,
⟨⟨rl,rr⟩,trivial⟩,
⟨(revG (NewX.g (RVx.p x1))),trivial,
⟨⟨rfl,rfl⟩,trivial⟩,
⟨⟨rl,rr⟩,trivial⟩,
fun g16=>have h16:=dF g16;⟨(revG (NewX.g (RVx.p x1))),trivial,
⟨⟨rfl,rfl⟩,trivial⟩,
⟨⟨rl,rr⟩,trivial⟩,
(default),trivial,
(by(try dsimp only at *);exact decide_eq_false (fun q=>q (by rw[rv_len];rfl))),trivial⟩,
fun g19=>have h19:=dT g19;⟨(default),trivial,
(by(try dsimp only at *);exact absurd (err_g (ok_in h2).2).2.2 ‹_›),trivial⟩⟩,
fun x21=>fun h22=>⟨(revG (NewX.g (RVx.p x1))),
(by(try dsimp only at *);exact revG_ok (ok_g h2).g),
⟨⟨rfl,rfl⟩,trivial⟩,
⟨⟨rl,rr⟩,trivial⟩,
((0:Nat)),
⟨(by(try dsimp only at *);omega),
⟨(by(try dsimp only at *);omega),rfl,
⟨rfl,rfl⟩,
⟨rfl,rfl⟩,
⟨rfl,rfl⟩,rfl,
⟨rfl,rfl⟩,
⟨rfl,rfl⟩,
⟨rfl,
⟨rfl,rfl⟩,trivial⟩,rfl,rfl,trivial⟩,
⟨rl,rr⟩,
⟨rl,rr⟩,
⟨rl,rr⟩,
⟨rfl,
⟨rfl,rfl⟩,trivial⟩,
⟨rl,rr⟩,trivial⟩,
fun x25=>fun h26=>⟨fun g27=>have h27:=dT g27;⟨⟨(by(try dsimp only at *);omega),
(by(try dsimp only at *);omega)⟩,
(by(try dsimp only at *);omega),
({ g:=revG (NewX.g (RVx.p x1)),i:=(↑x25:Int):GIx }),trivial,
⟨⟨rfl,rfl⟩,rfl,trivial⟩,
⟨⟨rl,rr⟩,trivial⟩,
({ g:=revG (revG (NewX.g (RVx.p x1))),i:=(↑x25:Int):GIx }),trivial,
⟨⟨rfl,rfl⟩,rfl,trivial⟩,
⟨⟨rl,rr⟩,trivial⟩,
⟨fun g30=>have h30:=dF g30;⟨fun g31=>have h31:=dF g31;⟨fun g32=>have h32:=dF g32;⟨(default),trivial,
(by(try dsimp only at *);(rw[rv_e2 (g:=x1.p.g) h27];simp[NewX.g];done)),trivial⟩,
fun g34=>have h34:=dT g34;⟨(default),trivial,
(by(try dsimp only at *);exact absurd (congrArg Ed.d (rv_e (g:=x1.p.g) h27)) ‹_›),trivial⟩⟩,
fun g36=>have h36:=dT g36;⟨(default),trivial,
(by(try dsimp only at *);exact absurd (congrArg Ed.t (rv_e (g:=x1.p.g) h27)) ‹_›),trivial⟩⟩,
fun g38=>have h38:=dT g38;⟨(default),trivial,
(by(try dsimp only at *);exact absurd (congrArg Ed.f (rv_e (g:=x1.p.g) h27)) ‹_›),trivial⟩⟩,
fun x40=>fun h41=>⟨⟨(by(try dsimp only at *);omega),
(by(try dsimp only at *);(have:=(ok_in h2).1.2;omega))⟩,
(x25+(1:Nat)),
(by(try dsimp only at *);omega),
(by(try dsimp only at *);omega),
⟨(by(try dsimp only at *);omega),rfl,
⟨rfl,rfl⟩,
⟨rfl,rfl⟩,
⟨rfl,rfl⟩,rfl,
⟨rfl,rfl⟩,
⟨rfl,rfl⟩,
⟨rfl,
⟨rfl,rfl⟩,trivial⟩,rfl,rfl,trivial⟩,
⟨rl,rr⟩,
⟨rl,rr⟩,
⟨rl,rr⟩,
⟨rfl,
⟨rfl,rfl⟩,trivial⟩,
⟨rl,rr⟩,trivial⟩⟩,
fun g43=>have h43:=dF g43;⟨⟨⟨trivial,trivial⟩,trivial⟩,
(RVx.a x1::@List.nil Int),
(by(try dsimp only at *);grind),
⟨⟨rfl,
(by(try dsimp only at *);grind)⟩,trivial⟩,
⟨⟨⟨(by(try dsimp only at *);grind)⟩,
(by(try dsimp only at *);exact⟨fun r hr=>by have hr:r<1:=hr;rw[show r=0 by omega];exact⟨rfl,trivial⟩⟩)⟩,trivial⟩,
({ g:=NewX.g (RVx.p x1),ws:=aW (RVx.a x1):RLx }),
(by(try dsimp only at *);exact⟨(ok_g h2).g,ofW_ok _ _⟩),
⟨⟨rfl,rfl⟩,
⟨(by(try dsimp only at *);rfl),trivial⟩,trivial⟩,
⟨⟨rl,rr⟩,
⟨⟨(by(try dsimp only at *);exact Nat.le_refl _)⟩,
(by(try dsimp only at *);exact rr)⟩,trivial⟩,
({ ws:=rW (NewX.g (RVx.p x1)) (aW (RVx.a x1)),n:=RVx.b x1:BitX }),
(by(try dsimp only at *);exact rW_ok _ _),
⟨⟨(by(try dsimp only at *);rfl),trivial⟩,rfl,trivial⟩,
⟨⟨⟨(by(try dsimp only at *);exact Nat.le_refl _)⟩,
(by(try dsimp only at *);exact rr)⟩,trivial⟩,
⟨⟨trivial,trivial⟩,trivial⟩,
(RVx.b x1::@List.nil Int),
(by(try dsimp only at *);grind),
⟨⟨rfl,
(by(try dsimp only at *);grind)⟩,trivial⟩,
⟨⟨⟨(by(try dsimp only at *);grind)⟩,
(by(try dsimp only at *);exact⟨fun r hr=>by have hr:r<1:=hr;rw[show r=0 by omega];exact⟨rfl,trivial⟩⟩)⟩,trivial⟩,
({ g:=revG (NewX.g (RVx.p x1)),ws:=aW (RVx.b x1):RLx }),
(by(try dsimp only at *);exact⟨revG_ok (ok_g h2).g,ofW_ok _ _⟩),
⟨⟨rfl,rfl⟩,
⟨(by(try dsimp only at *);rfl),trivial⟩,trivial⟩,
⟨⟨rl,rr⟩,
⟨⟨(by(try dsimp only at *);exact Nat.le_refl _)⟩,
(by(try dsimp only at *);exact rr)⟩,trivial⟩,
({ ws:=rW (revG (NewX.g (RVx.p x1))) (aW (RVx.b x1)),n:=RVx.a x1:BitX }),
(by(try dsimp only at *);exact rW_ok _ _),
⟨⟨(by(try dsimp only at *);rfl),trivial⟩,rfl,trivial⟩,
⟨⟨⟨(by(try dsimp only at *);exact Nat.le_refl _)⟩,
(by(try dsimp only at *);exact rr)⟩,trivial⟩,
(by(try dsimp only at *);exact rv_has (ok_g h2) x1.a x1.b),trivial⟩⟩⟩⟩⟩⟩)
end Go.Sym