import Derived.Test.YtlldhkhmhgcpaaaDoorPL1
import Derived.Test.YtlldhkhmhgcpaaaDoorN6
import Derived.Test.YtlldhkhmhgcpaaaDoorXD
namespace Go.Sym
set_option linter.unusedVariables false
set_option linter.unusedSimpArgs false
open Go.Proofs
set_option maxRecDepth 100000
set_option maxHeartbeats 4000000
def nanC:CT where
 X:=Int
 pre:=fun _=>True
 args:=fun a=>[.i .i64 a]
 g0:=fun _=>[]
 res:=fun _=>.b false
 g1:=fun _=>[]
set_option maxRecDepth 100000 in
theorem nan_keeps:Keeps cfgN0 Tryd.f97 nanC noIv:=Eq.mp (show((∀ x1:Int,(True->((decide (x1≠x1)=false)/\True))))=(Keeps cfgN0 Tryd.f97 nanC noIv) by kernel_rfl) (fun x1=>fun h2=>⟨(by grind),trivial⟩)
theorem nan_good:Good Tryd.prog 97 nanC/\FnOk Tryd.prog 97:=good_of tok conN0 (fn:=Tryd.f97) rfl (by decide+kernel) (fun _=>rfl) nan_keeps
def cmpC:CT where
 X:=I2x
 pre:=fun _=>True
 args:=fun x=>[.i .i64 x.a,.i .i64 x.b]
 g0:=fun _=>[]
 res:=fun x=>.i .i64 (cmpI x.a x.b)
 g1:=fun _=>[]
def cfgJ1:Cfg:=⟨T,[],[(97,.one nanC)],noInv,20,{}⟩
theorem conJ1:ConOk Tryd.prog cfgJ1:=ConL.ok (.cons (ConL.one nan_good) .nil)
set_option maxRecDepth 100000 in
theorem cmp_keeps:Keeps cfgJ1 Tryd.f77 cmpC noIv:=Eq.mp (show((∀ x1:I2x,(True->(∃ x3:Int,(True/\((x1.a=x3/\True)/\(True/\(∃ x4:Int,(True/\((x1.b=x4/\True)/\(True/\((false=true->((false=true->(((0:Int)=cmpI x1.a x1.b)/\True))/\(false=false->(((-1:Int)=cmpI x1.a x1.b)/\True))))/\(false=false->((false=true->(((1:Int)=cmpI x1.a x1.b)/\True))/\(false=false->(((decide (x1.a<x1.b)=true)->(((-1:Int)=cmpI x1.a x1.b)/\True))/\((decide (x1.a<x1.b)=false)->(((decide (x1.b<x1.a)=true)->(((1:Int)=cmpI x1.a x1.b)/\True))/\((decide (x1.b<x1.a)=false)->(((0:Int)=cmpI x1.a x1.b)/\True))))))))))))))))))))=(Keeps cfgJ1 Tryd.f77 cmpC noIv) by kernel_rfl) (fun x1=>fun h2=>⟨(I2x.a x1),trivial,
⟨rfl,trivial⟩,trivial,
(I2x.b x1),trivial,
⟨rfl,trivial⟩,trivial,
fun h5=>⟨fun h6=>⟨(by(try dsimp only at *);grind),trivial⟩,
fun h7=>⟨(by(try dsimp only at *);grind),trivial⟩⟩,
fun h8=>⟨fun h9=>⟨(by(try dsimp only at *);grind),trivial⟩,
fun h10=>⟨fun g11=>have h11:=dT g11;⟨(by(try dsimp only at *);exact(cmp_lt ‹_›).symm),trivial⟩,
fun g12=>have h12:=dF g12;⟨fun g13=>have h13:=dT g13;⟨(by(try dsimp only at *);exact(cmp_gt ‹_› ‹_›).symm),trivial⟩,
fun g14=>have h14:=dF g14;⟨(by(try dsimp only at *);exact(cmp_eq ‹_› ‹_›).symm),trivial⟩⟩⟩⟩⟩)
theorem cmp_good:Good Tryd.prog 77 cmpC/\FnOk Tryd.prog 77:=good_of tok conJ1 (fn:=Tryd.f77) rfl (by decide+kernel) (fun _=>rfl) cmp_keeps
set_option maxRecDepth 100000 in
theorem nani_keeps:Keeps cfgN0 Tryd.f63 nanC noIv:=Eq.mp (show((∀ x1:Int,(True->((decide (x1≠x1)=false)/\True))))=(Keeps cfgN0 Tryd.f63 nanC noIv) by kernel_rfl) (fun x1=>fun h2=>⟨(by grind),trivial⟩)
theorem nani_good:Good Tryd.prog 63 nanC/\FnOk Tryd.prog 63:=good_of tok conN0 (fn:=Tryd.f63) rfl (by decide+kernel) (fun _=>rfl) nani_keeps
def cfgJ2:Cfg:=⟨T,[],[(63,.one nanC)],noInv,20,{}⟩
theorem conJ2:ConOk Tryd.prog cfgJ2:=ConL.ok (.cons (ConL.one nani_good) .nil)
set_option maxRecDepth 100000 in
theorem cmpi_keeps:Keeps cfgJ2 Tryd.f47 cmpC noIv:=Eq.mp (show((∀ x1:I2x,(True->(∃ x3:Int,(True/\((x1.a=x3/\True)/\(True/\(∃ x4:Int,(True/\((x1.b=x4/\True)/\(True/\((false=true->((false=true->(((0:Int)=cmpI x1.a x1.b)/\True))/\(false=false->(((-1:Int)=cmpI x1.a x1.b)/\True))))/\(false=false->((false=true->(((1:Int)=cmpI x1.a x1.b)/\True))/\(false=false->(((decide (x1.a<x1.b)=true)->(((-1:Int)=cmpI x1.a x1.b)/\True))/\((decide (x1.a<x1.b)=false)->(((decide (x1.b<x1.a)=true)->(((1:Int)=cmpI x1.a x1.b)/\True))/\((decide (x1.b<x1.a)=false)->(((0:Int)=cmpI x1.a x1.b)/\True))))))))))))))))))))=(Keeps cfgJ2 Tryd.f47 cmpC noIv) by kernel_rfl) (fun x1=>fun h2=>⟨(I2x.a x1),trivial,
⟨rfl,trivial⟩,trivial,
(I2x.b x1),trivial,
⟨rfl,trivial⟩,trivial,
fun h5=>⟨fun h6=>⟨(by(try dsimp only at *);grind),trivial⟩,
fun h7=>⟨(by(try dsimp only at *);grind),trivial⟩⟩,
fun h8=>⟨fun h9=>⟨(by(try dsimp only at *);grind),trivial⟩,
fun h10=>⟨fun g11=>have h11:=dT g11;⟨(by(try dsimp only at *);exact(cmp_lt ‹_›).symm),trivial⟩,
fun g12=>have h12:=dF g12;⟨fun g13=>have h13:=dT g13;⟨(by(try dsimp only at *);exact(cmp_gt ‹_› ‹_›).symm),trivial⟩,
fun g14=>have h14:=dF g14;⟨(by(try dsimp only at *);exact(cmp_eq ‹_› ‹_›).symm),trivial⟩⟩⟩⟩⟩)
theorem cmpi_good:Good Tryd.prog 47 cmpC/\FnOk Tryd.prog 47:=good_of tok conJ2 (fn:=Tryd.f47) rfl (by decide+kernel) (fun _=>rfl) cmpi_keeps
def orC:CT where
 X:=List Int
 pre:=fun l=>l.length<=100
 args:=fun l=>[.sl 100000 0 l.length]
 g0:=fun l=>[(100000,.rows .bor k1 l.length (encL encI l))]
 res:=fun l=>.i .i64 (orF l)
 g1:=fun _=>[]
def orI (l:List Int) (id:Nat):Option Inv:=match id with
 |0=>some { X:=Nat,ok:=fun k=>k<=l.length/\∀ z∈l.take k,z=0,fr:=fun k=>[(8,.i .i64 k)],hp:=fun _=>[],me:=fun k=>l.length-k }
 |_=>none
theorem or_step {l:List Int} {k:Nat} (h:k<=l.length/\∀ z∈l.take k,z=0) (hk:(k:Int)<l.length) (h0:¬ l.getD (0+(k:Int).toNat) default≠0):∀ z∈l.take (k+1),z=0:=by
 rw[nat0]at h0
 rw[take_succ_getD (d:=default) (by omega)]
 intro z hz
 rcases List.mem_append.1 hz with q|q
 ·exact h.2 z q
 ·rw[List.mem_singleton]at q;subst q;exact Classical.not_not.1 h0
set_option maxRecDepth 100000 in
theorem or_keeps:Keeps cfgN0 Tryd.f76 orC orI:=Eq.mp (show((∀ x1:List Int,((x1.length<=(100:Nat))->(∃ x3:Nat,((((x3<=x1.length)/\(∀ z4:Int,((z4∈List.take x3 x1)->z4=0)))/\(((0=(x3:Int))/\(((x1.length:Int)=(x1.length:Int))/\((0=0/\x1.length=x1.length)/\(((0:Int)=0)/\((0=0/\x1.length=x1.length)/\True)))))/\(((RLe x1.length x1.length)/\(RI x1.length x1 x1))/\True)))/\(∀ x6:Nat,((x6<=x1.length/\∀(z:Int),z∈List.take x6 x1->z=(0:Int))->(((decide ((x6:Int)<(x1.length:Int))=true)->((((0:Int)<=(x6:Int))/\((x6:Int)<(x1.length:Int)))/\((0+Int.toNat (x6:Int)<x1.length)/\(((decide (x1.getD (0+Int.toNat (x6:Int)) default≠(0:Int))=true)->((x1.getD (0+Int.toNat (x6:Int)) default=orF x1)/\True))/\((decide (x1.getD (0+Int.toNat (x6:Int)) default≠(0:Int))=false)->((((-9223372036854775808:Int)<=(x6:Int)+1)/\((x6:Int)+1<=(9223372036854775807:Int)))/\(∃ x11:Nat,((x1.length-x11<x1.length-x6)/\(((x11<=x1.length)/\(∀ z12:Int,((z12∈List.take x11 x1)->z12=0)))/\((((x6:Int)+1=(x11:Int))/\(((x1.length:Int)=(x1.length:Int))/\((0=0/\x1.length=x1.length)/\(((0:Int)=0)/\((0=0/\x1.length=x1.length)/\True)))))/\(((RLe x1.length x1.length)/\(RI x1.length x1 x1))/\True)))))))))))/\((decide ((x6:Int)<(x1.length:Int))=false)->(((0:Int)=orF x1)/\True))))))))))=(Keeps cfgN0 Tryd.f76 orC orI) by kernel_rfl) (fun x1=>fun h2=>⟨((0:Nat)),
⟨⟨(by(try dsimp only at *);omega),
fun z4=>fun h5=>(by(try dsimp only at *);grind)⟩,
⟨(by(try dsimp only at *);omega),rfl,
⟨rfl,rfl⟩,rfl,
⟨rfl,rfl⟩,trivial⟩,
⟨rl,rr⟩,trivial⟩,
fun x6=>fun h7=>⟨fun g8=>have h8:=dT g8;⟨⟨(by(try dsimp only at *);omega),
(by(try dsimp only at *);omega)⟩,
(by(try dsimp only at *);omega),
fun g9=>have h9:=dT g9;⟨(by(try dsimp only at *);(rw[nat0]at *;exact(orF_take (by omega) h7.2 ‹_›).symm)),trivial⟩,
fun g10=>have h10:=dF g10;⟨⟨(by(try dsimp only at *);omega),
(by(try dsimp only at *);omega)⟩,
(x6+(1:Nat)),
(by(try dsimp only at *);omega),
⟨(by(try dsimp only at *);omega),
fun z12=>fun h13=>(by(try dsimp only at *);exact or_step h7 ‹_› ‹_› _ h13)⟩,
⟨(by(try dsimp only at *);omega),rfl,
⟨rfl,rfl⟩,rfl,
⟨rfl,rfl⟩,trivial⟩,
⟨rl,rr⟩,trivial⟩⟩,
fun g14=>have h14:=dF g14;⟨(by(try dsimp only at *);(have q:=h7.2;rw[List.take_of_length_le (by omega)]at q;exact(orF_none q).symm)),trivial⟩⟩⟩)
theorem or_good:Good Tryd.prog 76 orC/\FnOk Tryd.prog 76:=good_of tok conN0 (fn:=Tryd.f76) rfl (by decide+kernel) (fun _=>rfl) or_keeps
def kM:List Kd:=[.int .i64,.int .i64]
def encM (m:Mv):Nat->D:=encN [.i m.1,.i m.2]
def mvV (m:Mv):SV:=.agg [.i .i64 m.1,.i .i64 m.2]
structure MMx where
 a:Mv
 b:Mv
def mmC:CT where
 X:=MMx
 pre:=fun _=>True
 args:=fun x=>[mvV x.a,mvV x.b]
 g0:=fun _=>[]
 res:=fun x=>.i .i64 (cmpMv x.a x.b)
 g1:=fun _=>[]
theorem litI {l:List Int} {rs:List (List D)} (h:rs=l.map fun n=>[D.i n]):RowsEq k1 l.length (litRows rs) (encL encI l):=by
 subst h
 refine⟨fun r hr=>?_⟩
 unfold litRows encL
 simp only[k1,rowEq,and_true,Kd.eqv]
 simp[List.getD_eq_getElem?_getD,List.getElem?_map,List.getElem?_eq_getElem hr,encI,D.toI]
def cfgMm:Cfg:=⟨T,[],[(47,.one cmpC),(76,.one orC)],noInv,30,{ kn:=true }⟩
theorem conMm:ConOk Tryd.prog cfgMm:=ConL.ok (.cons (ConL.one cmpi_good) (.cons (ConL.one or_good) .nil))
set_option maxRecDepth 100000 in
theorem mm_keeps:Keeps cfgMm Tryd.f99 mmC noIv:=Eq.mp (show((∀ x1:MMx,(True->(∃ x3:I2x,(True/\(((Prod.fst x1.a=x3.a)/\((Prod.fst x1.b=x3.b)/\True))/\(True/\(∃ x4:I2x,(True/\(((Prod.snd x1.a=x4.a)/\((Prod.snd x1.b=x4.b)/\True))/\(True/\(((True/\True)/\((True/\True)/\True))/\(∃ x5:List Int,((x5.length<=(100:Nat))/\(((0=0/\((2:Nat)=x5.length))/\True)/\((((RLe x5.length 2)/\(RowsEq [.int .i64] x5.length (litRows ((D.i (cmpI x3.a x3.b)::@List.nil D)::(D.i (cmpI x4.a x4.b)::@List.nil D)::@List.nil (List D))) (encL encI x5)))/\True)/\((orF x5=cmpMv x1.a x1.b)/\True)))))))))))))))))=(Keeps cfgMm Tryd.f99 mmC noIv) by kernel_rfl) (fun x1=>fun h2=>⟨({ a:=Prod.fst (MMx.a x1),b:=Prod.fst (MMx.b x1):I2x }),trivial,
⟨rfl,rfl,trivial⟩,trivial,
({ a:=Prod.snd (MMx.a x1),b:=Prod.snd (MMx.b x1):I2x }),trivial,
⟨rfl,rfl,trivial⟩,trivial,
⟨⟨trivial,trivial⟩,
⟨trivial,trivial⟩,trivial⟩,
(cmpI (Prod.fst (MMx.a x1)) (Prod.fst (MMx.b x1))::cmpI (Prod.snd (MMx.a x1)) (Prod.snd (MMx.b x1))::@List.nil Int),
(by(try dsimp only at *);grind),
⟨⟨rfl,
(by(try dsimp only at *);grind)⟩,trivial⟩,
⟨⟨⟨(by(try dsimp only at *);grind)⟩,
(by(try dsimp only at *);exact litI rfl)⟩,trivial⟩,
(by(try dsimp only at *);rfl),trivial⟩)
theorem mm_good:Good Tryd.prog 99 mmC/\FnOk Tryd.prog 99:=good_of tok conMm (fn:=Tryd.f99) rfl (by decide+kernel) (fun _=>rfl) mm_keeps
structure MLx where
 a:List Mv
 b:List Mv
def mfC:CT where
 X:=MLx
 pre:=fun x=>x.a.length<=100
 args:=fun x=>[.sl 100000 0 x.a.length,.sl 100001 0 x.b.length,.fn 99 []]
 g0:=fun x=>[(100000,.rows .bor kM x.a.length (encL encM x.a)),(100001,.rows .bor kM x.b.length (encL encM x.b))]
 res:=fun x=>.i .i64 (cmpMs x.a x.b)
 g1:=fun _=>[]
theorem cms_drop {a b:List Mv} {k:Nat} (ha:k<a.length):(¬ k<b.length->cmpMs (a.drop k) (b.drop k)=1)/\(k<b.length->cmpMs (a.drop k) (b.drop k)=if cmpMv (a.getD k default) (b.getD k default)≠0 then cmpMv (a.getD k default) (b.getD k default)else cmpMs (a.drop (k+1)) (b.drop (k+1))):=by
 have ea:a.drop k=a.getD k default::a.drop (k+1):=by
  rw[List.drop_eq_getElem_cons ha,List.getD_eq_getElem?_getD,List.getElem?_eq_getElem ha]
  rfl
 refine⟨fun h=>?_,fun h=>?_⟩
 ·rw[ea,List.drop_of_length_le (l:=b) (by omega)]
  rfl
 ·have eb:b.drop k=b.getD k default::b.drop (k+1):=by
   rw[List.drop_eq_getElem_cons h,List.getD_eq_getElem?_getD,List.getElem?_eq_getElem h]
   rfl
  rw[ea,eb]
  rfl
def mfOk (x:MLx) (k:Nat):Prop:=k<=x.a.length/\k<=x.b.length/\cmpMs (x.a.drop k) (x.b.drop k)=cmpMs x.a x.b
def mfI (x:MLx) (id:Nat):Option Inv:=match id with
 |0=>some { X:=Nat,ok:=fun k=>mfOk x k,fr:=fun k=>[(0,.sl 100000 0 x.a.length),(1,.sl 100001 0 x.b.length),(2,.fn 99 []),(11,.sl 100000 0 x.a.length),(12,.i .i64 x.a.length),(13,.i .i64 k)],hp:=fun _=>[(100000,.rows .bor kM x.a.length (encL encM x.a)),(100001,.rows .bor kM x.b.length (encL encM x.b))],me:=fun k=>x.a.length-k }
 |_=>none
theorem mf_0 {x:MLx}:mfOk x 0:=⟨Nat.zero_le _,Nat.zero_le _,rfl⟩
theorem mf_1 {x:MLx} {k:Nat} (h:mfOk x k) (hk:(k:Int)<x.a.length) (h1:(x.b.length:Int)<=k):1=cmpMs x.a x.b:=by
 rw[<- h.2.2,(cms_drop (by omega)).1 (by omega)]
theorem mf_2 {x:MLx} {k:Nat} (h:mfOk x k) (hk:(k:Int)<x.a.length) (h1:¬ (x.b.length:Int)<=k) (h2:cmpMv (x.a.getD (0+(k:Int).toNat) default) (x.b.getD (0+(k:Int).toNat) default)≠0):cmpMv (x.a.getD (0+(k:Int).toNat) default) (x.b.getD (0+(k:Int).toNat) default)=cmpMs x.a x.b:=by
 rw[nat0]at*
 rw[<- h.2.2,(cms_drop (by omega)).2 (by omega),if_pos h2]
theorem mf_3 {x:MLx} {k:Nat} (h:mfOk x k) (hk:(k:Int)<x.a.length) (h1:¬ (x.b.length:Int)<=k) (h2:¬ cmpMv (x.a.getD (0+(k:Int).toNat) default) (x.b.getD (0+(k:Int).toNat) default)≠0):mfOk x (k+1):=by
 rw[nat0]at*
 refine⟨by omega,by omega,?_⟩
 rw[<- h.2.2,(cms_drop (k:=k) (by omega)).2 (by omega),if_neg h2]
theorem mf_4 {x:MLx} {k:Nat} (h:mfOk x k) (hk:¬ (k:Int)<x.a.length) (h1:(x.a.length:Int)<x.b.length): -1=cmpMs x.a x.b:=by
 have e:k=x.a.length:=by have:=h.1;omega
 rw[<- h.2.2,List.drop_of_length_le (l:=x.a) (by omega),List.drop_eq_getElem_cons (show k<x.b.length by omega)]
 rfl
theorem mf_5 {x:MLx} {k:Nat} (h:mfOk x k) (hk:¬ (k:Int)<x.a.length) (h1:¬ (x.a.length:Int)<x.b.length):0=cmpMs x.a x.b:=by
 have:=h.2.1
 rw[<- h.2.2,List.drop_of_length_le (l:=x.a) (by omega),List.drop_of_length_le (l:=x.b) (by omega)]
 rfl
def cfgMf:Cfg:=⟨T,[],[(99,.one mmC)],noInv,30,{ kn:=true }⟩
theorem conMf:ConOk Tryd.prog cfgMf:=ConL.ok (.cons (ConL.one mm_good) .nil)
set_option maxRecDepth 100000 in
theorem mf_keeps:Keeps cfgMf Tryd.f98 mfC mfI:=Eq.mp (show((∀ x1:MLx,((x1.a.length<=(100:Nat))->(∃ x3:Nat,(((mfOk x1 x3)/\(((0=0/\x1.a.length=x1.a.length)/\((0=0/\x1.b.length=x1.b.length)/\(True/\((0=0/\x1.a.length=x1.a.length)/\(((x1.a.length:Int)=(x1.a.length:Int))/\((0=(x3:Int))/\True))))))/\(((RLe x1.a.length x1.a.length)/\(RowsEq [.int .i64,.int .i64] x1.a.length (encL encM x1.a) (encL encM x1.a)))/\(((RLe x1.b.length x1.b.length)/\(RowsEq [.int .i64,.int .i64] x1.b.length (encL encM x1.b) (encL encM x1.b)))/\True))))/\(∀ x4:Nat,((mfOk x1 x4)->(((decide ((x4:Int)<(x1.a.length:Int))=true)->((((0:Int)<=(x4:Int))/\((x4:Int)<(x1.a.length:Int)))/\((0+Int.toNat (x4:Int)<x1.a.length)/\(((decide ((x1.b.length:Int)<=(x4:Int))=true)->(((1:Int)=cmpMs x1.a x1.b)/\True))/\((decide ((x1.b.length:Int)<=(x4:Int))=false)->((((0:Int)<=(x4:Int))/\((x4:Int)<(x1.b.length:Int)))/\((0+Int.toNat (x4:Int)<x1.b.length)/\(∃ x9:MMx,(True/\((((Prod.fst (x1.a.getD (0+Int.toNat (x4:Int)) default)=Prod.fst x9.a)/\((Prod.snd (x1.a.getD (0+Int.toNat (x4:Int)) default)=Prod.snd x9.a)/\True))/\(((Prod.fst (x1.b.getD (0+Int.toNat (x4:Int)) default)=Prod.fst x9.b)/\((Prod.snd (x1.b.getD (0+Int.toNat (x4:Int)) default)=Prod.snd x9.b)/\True))/\True))/\(True/\(((decide (cmpMv x9.a x9.b≠(0:Int))=true)->((cmpMv x9.a x9.b=cmpMs x1.a x1.b)/\True))/\((decide (cmpMv x9.a x9.b≠(0:Int))=false)->((((-9223372036854775808:Int)<=(x4:Int)+1)/\((x4:Int)+1<=(9223372036854775807:Int)))/\(∃ x12:Nat,((x1.a.length-x12<x1.a.length-x4)/\((mfOk x1 x12)/\(((0=0/\x1.a.length=x1.a.length)/\((0=0/\x1.b.length=x1.b.length)/\(True/\((0=0/\x1.a.length=x1.a.length)/\(((x1.a.length:Int)=(x1.a.length:Int))/\(((x4:Int)+1=(x12:Int))/\True))))))/\(((RLe x1.a.length x1.a.length)/\(RowsEq [.int .i64,.int .i64] x1.a.length (encL encM x1.a) (encL encM x1.a)))/\(((RLe x1.b.length x1.b.length)/\(RowsEq [.int .i64,.int .i64] x1.b.length (encL encM x1.b) (encL encM x1.b)))/\True))))))))))))))))))))/\((decide ((x4:Int)<(x1.a.length:Int))=false)->(((decide ((x1.a.length:Int)<(x1.b.length:Int))=true)->(((-1:Int)=cmpMs x1.a x1.b)/\True))/\((decide ((x1.a.length:Int)<(x1.b.length:Int))=false)->(((0:Int)=cmpMs x1.a x1.b)/\True))))))))))))=(Keeps cfgMf Tryd.f98 mfC mfI) by kernel_rfl) (fun x1=>fun h2=>⟨((0:Nat)),
⟨(by(try dsimp only at *);exact mf_0),
⟨⟨rfl,rfl⟩,
⟨rfl,rfl⟩,trivial,
⟨rfl,rfl⟩,rfl,
(by(try dsimp only at *);omega),trivial⟩,
⟨rl,rr⟩,
⟨rl,rr⟩,trivial⟩,
fun x4=>fun h5=>⟨fun g6=>have h6:=dT g6;⟨⟨(by(try dsimp only at *);omega),
(by(try dsimp only at *);omega)⟩,
(by(try dsimp only at *);omega),
fun g7=>have h7:=dT g7;⟨(by(try dsimp only at *);exact mf_1 ‹_› ‹_› ‹_›),trivial⟩,
fun g8=>have h8:=dF g8;⟨⟨(by(try dsimp only at *);omega),
(by(try dsimp only at *);omega)⟩,
(by(try dsimp only at *);omega),
({ a:=List.getD (MLx.a x1) ((0:Nat)+Int.toNat (↑x4:Int)) default,b:=List.getD (MLx.b x1) ((0:Nat)+Int.toNat (↑x4:Int)) default:MMx }),trivial,
⟨⟨rfl,rfl,trivial⟩,
⟨rfl,rfl,trivial⟩,trivial⟩,trivial,
fun g10=>have h10:=dT g10;⟨(by(try dsimp only at *);exact mf_2 ‹_› ‹_› ‹_› ‹_›),trivial⟩,
fun g11=>have h11:=dF g11;⟨⟨(by(try dsimp only at *);omega),
(by(try dsimp only at *);omega)⟩,
(x4+(1:Nat)),
(by(try dsimp only at *);omega),
(by(try dsimp only at *);exact mf_3 ‹_› ‹_› ‹_› ‹_›),
⟨⟨rfl,rfl⟩,
⟨rfl,rfl⟩,trivial,
⟨rfl,rfl⟩,rfl,
(by(try dsimp only at *);omega),trivial⟩,
⟨rl,rr⟩,
⟨rl,rr⟩,trivial⟩⟩⟩,
fun g13=>have h13:=dF g13;⟨fun g14=>have h14:=dT g14;⟨(by(try dsimp only at *);exact mf_4 ‹_› ‹_› ‹_›),trivial⟩,
fun g15=>have h15:=dF g15;⟨(by(try dsimp only at *);exact mf_5 ‹_› ‹_› ‹_›),trivial⟩⟩⟩⟩)
theorem mf_good:Good Tryd.prog 98 mfC/\FnOk Tryd.prog 98:=good_of tok conMf (fn:=Tryd.f98) rfl (by decide+kernel) (fun _=>rfl) mf_keeps
end Go.Sym