import Derived.Test.YtlldhkhmhgcpaaaGreatDoorSH
import Derived.Test.YtlldhkhmhgcpaaaGreatDoorN6
import Derived.Test.YtlldhkhmhgcpaaaGreatDoorXD
import Derived.Test.YtlldhkhmhgcpaaaGreatDoorV1
import Derived.Test.YtlldhkhmhgcpaaaGreatDoorT40
namespace Go.Sym
set_option linter.unusedVariables false
set_option linter.unusedSimpArgs false
open Go.Proofs
set_option maxRecDepth 100000
set_option maxHeartbeats 4000000
def nanC:CT where
 X:=Int
 pre:=fun _=>True
 args:=fun a=>[.i .i64 a]
 g0:=fun _=>[]
 res:=fun _=>.b false
 g1:=fun _=>[]
set_option maxRecDepth 100000 in
theorem nan_keeps:Keeps cfgN0 Tryz.f106 nanC noIv:=Eq.mp (show(∀ x1:Int,(True->((decide (x1≠x1)=false)/\True)))=(Keeps cfgN0 Tryz.f106 nanC noIv) by kernel_rfl) (fun x1=>fun h2=>⟨(by grind),trivial⟩)
theorem nan_good:Good Tryz.prog 106 nanC/\FnOk Tryz.prog 106:=good_of tok conN0 (fn:=Tryz.f106) rfl (by decide+kernel) (fun _=>rfl) nan_keeps
def cmpC:CT where
 X:=I2x
 pre:=fun _=>True
 args:=fun x=>[.i .i64 x.a,.i .i64 x.b]
 g0:=fun _=>[]
 res:=fun x=>.i .i64 (cmpI x.a x.b)
 g1:=fun _=>[]
def cfgJ1:Cfg:=⟨T,[],[(106,.one nanC)],noInv,20,{}⟩
theorem conJ1:ConOk Tryz.prog cfgJ1:=ConL.ok (.cons (ConL.one nan_good) .nil)
set_option maxRecDepth 100000 in
theorem cmp_keeps:Keeps cfgJ1 Tryz.f87 cmpC noIv:=Eq.mp (show(∀ x1:I2x,(True->(∃ x3:Int,(True/\((x1.a=x3/\True)/\(True/\(∃ x4:Int,(True/\((x1.b=x4/\True)/\(True/\(CB false (CB false (((0:Int)=cmpI x1.a x1.b)/\True) (((-1:Int)=cmpI x1.a x1.b)/\True)) (CB false (((1:Int)=cmpI x1.a x1.b)/\True) (CB (decide (x1.a<x1.b)) (((-1:Int)=cmpI x1.a x1.b)/\True) (CB (decide (x1.b<x1.a)) (((1:Int)=cmpI x1.a x1.b)/\True) (((0:Int)=cmpI x1.a x1.b)/\True)))))))))))))))=(Keeps cfgJ1 Tryz.f87 cmpC noIv) by kernel_rfl) (fun x1=>fun h2=>⟨(I2x.a x1),trivial,⟨rfl,trivial⟩,trivial,(I2x.b x1),trivial,⟨rfl,trivial⟩,trivial,fun h5=>⟨fun h6=>⟨(by grind),trivial⟩,fun h7=>⟨(by grind),trivial⟩⟩,fun h8=>⟨fun h9=>⟨(by grind),trivial⟩,fun h10=>⟨fun g11=>have h11:=dT g11;⟨(by exact(cmp_lt ‹_›).symm),trivial⟩,fun g12=>have h12:=dF g12;⟨fun g13=>have h13:=dT g13;⟨(by exact(cmp_gt ‹_› ‹_›).symm),trivial⟩,fun g14=>have h14:=dF g14;⟨(by exact(cmp_eq ‹_› ‹_›).symm),trivial⟩⟩⟩⟩⟩)
theorem cmp_good:Good Tryz.prog 87 cmpC/\FnOk Tryz.prog 87:=good_of tok conJ1 (fn:=Tryz.f87) rfl (by decide+kernel) (fun _=>rfl) cmp_keeps
set_option maxRecDepth 100000 in
theorem nani_keeps:Keeps cfgN0 Tryz.f73 nanC noIv:=Eq.mp (show(∀ x1:Int,(True->((decide (x1≠x1)=false)/\True)))=(Keeps cfgN0 Tryz.f73 nanC noIv) by kernel_rfl) (fun x1=>fun h2=>⟨(by grind),trivial⟩)
theorem nani_good:Good Tryz.prog 73 nanC/\FnOk Tryz.prog 73:=good_of tok conN0 (fn:=Tryz.f73) rfl (by decide+kernel) (fun _=>rfl) nani_keeps
def cfgJ2:Cfg:=⟨T,[],[(73,.one nanC)],noInv,20,{}⟩
theorem conJ2:ConOk Tryz.prog cfgJ2:=ConL.ok (.cons (ConL.one nani_good) .nil)
set_option maxRecDepth 100000 in
theorem cmpi_keeps:Keeps cfgJ2 Tryz.f53 cmpC noIv:=Eq.mp (show(∀ x1:I2x,(True->(∃ x3:Int,(True/\((x1.a=x3/\True)/\(True/\(∃ x4:Int,(True/\((x1.b=x4/\True)/\(True/\(CB false (CB false (((0:Int)=cmpI x1.a x1.b)/\True) (((-1:Int)=cmpI x1.a x1.b)/\True)) (CB false (((1:Int)=cmpI x1.a x1.b)/\True) (CB (decide (x1.a<x1.b)) (((-1:Int)=cmpI x1.a x1.b)/\True) (CB (decide (x1.b<x1.a)) (((1:Int)=cmpI x1.a x1.b)/\True) (((0:Int)=cmpI x1.a x1.b)/\True)))))))))))))))=(Keeps cfgJ2 Tryz.f53 cmpC noIv) by kernel_rfl) (fun x1=>fun h2=>⟨(I2x.a x1),trivial,⟨rfl,trivial⟩,trivial,(I2x.b x1),trivial,⟨rfl,trivial⟩,trivial,fun h5=>⟨fun h6=>⟨(by grind),trivial⟩,fun h7=>⟨(by grind),trivial⟩⟩,fun h8=>⟨fun h9=>⟨(by grind),trivial⟩,fun h10=>⟨fun g11=>have h11:=dT g11;⟨(by exact(cmp_lt ‹_›).symm),trivial⟩,fun g12=>have h12:=dF g12;⟨fun g13=>have h13:=dT g13;⟨(by exact(cmp_gt ‹_› ‹_›).symm),trivial⟩,fun g14=>have h14:=dF g14;⟨(by exact(cmp_eq ‹_› ‹_›).symm),trivial⟩⟩⟩⟩⟩)
theorem cmpi_good:Good Tryz.prog 53 cmpC/\FnOk Tryz.prog 53:=good_of tok conJ2 (fn:=Tryz.f53) rfl (by decide+kernel) (fun _=>rfl) cmpi_keeps
def orC:CT where
 X:=List Int
 pre:=fun l=>l.length<=100
 args:=fun l=>[.sl 100000 0 l.length]
 g0:=fun l=>[(100000,.rows .bor k1 l.length (encL encI l))]
 res:=fun l=>.i .i64 (orF l)
 g1:=fun _=>[]
def orI (l:List Int) (id:Nat):Option Inv:=match id with
 |0=>some { X:=Nat,ok:=fun k=>k<=l.length/\∀ z∈l.take k,z=0,fr:=fun k=>[(8,.i .i64 k)],hp:=fun _=>[],me:=fun k=>l.length-k }
 |_=>none
theorem or_step {l:List Int} {k:Nat} (h:k<=l.length/\∀ z∈l.take k,z=0) (hk:(k:Int)<l.length) (h0:¬ l.getD (0+(k:Int).toNat) default≠0):∀ z∈l.take (k+1),z=0:=by
 rw[nat0]at h0
 rw[take_succ_getD (d:=default) (by omega)]
 intro z hz
 rcases List.mem_append.1 hz with q|q
 ·exact h.2 z q
 ·rw[List.mem_singleton]at q;subst q;exact Classical.not_not.1 h0
abbrev q32F0 (x1:List Int):Prop:=(((x1.length:Int)=(x1.length:Int))/\((0=0/\x1.length=x1.length)/\(((0:Int)=0)/\((0=0/\x1.length=x1.length)/\True))))
theorem q32f0 {x1:List Int}:q32F0 x1:=⟨rfl,⟨rfl,rfl⟩,rfl,⟨rfl,rfl⟩,trivial⟩
abbrev q32F1 (x1:List Int):Prop:=(((RLe x1.length x1.length)/\(RI x1.length x1 x1))/\True)
theorem q32f1 {x1:List Int}:q32F1 x1:=⟨⟨rl,rr⟩,trivial⟩
set_option maxRecDepth 100000 in
theorem or_keeps:Keeps cfgN0 Tryz.f86 orC orI:=Eq.mp (show(∀ x1:List Int,((x1.length<=(100:Nat))->(∃ x3:Nat,((((x3<=x1.length)/\(∀ z4:Int,((z4∈List.take x3 x1)->z4=0)))/\(((0=(x3:Int))/\(q32F0 x1))/\(q32F1 x1)))/\(∀ x6:Nat,(((x6<=x1.length)/\(∀(z:Int),z∈List.take x6 x1->z=(0:Int)))->(CB (decide ((x6:Int)<(x1.length:Int))) ((Ix (x6:Int) (x1.length:Int))/\((0+Int.toNat (x6:Int)<x1.length)/\(CB (decide (x1.getD (0+Int.toNat (x6:Int)) default≠(0:Int))) ((x1.getD (0+Int.toNat (x6:Int)) default=orF x1)/\True) ((R6 ((x6:Int)+1))/\(∃ x11:Nat,((x1.length-x11<x1.length-x6)/\(((x11<=x1.length)/\(∀ z12:Int,((z12∈List.take x11 x1)->z12=0)))/\((((x6:Int)+1=(x11:Int))/\(q32F0 x1))/\(q32F1 x1))))))))) (((0:Int)=orF x1)/\True))))))))=(Keeps cfgN0 Tryz.f86 orC orI) by kernel_rfl) (fun x1=>fun h2=>⟨((0:Nat)),⟨⟨(by omega),fun z4=>fun h5=>(by grind)⟩,⟨(by omega),q32f0⟩,q32f1⟩,fun x6=>fun h7=>⟨fun g8=>have h8:=dT g8;⟨⟨(by omega),(by omega)⟩,(by omega),fun g9=>have h9:=dT g9;⟨(by rw[nat0]at *;exact(orF_take (by omega) h7.2 ‹_›).symm),trivial⟩,fun g10=>have h10:=dF g10;⟨⟨(by omega),(by omega)⟩,(x6+(1:Nat)),(by omega),⟨(by omega),fun z12=>fun h13=>(by exact or_step h7 ‹_› ‹_› _ h13)⟩,⟨(by omega),q32f0⟩,q32f1⟩⟩,fun g14=>have h14:=dF g14;⟨(by have q:=h7.2;rw[List.take_of_length_le (by omega)]at q;exact(orF_none q).symm),trivial⟩⟩⟩)
theorem or_good:Good Tryz.prog 86 orC/\FnOk Tryz.prog 86:=good_of tok conN0 (fn:=Tryz.f86) rfl (by decide+kernel) (fun _=>rfl) or_keeps
def kM:List Kd:=[.int .i64,.int .i64]
def encM (m:Mv):Nat->D:=encN [.i m.1,.i m.2]
def mvV (m:Mv):SV:=.agg [.i .i64 m.1,.i .i64 m.2]
structure MMx where
 a:Mv
 b:Mv
def mmC:CT where
 X:=MMx
 pre:=fun _=>True
 args:=fun x=>[mvV x.a,mvV x.b]
 g0:=fun _=>[]
 res:=fun x=>.i .i64 (cmpMv x.a x.b)
 g1:=fun _=>[]
theorem litI {l:List Int} {rs:List (List D)} (h:rs=l.map fun n=>[D.i n]):RowsEq k1 l.length (litRows rs) (encL encI l):=by
 subst h
 refine⟨fun r hr=>?_⟩
 unfold litRows encL
 simp only[k1,rowEq,and_true,Kd.eqv]
 simp[List.getD_eq_getElem?_getD,List.getElem?_map,List.getElem?_eq_getElem hr,encI,D.toI]
def cfgMm:Cfg:=⟨T,[],[(53,.one cmpC),(86,.one orC)],noInv,30,{ kn:=true }⟩
theorem conMm:ConOk Tryz.prog cfgMm:=ConL.ok (.cons (ConL.one cmpi_good) (.cons (ConL.one or_good) .nil))
set_option maxRecDepth 100000 in
theorem mm_keeps:Keeps cfgMm Tryz.f108 mmC noIv:=Eq.mp (show(∀ x1:MMx,(True->(∃ x3:I2x,(True/\(((Prod.fst x1.a=x3.a)/\((Prod.fst x1.b=x3.b)/\True))/\(True/\(∃ x4:I2x,(True/\(((Prod.snd x1.a=x4.a)/\((Prod.snd x1.b=x4.b)/\True))/\(True/\(((True/\True)/\((True/\True)/\True))/\(∃ x5:List Int,((x5.length<=(100:Nat))/\(((0=0/\((2:Nat)=x5.length))/\True)/\(((RW [.int .i64] x5.length 2 (litRows ((D.i (cmpI x3.a x3.b)::@List.nil D)::(D.i (cmpI x4.a x4.b)::@List.nil D)::@List.nil (List D))) (encL encI x5))/\True)/\((orF x5=cmpMv x1.a x1.b)/\True))))))))))))))))=(Keeps cfgMm Tryz.f108 mmC noIv) by kernel_rfl) (fun x1=>fun h2=>⟨({ a:=Prod.fst (MMx.a x1),b:=Prod.fst (MMx.b x1):I2x }),trivial,⟨rfl,rfl,trivial⟩,trivial,({ a:=Prod.snd (MMx.a x1),b:=Prod.snd (MMx.b x1):I2x }),trivial,⟨rfl,rfl,trivial⟩,trivial,⟨⟨trivial,trivial⟩,⟨trivial,trivial⟩,trivial⟩,(cmpI (Prod.fst (MMx.a x1)) (Prod.fst (MMx.b x1))::cmpI (Prod.snd (MMx.a x1)) (Prod.snd (MMx.b x1))::@List.nil Int),(by grind),⟨⟨rfl,(by grind)⟩,trivial⟩,⟨⟨⟨(by grind)⟩,(litI rfl)⟩,trivial⟩,rfl,trivial⟩)
theorem mm_good:Good Tryz.prog 108 mmC/\FnOk Tryz.prog 108:=good_of tok conMm (fn:=Tryz.f108) rfl (by decide+kernel) (fun _=>rfl) mm_keeps
structure MLx where
 a:List Mv
 b:List Mv
def mfC:CT where
 X:=MLx
 pre:=fun x=>x.a.length<=100
 args:=fun x=>[.sl 100000 0 x.a.length,.sl 100001 0 x.b.length,.fn 108 []]
 g0:=fun x=>[(100000,.rows .bor kM x.a.length (encL encM x.a)),(100001,.rows .bor kM x.b.length (encL encM x.b))]
 res:=fun x=>.i .i64 (cmpMs x.a x.b)
 g1:=fun _=>[]
theorem cms_drop {a b:List Mv} {k:Nat} (ha:k<a.length):(¬ k<b.length->cmpMs (a.drop k) (b.drop k)=1)/\(k<b.length->cmpMs (a.drop k) (b.drop k)=if cmpMv (a.getD k default) (b.getD k default)≠0 then cmpMv (a.getD k default) (b.getD k default)else cmpMs (a.drop (k+1)) (b.drop (k+1))):=by
 have ea:a.drop k=a.getD k default::a.drop (k+1):=by
  rw[List.drop_eq_getElem_cons ha,List.getD_eq_getElem?_getD,List.getElem?_eq_getElem ha]
  rfl
 refine⟨fun h=>?_,fun h=>?_⟩
 ·rw[ea,List.drop_of_length_le (l:=b) (by omega)]
  rfl
 ·have eb:b.drop k=b.getD k default::b.drop (k+1):=by
   rw[List.drop_eq_getElem_cons h,List.getD_eq_getElem?_getD,List.getElem?_eq_getElem h]
   rfl
  rw[ea,eb]
  rfl
def mfOk (x:MLx) (k:Nat):Prop:=k<=x.a.length/\k<=x.b.length/\cmpMs (x.a.drop k) (x.b.drop k)=cmpMs x.a x.b
def mfI (x:MLx) (id:Nat):Option Inv:=match id with
 |0=>some { X:=Nat,ok:=fun k=>mfOk x k,fr:=fun k=>[(0,.sl 100000 0 x.a.length),(1,.sl 100001 0 x.b.length),(2,.fn 108 []),(11,.sl 100000 0 x.a.length),(12,.i .i64 x.a.length),(13,.i .i64 k)],hp:=fun _=>[(100000,.rows .bor kM x.a.length (encL encM x.a)),(100001,.rows .bor kM x.b.length (encL encM x.b))],me:=fun k=>x.a.length-k }
 |_=>none
theorem mf_0 {x:MLx}:mfOk x 0:=⟨Nat.zero_le _,Nat.zero_le _,rfl⟩
theorem mf_1 {x:MLx} {k:Nat} (h:mfOk x k) (hk:(k:Int)<x.a.length) (h1:(x.b.length:Int)<=k):1=cmpMs x.a x.b:=by
 rw[<- h.2.2,(cms_drop (by omega)).1 (by omega)]
theorem mf_2 {x:MLx} {k:Nat} (h:mfOk x k) (hk:(k:Int)<x.a.length) (h1:¬ (x.b.length:Int)<=k) (h2:cmpMv (x.a.getD (0+(k:Int).toNat) default) (x.b.getD (0+(k:Int).toNat) default)≠0):cmpMv (x.a.getD (0+(k:Int).toNat) default) (x.b.getD (0+(k:Int).toNat) default)=cmpMs x.a x.b:=by
 rw[nat0]at*
 rw[<- h.2.2,(cms_drop (by omega)).2 (by omega),if_pos h2]
theorem mf_3 {x:MLx} {k:Nat} (h:mfOk x k) (hk:(k:Int)<x.a.length) (h1:¬ (x.b.length:Int)<=k) (h2:¬ cmpMv (x.a.getD (0+(k:Int).toNat) default) (x.b.getD (0+(k:Int).toNat) default)≠0):mfOk x (k+1):=by
 rw[nat0]at*
 refine⟨by omega,by omega,?_⟩
 rw[<- h.2.2,(cms_drop (k:=k) (by omega)).2 (by omega),if_neg h2]
theorem mf_4 {x:MLx} {k:Nat} (h:mfOk x k) (hk:¬ (k:Int)<x.a.length) (h1:(x.a.length:Int)<x.b.length): -1=cmpMs x.a x.b:=by
 have e:k=x.a.length:=by have:=h.1;omega
 rw[<- h.2.2,List.drop_of_length_le (l:=x.a) (by omega),List.drop_eq_getElem_cons (show k<x.b.length by omega)]
 rfl
theorem mf_5 {x:MLx} {k:Nat} (h:mfOk x k) (hk:¬ (k:Int)<x.a.length) (h1:¬ (x.a.length:Int)<x.b.length):0=cmpMs x.a x.b:=by
 have:=h.2.1
 rw[<- h.2.2,List.drop_of_length_le (l:=x.a) (by omega),List.drop_of_length_le (l:=x.b) (by omega)]
 rfl
def cfgMf:Cfg:=⟨T,[],[(108,.one mmC)],noInv,30,{ kn:=true }⟩
theorem conMf:ConOk Tryz.prog cfgMf:=ConL.ok (.cons (ConL.one mm_good) .nil)
abbrev q34F0 (x1:MLx):Prop:=(0=0/\x1.a.length=x1.a.length)
theorem q34f0 {x1:MLx}:q34F0 x1:=⟨rfl,rfl⟩
abbrev q34F1 (x1:MLx):Prop:=(0=0/\x1.b.length=x1.b.length)
theorem q34f1 {x1:MLx}:q34F1 x1:=⟨rfl,rfl⟩
abbrev q34F2 (x1:MLx):Prop:=(((RLe x1.a.length x1.a.length)/\(RowsEq [.int .i64,.int .i64] x1.a.length (encL encM x1.a) (encL encM x1.a)))/\(((RLe x1.b.length x1.b.length)/\(RowsEq [.int .i64,.int .i64] x1.b.length (encL encM x1.b) (encL encM x1.b)))/\True))
theorem q34f2 {x1:MLx}:q34F2 x1:=⟨⟨rl,rr⟩,⟨rl,rr⟩,trivial⟩
set_option maxRecDepth 100000 in
theorem mf_keeps:Keeps cfgMf Tryz.f107 mfC mfI:=Eq.mp (show(∀ x1:MLx,((x1.a.length<=(100:Nat))->(∃ x3:Nat,(((mfOk x1 x3)/\(((q34F0 x1)/\((q34F1 x1)/\(True/\((q34F0 x1)/\(((x1.a.length:Int)=(x1.a.length:Int))/\((0=(x3:Int))/\True))))))/\(q34F2 x1)))/\(∀ x4:Nat,((mfOk x1 x4)->(CB (decide ((x4:Int)<(x1.a.length:Int))) ((Ix (x4:Int) (x1.a.length:Int))/\((0+Int.toNat (x4:Int)<x1.a.length)/\(CB (decide ((x1.b.length:Int)<=(x4:Int))) (((1:Int)=cmpMs x1.a x1.b)/\True) ((Ix (x4:Int) (x1.b.length:Int))/\((0+Int.toNat (x4:Int)<x1.b.length)/\(∃ x9:MMx,(True/\((((Prod.fst (x1.a.getD (0+Int.toNat (x4:Int)) default)=Prod.fst x9.a)/\((Prod.snd (x1.a.getD (0+Int.toNat (x4:Int)) default)=Prod.snd x9.a)/\True))/\(((Prod.fst (x1.b.getD (0+Int.toNat (x4:Int)) default)=Prod.fst x9.b)/\((Prod.snd (x1.b.getD (0+Int.toNat (x4:Int)) default)=Prod.snd x9.b)/\True))/\True))/\(True/\(CB (decide (cmpMv x9.a x9.b≠(0:Int))) ((cmpMv x9.a x9.b=cmpMs x1.a x1.b)/\True) ((R6 ((x4:Int)+1))/\(∃ x12:Nat,((x1.a.length-x12<x1.a.length-x4)/\((mfOk x1 x12)/\(((q34F0 x1)/\((q34F1 x1)/\(True/\((q34F0 x1)/\(((x1.a.length:Int)=(x1.a.length:Int))/\(((x4:Int)+1=(x12:Int))/\True))))))/\(q34F2 x1)))))))))))))))) (CB (decide ((x1.a.length:Int)<(x1.b.length:Int))) (((-1:Int)=cmpMs x1.a x1.b)/\True) (((0:Int)=cmpMs x1.a x1.b)/\True)))))))))=(Keeps cfgMf Tryz.f107 mfC mfI) by kernel_rfl) (fun x1=>fun h2=>⟨((0:Nat)),⟨mf_0,⟨q34f0,q34f1,trivial,q34f0,rfl,(by omega),trivial⟩,q34f2⟩,fun x4=>fun h5=>⟨fun g6=>have h6:=dT g6;⟨⟨(by omega),(by omega)⟩,(by omega),fun g7=>have h7:=dT g7;⟨(by exact mf_1 ‹_› ‹_› ‹_›),trivial⟩,fun g8=>have h8:=dF g8;⟨⟨(by omega),(by omega)⟩,(by omega),({ a:=List.getD (MLx.a x1) ((0:Nat)+Int.toNat (↑x4:Int)) default,b:=List.getD (MLx.b x1) ((0:Nat)+Int.toNat (↑x4:Int)) default:MMx }),trivial,⟨⟨rfl,rfl,trivial⟩,⟨rfl,rfl,trivial⟩,trivial⟩,trivial,fun g10=>have h10:=dT g10;⟨(by exact mf_2 ‹_› ‹_› ‹_› ‹_›),trivial⟩,fun g11=>have h11:=dF g11;⟨⟨(by omega),(by omega)⟩,(x4+(1:Nat)),(by omega),(by exact mf_3 ‹_› ‹_› ‹_› ‹_›),⟨q34f0,q34f1,trivial,q34f0,rfl,(by omega),trivial⟩,q34f2⟩⟩⟩,fun g13=>have h13:=dF g13;⟨fun g14=>have h14:=dT g14;⟨(by exact mf_4 ‹_› ‹_› ‹_›),trivial⟩,fun g15=>have h15:=dF g15;⟨(by exact mf_5 ‹_› ‹_› ‹_›),trivial⟩⟩⟩⟩)
theorem mf_good:Good Tryz.prog 107 mfC/\FnOk Tryz.prog 107:=good_of tok conMf (fn:=Tryz.f107) rfl (by decide+kernel) (fun _=>rfl) mf_keeps
end Go.Sym
namespace Go.Sym
set_option linter.unusedVariables false
set_option linter.unusedSimpArgs false
open Go.ChangeShapes Go.WideShapes Go.RowKit
open Go.Proofs
set_option maxRecDepth 100000
def decI1 (g:Nat->D):Int:=(g 0).toI
def decE3 (g:Nat->D):Ed:=⟨(g 0).toI,(g 1).toI,(g 2).toI⟩
def decU10 (g:Nat->D):Un:=⟨(g 0).toI,(g 1).toI,(g 2).toI,(g 3).toI,(g 4).toI,(g 5).toI,(g 6).toI,(g 7).toI,(g 8).toI,(g 9).toI⟩
theorem decI1_eq (g:Nat->D):rowEq k1 g (encI (decI1 g)) 0:=by simp only[rowEq,Kd.eqv,k1];exact⟨rfl,trivial⟩
theorem decE3_eq (g:Nat->D):rowEq kE g (encE (decE3 g)) 0:=by simp only[rowEq,Kd.eqv,kE];exact⟨rfl,rfl,rfl,trivial⟩
theorem decU10_eq (g:Nat->D):rowEq kU g (encU (decU10 g)) 0:=by simp only[rowEq,Kd.eqv,kU];exact⟨rfl,rfl,rfl,rfl,rfl,rfl,rfl,rfl,rfl,rfl,trivial⟩
theorem len_ok {α:Type} {ks:List Kd} {d:D} {dec:(Nat->D)->α} (h:WfD (.sl ks) d):(decL dec d.toN d.toF).length<=9223372036854775807:=by
 rw[decL_length]
 simp only[WfD]at h
 exact h.1
def kCas:List Kd:=[.int .i64,.sl kE,.sl k1,.sl kU]
theorem list_4 {α:Type} {l:List α} (h:l.length=4):∃ a b c d,l=[a,b,c,d]:=by
 match l,h with
 | [a,b,c,d],_=>exact⟨a,b,c,d,rfl⟩
theorem struct_cellsW {H:Type} {enc:TypeId × Value->H} {P:Program} {W:World} {T:List (Nat × TI)} (hT:TOk P T) {t:Nat} {ks:List Kd} {cs:Array Value} {d:DataW H} {p:List MemPlace} (hk:kdsL T 40 t=some ks) (hs:cs.size=ks.length)
  (h:DataW.Trod enc P W 0 (fun _=>true) true t (.agg cs) d p):∃ g:Nat->D,CellsD W ks g 0 cs.toList/\∀ j k,ks[j]? =some k->WfD k (g j):=by
 obtain⟨fl,h⟩:=h
 obtain⟨g,hg⟩:=(trod_lift hT 40).1 t ks hk fl _ _ h
 refine⟨g,⟨by simpa using hs,fun j k hj=>?_⟩,fun j k hj=>?_⟩
 all_goals
  have hlt:j<ks.length:=by
   rcases Nat.lt_or_ge j ks.length with q|q
   ·exact q
   ·rw[List.getElem?_eq_none q]at hj;cases hj
  obtain⟨u,h1,h2,h3⟩:=hg j hlt
  rw[List.getElem?_eq_getElem hlt]at hj
  cases hj
 ·exact⟨u,by simpa[Value.cells]using h1,by simpa using h2⟩
 ·simpa using h3
end Go.Sym