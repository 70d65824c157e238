import Derived.Test.YtlldhkhmhgcpaaaGreatDoorAR
import Derived.Test.YtlldhkhmhgcpaaaGreatDoorEV
import Derived.Test.YtlldhkhmhgcpaaaGreatDoorXD
namespace Go.Sym
set_option linter.unusedVariables false
set_option linter.unusedSimpArgs false
open Go.Proofs Go.RowKit
set_option maxRecDepth 100000
set_option maxHeartbeats 8000000
structure SmX where
 g:Gr
 ts:List Int
 us:List Un
 l:List Mv
def tkE (g:Gr) (ts:List Int) (us:List Un) (s:Mv):Int:=tkU ⟨g,ts,us,s⟩
structure SmOk (x:SmX):Prop where
 g:GOk x.g
 n:x.g.n<=12
 us:x.us.length<=1000
 l:x.l.length<=1000
 s:∀ s∈x.l,0<=tkE x.g x.ts x.us s/\tkE x.g x.ts x.us s<=70368744177664
def smA (x:SmX) (k:Nat):Int:=(x.l.take k).foldl (fun a s=>a+tkE x.g x.ts x.us s) 0
def smL (x:SmX):Int:=x.l.foldl (fun a s=>a+tkE x.g x.ts x.us s) 0
def smC:CT where
 X:=SmX
 pre:=SmOk
 args:=fun x=>[netA x.g,.sl 100001 0 x.ts.length,.sl 100002 0 x.us.length,.sl 100003 0 x.l.length]
 g0:=fun x=>[(100000,.rows .bor kE x.g.es.length (encL encE x.g.es)),(100001,.rows .bor k1 x.ts.length (encL encI x.ts)),(100002,.rows .bor kU x.us.length (encL encU x.us)),(100003,.rows .bor kM x.l.length (encL encM x.l))]
 res:=fun x=>.i .i64 (smL x)
 g1:=fun _=>[]
def smI (x:SmX) (id:Nat):Option Inv:=match id with
 |0=>some { X:=Nat,ok:=fun k=>k<=x.l.length,fr:=fun k=>[(9,.i .i64 (smA x k)),(13,.i .i64 x.l.length),(14,.i .i64 k)],hp:=fun k=>[],me:=fun k=>x.l.length-k }
 |_=>none
def cfgSm:Cfg:=⟨T,[],[(44,.one tkC)],noInv,30,{ kn:=true }⟩
theorem conSm:ConOk Tryz.prog cfgSm:=ConL.ok (.cons (ConL.one tk_good) .nil)
theorem sm_s {x:SmX} {k:Nat} (h:(k:Int)<x.l.length):smA x k+tkU ⟨x.g,x.ts,x.us,((x.l.getD (0+(k:Int).toNat) default).1,(x.l.getD (0+(k:Int).toNat) default).2)⟩=smA x (k+1):=by
 rw[nat0]
 unfold smA
 rw[take_succ_getD (d:=default) (by omega),List.foldl_append]
 rfl
theorem sm_t {x:SmX} {k:Nat} (h:¬ (k:Int)<x.l.length):smA x k=smL x:=by
 unfold smA smL
 rw[List.take_of_length_le (by omega)]
theorem sm_b {x:SmX} (h:SmOk x):∀ k,k<=x.l.length->0<=smA x k/\smA x k<=70368744177664*k
 |0,_=>⟨Int.le_refl _,Int.le_refl _⟩
 |k+1,hk=>by
  have h1:=sm_b h k (by omega)
  have h2:=h.s (x.l.getD k default) (by rw[List.getD_eq_getElem?_getD,List.getElem?_eq_getElem (show k<x.l.length by omega)];exact List.getElem_mem _)
  have e:=sm_s (x:=x) (k:=k) (by omega)
  rw[nat0]at e
  have e:smA x k+tkE x.g x.ts x.us (x.l.getD k default)=smA x (k+1):=e
  rw[<- e]
  omega
theorem sm_r {x:SmX} (h:SmOk x) {k:Nat} (hk:(k:Int)<x.l.length): -9223372036854775808<=smA x k+tkU ⟨x.g,x.ts,x.us,((x.l.getD (0+(k:Int).toNat) default).1,(x.l.getD (0+(k:Int).toNat) default).2)⟩/\smA x k+tkU ⟨x.g,x.ts,x.us,((x.l.getD (0+(k:Int).toNat) default).1,(x.l.getD (0+(k:Int).toNat) default).2)⟩<=9223372036854775807:=by
 rw[sm_s hk]
 have:=sm_b h (k+1) (by omega)
 have:=h.l
 omega
abbrev q74F0 (x1:SmX):Prop:=(0=0/\x1.l.length=x1.l.length)
theorem q74f0 {x1:SmX}:q74F0 x1:=⟨rfl,rfl⟩
abbrev q74F1 (x1:SmX):Prop:=(((x1.g.n:Int)=(x1.g.n:Int))/\((0=0/\x1.g.es.length=x1.g.es.length)/\True))
theorem q74f1 {x1:SmX}:q74F1 x1:=⟨rfl,⟨rfl,rfl⟩,trivial⟩
abbrev q74F2 (x1:SmX):Prop:=((q74F0 x1)/\(((0:Int)=0)/\((0=0/\0=0)/\((q74F1 x1)/\((0=0/\x1.ts.length=x1.ts.length)/\((0=0/\x1.us.length=x1.us.length)/\((q74F0 x1)/\True)))))))
theorem q74f2 {x1:SmX}:q74F2 x1:=⟨q74f0,rfl,⟨rfl,rfl⟩,q74f1,⟨rfl,rfl⟩,⟨rfl,rfl⟩,q74f0,trivial⟩
abbrev q74F3 (x1:SmX):Prop:=((q74F1 x1)/\(((RLe x1.g.es.length x1.g.es.length)/\(RowsEq [.int .i64,.int .i64,.int .i64] x1.g.es.length (encL encE x1.g.es) (encL encE x1.g.es)))/\(((RLe x1.ts.length x1.ts.length)/\(RI x1.ts.length x1.ts x1.ts))/\(((RLe x1.us.length x1.us.length)/\(RowsEq kU x1.us.length (encL encU x1.us) (encL encU x1.us)))/\(((RLe x1.l.length x1.l.length)/\(RowsEq [.int .i64,.int .i64] x1.l.length (encL encM x1.l) (encL encM x1.l)))/\True)))))
theorem q74f3 {x1:SmX}:q74F3 x1:=⟨q74f1,⟨rl,rr⟩,⟨rl,rr⟩,⟨rl,rr⟩,⟨rl,rr⟩,trivial⟩
set_option maxRecDepth 100000 in
theorem sm_keeps:Keeps cfgSm Tryz.f38 smC smI:=Eq.mp (show(∀ x1:SmX,((SmOk x1)->(∃ x3:Nat,(((x3<=x1.l.length)/\((((0:Int)=smA x1 x3)/\(((x1.l.length:Int)=(x1.l.length:Int))/\((0=(x3:Int))/\(q74F2 x1))))/\(q74F3 x1)))/\(∀ x4:Nat,((x4<=x1.l.length)->(CB (decide ((x4:Int)<(x1.l.length:Int))) ((Ix (x4:Int) (x1.l.length:Int))/\((0+Int.toNat (x4:Int)<x1.l.length)/\(∃ x7:TkX,((TkOk x7)/\(((((x1.g.n:Int)=(x7.g.n:Int))/\((0=0/\x1.g.es.length=x7.g.es.length)/\True))/\((0=0/\x1.ts.length=x7.ts.length)/\((0=0/\x1.us.length=x7.us.length)/\(((Prod.fst (x1.l.getD (0+Int.toNat (x4:Int)) default)=Prod.fst x7.m)/\((Prod.snd (x1.l.getD (0+Int.toNat (x4:Int)) default)=Prod.snd x7.m)/\True))/\True))))/\(((RW [.int .i64,.int .i64,.int .i64] x7.g.es.length x1.g.es.length (encL encE x1.g.es) (encL encE x7.g.es))/\((RW [.int .i64] x7.ts.length x1.ts.length (encL encI x1.ts) (encL encI x7.ts))/\((RW kU x7.us.length x1.us.length (encL encU x1.us) (encL encU x7.us))/\True)))/\((R6 (smA x1 x4+tkU x7))/\((R6 ((x4:Int)+1))/\(∃ x8:Nat,((x1.l.length-x8<x1.l.length-x4)/\((x8<=x1.l.length)/\(((smA x1 x4+tkU x7=smA x1 x8)/\(((x1.l.length:Int)=(x1.l.length:Int))/\(((x4:Int)+1=(x8:Int))/\(q74F2 x1))))/\(q74F3 x1))))))))))))) ((smA x1 x4=smL x1)/\True))))))))=(Keeps cfgSm Tryz.f38 smC smI) by kernel_rfl) (fun x1=>fun h2=>⟨((0:Nat)),⟨(by omega),⟨rfl,rfl,(by omega),q74f2⟩,q74f3⟩,fun x4=>fun h5=>⟨fun g6=>have h6:=dT g6;⟨⟨(by omega),(by omega)⟩,(by omega),({ g:=SmX.g x1,ts:=SmX.ts x1,us:=SmX.us x1,m:=List.getD (SmX.l x1) ((0:Nat)+Int.toNat (↑x4:Int)) default:TkX }),(⟨h2.g,h2.n,h2.us⟩),⟨⟨rfl,⟨rfl,rfl⟩,trivial⟩,⟨rfl,rfl⟩,⟨rfl,rfl⟩,⟨rfl,rfl,trivial⟩,trivial⟩,⟨⟨rl,rr⟩,⟨rl,rr⟩,⟨rl,rr⟩,trivial⟩,⟨((sm_r h2 h6).1),((sm_r h2 h6).2)⟩,⟨(by omega),(by have:=h2.l;omega)⟩,(x4+(1:Nat)),(by omega),(by omega),⟨(sm_s h6),rfl,(by omega),q74f2⟩,q74f3⟩,fun g9=>have h9:=dF g9;⟨(by exact sm_t ‹_›),trivial⟩⟩⟩)
theorem sm_good:Good Tryz.prog 38 smC/\FnOk Tryz.prog 38:=good_of tok conSm (fn:=Tryz.f38) rfl (by decide+kernel) (fun _=>rfl) sm_keeps
theorem cm_at:∀(k:Nat) (a b:List Mv),a.take k=b.take k->k<a.length->k<b.length->a.getD k default≠b.getD k default->(cmpMs a b<0↔ltV (a.getD k default) (b.getD k default))
 |k,[],b,_,h,_,_=>absurd h (Nat.not_lt_zero _)
 |k,_::_,[],_,_,h,_=>absurd h (Nat.not_lt_zero _)
 |0,x::l,y::m,_,_,_,hn=>by
  rw[cmpMs_neg]
  unfold ltM
  exact⟨fun q=>q.elim id fun q=>absurd q.1 hn,.inl⟩
 |k+1,x::l,y::m,ht,h1,h2,hn=>by
  rw[List.take_succ_cons,List.take_succ_cons]at ht
  injection ht with e1 e2
  have:=cm_at k l m e2 (by simpa using h1) (by simpa using h2) (by simpa using hn)
  rw[cmpMs_neg]at this ⊢
  unfold ltM
  refine Iff.trans ⟨fun q=>q.elim (fun q=>?_) And.right,fun q=>.inr ⟨e1,q⟩⟩ this
  subst e1
  exact absurd q ltV_irr
theorem mv_ne {a b:Mv} (h:(!(decide (a.fst=b.fst)&&(decide (a.snd=b.snd)&&true)))=true):a≠b:=by
 rintro rfl
 simp at h
theorem mv_eq {a b:Mv} (h:(!(decide (a.fst=b.fst)&&(decide (a.snd=b.snd)&&true)))=false):a=b:=by
 simp at h
 exact Prod.ext h.1 h.2
theorem take_s {a b:List Mv} {k:Nat} (h:a.take k=b.take k) (h1:k<a.length) (h2:k<b.length) (he:a.getD k default=b.getD k default):a.take (k+1)=b.take (k+1):=by
 rw[take_succ_getD (d:=default) h1,take_succ_getD (d:=default) h2,h,he]
theorem ah_v {a b:List Mv} {k:Nat} (h:a.take k=b.take k) (h1:(k:Int)<a.length) (h2:(k:Int)<b.length) (hn:a.getD (0+(k:Int).toNat) default≠b.getD (0+(k:Int).toNat) default) {p:Bool} (hp:p=true↔ltV (a.getD (0+(k:Int).toNat) default) (b.getD (0+(k:Int).toNat) default)):p=decide (cmpMs a b<0):=by
 rw[nat0]at hp hn
 rw[Bool.eq_iff_iff,hp,decide_eq_true_iff]
 exact(cm_at k a b h (by omega) (by omega) hn).symm
theorem ah_e {a b:List Mv} (hl:a.length=b.length) {k:Nat} (h:a.take k=b.take k) (h1:¬ (k:Int)<a.length):false=decide (cmpMs a b<0):=by
 rw[List.take_of_length_le (by omega),List.take_of_length_le (by omega)]at h
 subst h
 refine(decide_eq_false ?_).symm
 rw[cmpMs_neg]
 exact ltM_irr
structure AhX where
 a:List Mv
 b:List Mv
def ahC:CT where
 X:=AhX
 pre:=fun x=>x.a.length=x.b.length/\x.a.length<=1000
 args:=fun x=>[.sl 100000 0 x.a.length,.sl 100001 0 x.b.length]
 g0:=fun x=>[(100000,.rows .bor kM x.a.length (encL encM x.a)),(100001,.rows .bor kM x.b.length (encL encM x.b))]
 res:=fun x=>.b (decide (cmpMs x.a x.b<0))
 g1:=fun _=>[]
def ahI (x:AhX) (id:Nat):Option Inv:=match id with
 |0=>some { X:=Nat,ok:=fun k=>k<=x.a.length/\x.a.take k=x.b.take k,fr:=fun k=>[(7,.i .i64 x.a.length),(8,.i .i64 k)],hp:=fun k=>[],me:=fun k=>x.a.length-k }
 |_=>none
abbrev q75F0 (x1:AhX):Prop:=(0=0/\x1.a.length=x1.a.length)
theorem q75f0 {x1:AhX}:q75F0 x1:=⟨rfl,rfl⟩
abbrev q75F1 (x1:AhX):Prop:=((q75F0 x1)/\((q75F0 x1)/\((0=0/\x1.b.length=x1.b.length)/\True)))
theorem q75f1 {x1:AhX}:q75F1 x1:=⟨q75f0,q75f0,⟨rfl,rfl⟩,trivial⟩
abbrev q75F2 (x1:AhX):Prop:=(((RLe x1.a.length x1.a.length)/\(RowsEq [.int .i64,.int .i64] x1.a.length (encL encM x1.a) (encL encM x1.a)))/\(((RLe x1.b.length x1.b.length)/\(RowsEq [.int .i64,.int .i64] x1.b.length (encL encM x1.b) (encL encM x1.b)))/\True))
theorem q75f2 {x1:AhX}:q75F2 x1:=⟨⟨rl,rr⟩,⟨rl,rr⟩,trivial⟩
set_option maxRecDepth 100000 in
theorem ah_keeps:Keeps cfg0 Tryz.f39 ahC ahI:=Eq.mp (show(∀ x1:AhX,((x1.a.length=x1.b.length/\(x1.a.length<=(1000:Nat)))->(∃ x3:Nat,((((x3<=x1.a.length)/\(List.take x3 x1.a=List.take x3 x1.b))/\((((x1.a.length:Int)=(x1.a.length:Int))/\((0=(x3:Int))/\(q75F1 x1)))/\(q75F2 x1)))/\(∀ x4:Nat,(((x4<=x1.a.length)/\(List.take x4 x1.a=List.take x4 x1.b))->(CB (decide ((x4:Int)<(x1.a.length:Int))) (CB (decide ((x4:Int)<(x1.b.length:Int))) ((Ix (x4:Int) (x1.a.length:Int))/\((0+Int.toNat (x4:Int)<x1.a.length)/\((Ix (x4:Int) (x1.b.length:Int))/\((0+Int.toNat (x4:Int)<x1.b.length)/\(CB (!(decide (Prod.fst (x1.a.getD (0+Int.toNat (x4:Int)) default)=Prod.fst (x1.b.getD (0+Int.toNat (x4:Int)) default))&&(decide (Prod.snd (x1.a.getD (0+Int.toNat (x4:Int)) default)=Prod.snd (x1.b.getD (0+Int.toNat (x4:Int)) default))&&true))) ((Ix (x4:Int) (x1.a.length:Int))/\((0+Int.toNat (x4:Int)<x1.a.length)/\((Ix (x4:Int) (x1.b.length:Int))/\((0+Int.toNat (x4:Int)<x1.b.length)/\(CN (decide (Prod.fst (x1.a.getD (0+Int.toNat (x4:Int)) default)<Prod.fst (x1.b.getD (0+Int.toNat (x4:Int)) default))) ((Ix (x4:Int) (x1.a.length:Int))/\((0+Int.toNat (x4:Int)<x1.a.length)/\((Ix (x4:Int) (x1.b.length:Int))/\((0+Int.toNat (x4:Int)<x1.b.length)/\(CB (decide (Prod.fst (x1.a.getD (0+Int.toNat (x4:Int)) default)=Prod.fst (x1.b.getD (0+Int.toNat (x4:Int)) default))) ((Ix (x4:Int) (x1.a.length:Int))/\((0+Int.toNat (x4:Int)<x1.a.length)/\((Ix (x4:Int) (x1.b.length:Int))/\((0+Int.toNat (x4:Int)<x1.b.length)/\((decide (Prod.snd (x1.a.getD (0+Int.toNat (x4:Int)) default)<Prod.snd (x1.b.getD (0+Int.toNat (x4:Int)) default))=decide (cmpMs x1.a x1.b<(0:Int)))/\True))))) ((false=decide (cmpMs x1.a x1.b<(0:Int)))/\True)))))) ((true=decide (cmpMs x1.a x1.b<(0:Int)))/\True)))))) ((R6 ((x4:Int)+1))/\(∃ x14:Nat,((x1.a.length-x14<x1.a.length-x4)/\(((x14<=x1.a.length)/\(List.take x14 x1.a=List.take x14 x1.b))/\((((x1.a.length:Int)=(x1.a.length:Int))/\(((x4:Int)+1=(x14:Int))/\(q75F1 x1)))/\(q75F2 x1))))))))))) ((R6 ((x4:Int)+1))/\(∃ x16:Nat,((x1.a.length-x16<x1.a.length-x4)/\(((x16<=x1.a.length)/\(List.take x16 x1.a=List.take x16 x1.b))/\((((x1.a.length:Int)=(x1.a.length:Int))/\(((x4:Int)+1=(x16:Int))/\(q75F1 x1)))/\(q75F2 x1))))))) ((false=decide (cmpMs x1.a x1.b<(0:Int)))/\True))))))))=(Keeps cfg0 Tryz.f39 ahC ahI) by kernel_rfl) (fun x1=>fun h2=>⟨((0:Nat)),⟨⟨(by omega),(by grind)⟩,⟨rfl,(by omega),q75f1⟩,q75f2⟩,fun x4=>fun h5=>⟨fun g6=>have h6:=dT g6;⟨fun g7=>have h7:=dT g7;⟨⟨(by omega),(by omega)⟩,(by omega),⟨(by omega),(by omega)⟩,(by omega),fun h8=>⟨⟨(by omega),(by omega)⟩,(by omega),⟨(by omega),(by omega)⟩,(by omega),fun g9=>have h9:=dF g9;⟨⟨(by omega),(by omega)⟩,(by omega),⟨(by omega),(by omega)⟩,(by omega),fun g10=>have h10:=dT g10;⟨⟨(by omega),(by omega)⟩,(by omega),⟨(by omega),(by omega)⟩,(by omega),(ah_v h5.2 h6 h7 (mv_ne h8) ⟨fun q=>.inr ⟨h10,of_decide_eq_true q⟩,fun q=>decide_eq_true (q.elim (fun q=>absurd q h9) And.right)⟩),trivial⟩,fun g11=>have h11:=dF g11;⟨(ah_v h5.2 h6 h7 (mv_ne h8) ⟨fun q=>Bool.noConfusion q,fun q=>absurd q (fun q=>q.elim h9 (fun q=>h11 q.1))⟩),trivial⟩⟩,fun g12=>have h12:=dT g12;⟨(ah_v h5.2 h6 h7 (mv_ne h8) ⟨fun _=>.inl h12,fun _=>rfl⟩),trivial⟩⟩,fun h13=>⟨⟨(by omega),(by omega)⟩,(x4+(1:Nat)),(by omega),⟨(by omega),(by have e:=mv_eq h13;rw[nat0]at e;exact take_s h5.2 (by omega) (by omega) e)⟩,⟨rfl,(by omega),q75f1⟩,q75f2⟩⟩,fun g15=>have h15:=dF g15;⟨⟨(by omega),(by omega)⟩,(x4+(1:Nat)),(by omega),⟨(by omega),(by omega)⟩,⟨rfl,(by omega),q75f1⟩,q75f2⟩⟩,fun g17=>have h17:=dF g17;⟨(ah_e h2.1 h5.2 h17),trivial⟩⟩⟩)
theorem ah_good:Good Tryz.prog 39 ahC/\FnOk Tryz.prog 39:=good_of tok con0 (fn:=Tryz.f39) rfl (by decide+kernel) (fun _=>rfl) ah_keeps
def nnI (x:NOX) (id:Nat):Option Inv:=match id with
 |0=>some { X:=Nat,ok:=fun k=>k<=(ofZ x.of x.of.length).length,fr:=fun k=>[(11,.i .i64 k),(5,.sl 61 0 (nodesAt x.g.n x.of k).length)],hp:=fun k=>[(61,.rows .own k1 (nodesAt x.g.n x.of k).length (encL encI (nodesAt x.g.n x.of k)))],me:=fun k=>(ofZ x.of x.of.length).length-k }
 |_=>none
abbrev q76F0 (x1:NOX):Prop:=(0=0/\x1.of.length=x1.of.length)
theorem q76f0 {x1:NOX}:q76F0 x1:=⟨rfl,rfl⟩
abbrev q76F1 (x1:NOX):Prop:=(((x1.g.n:Int)=(x1.g.n:Int))/\((0=0/\x1.g.es.length=x1.g.es.length)/\True))
theorem q76f1 {x1:NOX}:q76F1 x1:=⟨rfl,⟨rfl,rfl⟩,trivial⟩
abbrev q76F2 (x1:NOX) (x3:List Int):Prop:=(((↑(ofZ x3 x3.length).length:Int)=(↑(ofZ x3 x3.length).length:Int))/\((0=0/\((ofZ x3 x3.length).length=(ofZ x3 x3.length).length))/\((q76F0 x1)/\(True/\((0=0/\0=0)/\((q76F1 x1)/\((q76F0 x1)/\True)))))))
theorem q76f2 {x1:NOX} {x3:List Int}:q76F2 x1 x3:=⟨rfl,⟨rfl,rfl⟩,q76f0,trivial,⟨rfl,rfl⟩,q76f1,q76f0,trivial⟩
abbrev q76F3 (x1:NOX) (x3:List Int):Prop:=(((RLe (ofZ x3 x3.length).length (ofZ x3 x3.length).length)/\(RowsEq [.int .i64] (ofZ x3 x3.length).length (encL encI (ofZ x3 x3.length)) (encL encI (ofZ x3 x3.length))))/\((q76F1 x1)/\(((RLe x1.g.es.length x1.g.es.length)/\(RowsEq [.int .i64,.int .i64,.int .i64] x1.g.es.length (encL encE x1.g.es) (encL encE x1.g.es)))/\(((RLe x1.of.length x1.of.length)/\(RI x1.of.length x1.of x1.of))/\True))))
theorem q76f3 {x1:NOX} {x3:List Int}:q76F3 x1 x3:=⟨⟨rl,rr⟩,q76f1,⟨rl,rr⟩,⟨rl,rr⟩,trivial⟩
set_option maxRecDepth 100000 in
theorem rnodes_keeps:Keeps cfgVn Tryz.f23 vnodesC nnI:=Eq.mp (show(∀ x1:NOX,((x1.of.length<=(1048576:Nat))->(∃ x3:List Int,((x3.length<=(1048576:Nat))/\(((0=0/\x1.of.length=x3.length)/\True)/\(((RW [.int .i64] x3.length x1.of.length (encL encI x1.of) (encL encI x3))/\True)/\(∃ x4:Nat,(((x4<=(ofZ x1.of x1.of.length).length)/\(((0=(x4:Int))/\((True/\(0=0/\((nodesAt x1.g.n x1.of x4).length=(0:Nat))))/\(q76F2 x1 x3)))/\(((nodesAt x1.g.n x1.of x4).length=(0:Nat))/\(q76F3 x1 x3))))/\(∀ x5:Nat,((x5<=(ofZ x1.of x1.of.length).length)->(CB (decide ((x5:Int)<(↑(ofZ x3 x3.length).length:Int))) ((Ix (x5:Int) (↑(ofZ x3 x3.length).length:Int))/\((0+Int.toNat (x5:Int)<(ofZ x3 x3.length).length)/\(CB (decide ((ofZ x3 x3.length).getD (0+Int.toNat (x5:Int)) default<(x1.g.n:Int))) (((True/\True)/\True)/\((0=0/\(((nodesAt x1.g.n x1.of x5).length<=(nodesAt x1.g.n x1.of x5).length)/\(((1:Nat)<=(1:Nat))/\((nodesAt x1.g.n x1.of x5).length+(1:Nat)<=(1073741824:Nat)))))/\((R6 ((x5:Int)+1))/\(∃ x9:Nat,(((ofZ x1.of x1.of.length).length-x9<(ofZ x1.of x1.of.length).length-x5)/\((x9<=(ofZ x1.of x1.of.length).length)/\((((x5:Int)+1=(x9:Int))/\((0=0/\((nodesAt x1.g.n x1.of x5).length+(1:Nat)=(nodesAt x1.g.n x1.of x9).length))/\(q76F2 x1 x3)))/\((RW [.int .i64] (nodesAt x1.g.n x1.of x9).length ((nodesAt x1.g.n x1.of x5).length+(1:Nat)) (appRows (nodesAt x1.g.n x1.of x5).length (encL encI (nodesAt x1.g.n x1.of x5)) 0 (litRows ((D.i ((ofZ x3 x3.length).getD (0+Int.toNat (x5:Int)) default)::@List.nil D)::@List.nil (List D)))) (encL encI (nodesAt x1.g.n x1.of x9)))/\(q76F3 x1 x3))))))))) ((R6 ((x5:Int)+1))/\(∃ x11:Nat,(((ofZ x1.of x1.of.length).length-x11<(ofZ x1.of x1.of.length).length-x5)/\((x11<=(ofZ x1.of x1.of.length).length)/\((((x5:Int)+1=(x11:Int))/\((0=0/\((nodesAt x1.g.n x1.of x5).length=(nodesAt x1.g.n x1.of x11).length))/\(q76F2 x1 x3)))/\((RW [.int .i64] (nodesAt x1.g.n x1.of x11).length (nodesAt x1.g.n x1.of x5).length (encL encI (nodesAt x1.g.n x1.of x5)) (encL encI (nodesAt x1.g.n x1.of x11)))/\(q76F3 x1 x3)))))))))) ((0=0/\((nodesAt x1.g.n x1.of x5).length=(nodesL x1.g.n x1.of).length))/\((RW [.int .i64] (nodesL x1.g.n x1.of).length (nodesAt x1.g.n x1.of x5).length (encL encI (nodesAt x1.g.n x1.of x5)) (encL encI (nodesL x1.g.n x1.of)))/\True)))))))))))))=(Keeps cfgVn Tryz.f23 vnodesC nnI) by kernel_rfl) (fun x1=>fun h2=>⟨(NOX.of x1),(by omega),⟨⟨rfl,rfl⟩,trivial⟩,⟨⟨rl,rr⟩,trivial⟩,((0:Nat)),⟨(by omega),⟨(by omega),⟨trivial,rfl,rfl⟩,q76f2⟩,rfl,q76f3⟩,fun x5=>fun h6=>⟨fun g7=>have h7:=dT g7;⟨⟨(by omega),(by omega)⟩,(by omega),fun g8=>have h8:=dT g8;⟨⟨⟨trivial,trivial⟩,trivial⟩,⟨rfl,(by omega),(by omega),(by have:=nodesAt_len x1.g.n x1.of x5;omega)⟩,⟨(by omega),(by have:=ofZ_len x1.of x1.of.length;omega)⟩,(x5+(1:Nat)),(by omega),(by omega),⟨(by omega),⟨rfl,(by(try simp only[Nat.zero_add,Int.toNat_natCast]at *);have e:=nodes_yes ‹_› ‹_›;(simp only[e,List.length_append,List.length_singleton];done))⟩,q76f2⟩,⟨⟨(by(try simp only[Nat.zero_add,Int.toNat_natCast]at *);have e:=nodes_yes ‹_› ‹_›;(simp only[e,List.length_append,List.length_singleton];omega))⟩,(by(try simp only[Nat.zero_add,Int.toNat_natCast]at *);have e:=nodes_yes ‹_› ‹_›;(rw[e];exact pushR_rows))⟩,q76f3⟩,fun g10=>have h10:=dF g10;⟨⟨(by omega),(by have:=ofZ_len x1.of x1.of.length;omega)⟩,(x5+(1:Nat)),(by omega),(by omega),⟨(by omega),⟨rfl,(by(try simp only[Nat.zero_add,Int.toNat_natCast]at *);have e:=nodes_no ‹_› ‹_›;(rw[e];done))⟩,q76f2⟩,⟨⟨(by(try simp only[Nat.zero_add,Int.toNat_natCast]at *);have e:=nodes_no ‹_› ‹_›;(simp only[e,List.length_append,List.length_singleton];omega))⟩,(by(try simp only[Nat.zero_add,Int.toNat_natCast]at *);have e:=nodes_no ‹_› ‹_›;(rw[e];exact rr))⟩,q76f3⟩⟩,fun g12=>have h12:=dF g12;⟨⟨rfl,(by rw[(nodes_end (n:=x1.g.n) ‹_› ‹_›)])⟩,⟨⟨(by(try simp only[Nat.zero_add,Int.toNat_natCast]at *);have e:=nodes_end (n:=x1.g.n) ‹_› ‹_›;(simp only[e,List.length_append,List.length_singleton];omega))⟩,(by rw[(nodes_end (n:=x1.g.n) ‹_› ‹_›)];exact rr)⟩,trivial⟩⟩⟩)
theorem rnodes_good:Good Tryz.prog 23 vnodesC/\FnOk Tryz.prog 23:=good_of tok conVn (fn:=Tryz.f23) rfl (by decide+kernel) (fun _=>rfl) rnodes_keeps
def smeC:CT where
 X:=AhX
 pre:=fun x=>x.a.length<=1000/\x.b.length<=1000
 args:=fun x=>[.sl 100000 0 x.a.length,.sl 100001 0 x.b.length]
 g0:=fun x=>[(100000,.rows .bor kM x.a.length (encL encM x.a)),(100001,.rows .bor kM x.b.length (encL encM x.b))]
 res:=fun x=>.b (decide (x.a=x.b))
 g1:=fun _=>[]
def smeI (x:AhX) (id:Nat):Option Inv:=match id with
 |0=>some { X:=Nat,ok:=fun k=>(k<=x.a.length/\x.a.length=x.b.length)/\x.a.take k=x.b.take k,fr:=fun k=>[(12,.i .i64 x.a.length),(13,.i .i64 k)],hp:=fun k=>[],me:=fun k=>x.a.length-k }
 |_=>none
abbrev q77F0 (x1:AhX):Prop:=(0=0/\x1.a.length=x1.a.length)
theorem q77f0 {x1:AhX}:q77F0 x1:=⟨rfl,rfl⟩
abbrev q77F1 (x1:AhX):Prop:=(0=0/\x1.b.length=x1.b.length)
theorem q77f1 {x1:AhX}:q77F1 x1:=⟨rfl,rfl⟩
abbrev q77F2 (x1:AhX):Prop:=((q77F0 x1)/\(false=false/\(((x1.b.length:Int)=(x1.b.length:Int))/\((q77F1 x1)/\(((x1.a.length:Int)=(x1.a.length:Int))/\((q77F0 x1)/\((q77F0 x1)/\((q77F1 x1)/\True))))))))
theorem q77f2 {x1:AhX}:q77F2 x1:=⟨q77f0,rfl,rfl,q77f1,rfl,q77f0,q77f0,q77f1,trivial⟩
abbrev q77F3 (x1:AhX):Prop:=(((RLe x1.a.length x1.a.length)/\(RowsEq [.int .i64,.int .i64] x1.a.length (encL encM x1.a) (encL encM x1.a)))/\(((RLe x1.b.length x1.b.length)/\(RowsEq [.int .i64,.int .i64] x1.b.length (encL encM x1.b) (encL encM x1.b)))/\True))
theorem q77f3 {x1:AhX}:q77F3 x1:=⟨⟨rl,rr⟩,⟨rl,rr⟩,trivial⟩
set_option maxRecDepth 100000 in
theorem sme_keeps:Keeps cfg0 Tryz.f12 smeC smeI:=Eq.mp (show(∀ x1:AhX,(((x1.a.length<=(1000:Nat))/\(x1.b.length<=(1000:Nat)))->(CB (decide ((x1.a.length:Int)≠(x1.b.length:Int))) ((false=decide (x1.a=x1.b))/\True) (∃ x5:Nat,(((((x5<=x1.a.length)/\x1.a.length=x1.b.length)/\(List.take x5 x1.a=List.take x5 x1.b))/\((((x1.a.length:Int)=(x1.a.length:Int))/\((0=(x5:Int))/\(q77F2 x1)))/\(q77F3 x1)))/\(∀ x6:Nat,((((x6<=x1.a.length)/\x1.a.length=x1.b.length)/\(List.take x6 x1.a=List.take x6 x1.b))->(CB (decide ((x6:Int)<(x1.a.length:Int))) ((Ix (x6:Int) (x1.a.length:Int))/\((0+Int.toNat (x6:Int)<x1.a.length)/\((Ix (x6:Int) (x1.b.length:Int))/\((0+Int.toNat (x6:Int)<x1.b.length)/\(CB (!(decide (Prod.fst (x1.a.getD (0+Int.toNat (x6:Int)) default)=Prod.fst (x1.b.getD (0+Int.toNat (x6:Int)) default))&&(decide (Prod.snd (x1.a.getD (0+Int.toNat (x6:Int)) default)=Prod.snd (x1.b.getD (0+Int.toNat (x6:Int)) default))&&true))) ((false=decide (x1.a=x1.b))/\True) ((R6 ((x6:Int)+1))/\(∃ x11:Nat,((x1.a.length-x11<x1.a.length-x6)/\((((x11<=x1.a.length)/\x1.a.length=x1.b.length)/\(List.take x11 x1.a=List.take x11 x1.b))/\((((x1.a.length:Int)=(x1.a.length:Int))/\(((x6:Int)+1=(x11:Int))/\(q77F2 x1)))/\(q77F3 x1))))))))))) ((true=decide (x1.a=x1.b))/\True)))))))))=(Keeps cfg0 Tryz.f12 smeC smeI) by kernel_rfl) (fun x1=>fun h2=>⟨fun g3=>have h3:=dT g3;⟨(by grind),trivial⟩,fun g4=>have h4:=dF g4;⟨((0:Nat)),⟨⟨⟨(by omega),(by omega)⟩,(by grind)⟩,⟨rfl,(by omega),q77f2⟩,q77f3⟩,fun x6=>fun h7=>⟨fun g8=>have h8:=dT g8;⟨⟨(by omega),(by omega)⟩,(by omega),⟨(by omega),(by omega)⟩,(by omega),fun h9=>⟨(by grind),trivial⟩,fun h10=>⟨⟨(by omega),(by omega)⟩,(x6+(1:Nat)),(by omega),⟨⟨(by omega),(by omega)⟩,(by have e:=mv_eq h10;rw[nat0]at e;exact take_s h7.2 (by omega) (by omega) e)⟩,⟨rfl,(by omega),q77f2⟩,q77f3⟩⟩,fun g12=>have h12:=dF g12;⟨(by grind),trivial⟩⟩⟩⟩)
theorem sme_good:Good Tryz.prog 12 smeC/\FnOk Tryz.prog 12:=good_of tok con0 (fn:=Tryz.f12) rfl (by decide+kernel) (fun _=>rfl) sme_keeps
abbrev q78F0 (x1:List Mv):Prop:=(True/\((0=0/\x1.length=x1.length)/\True))
theorem q78f0 {x1:List Mv}:q78F0 x1:=⟨trivial,⟨rfl,rfl⟩,trivial⟩
abbrev q78F1 (x1:List Mv):Prop:=((RLe x1.length x1.length)/\(RowsEq [.int .i64,.int .i64] x1.length (encL encM x1) (encL encM x1)))
theorem q78f1 {x1:List Mv}:q78F1 x1:=⟨rl,rr⟩
set_option maxRecDepth 100000 in
theorem pn_keeps:Keeps cfg0 Tryz.f13 owC owI:=Eq.mp (show(∀ x1:List Mv,((x1.length<=(60:Nat))->(∃ x3:Nat,(((x3<=x1.length)/\(((True/\(0=0/\(x3=(0:Nat))))/\((0=0/\x1.length=x1.length)/\(((x1.length:Int)=(x1.length:Int))/\((0=(x3:Int))/\(q78F0 x1)))))/\((q78F1 x1)/\((x3=(0:Nat))/\True))))/\(∀ x4:Nat,((x4<=x1.length)->(CB (decide ((x4:Int)<(x1.length:Int))) ((Ix (x4:Int) (x1.length:Int))/\((0+Int.toNat (x4:Int)<x1.length)/\(((True/\(True/\True))/\True)/\((0=0/\((x4<=x4)/\(((1:Nat)<=(1:Nat))/\(x4+(1:Nat)<=(1073741824:Nat)))))/\((R6 ((x4:Int)+1))/\(∃ x7:Nat,((x1.length-x7<x1.length-x4)/\((x7<=x1.length)/\(((0=0/\(x4+(1:Nat)=x7))/\((0=0/\x1.length=x1.length)/\(((x1.length:Int)=(x1.length:Int))/\(((x4:Int)+1=(x7:Int))/\(q78F0 x1)))))/\((q78F1 x1)/\((RW [.int .i64,.int .i64] x7 (x4+(1:Nat)) (appRows x4 (encL encM (List.take x4 x1)) 0 (litRows ((D.i (Prod.fst (x1.getD (0+Int.toNat (x4:Int)) default))::D.i (Prod.snd (x1.getD (0+Int.toNat (x4:Int)) default))::@List.nil D)::@List.nil (List D)))) (encL encM (List.take x7 x1)))/\True))))))))))) ((0=0/\x4=x1.length)/\((RW [.int .i64,.int .i64] x1.length x4 (encL encM (List.take x4 x1)) (encL encM x1))/\True)))))))))=(Keeps cfg0 Tryz.f13 owC owI) by kernel_rfl) (fun x1=>fun h2=>⟨((0:Nat)),⟨(by omega),⟨⟨trivial,rfl,rfl⟩,⟨rfl,rfl⟩,rfl,(by omega),q78f0⟩,q78f1,rfl,trivial⟩,fun x4=>fun h5=>⟨fun g6=>have h6:=dT g6;⟨⟨(by omega),(by omega)⟩,(by omega),⟨⟨trivial,trivial,trivial⟩,trivial⟩,⟨rfl,(by omega),(by omega),(by omega)⟩,⟨(by omega),(by omega)⟩,(x4+(1:Nat)),(by omega),(by omega),⟨⟨rfl,rfl⟩,⟨rfl,rfl⟩,rfl,(by omega),q78f0⟩,q78f1,⟨rl,(by exact ow_r h6 (by rw[ow_len (by omega)];omega))⟩,trivial⟩,fun g8=>have h8:=dF g8;⟨⟨rfl,(by omega)⟩,⟨⟨(by omega)⟩,(by rw[ow_t h8];exact rr)⟩,trivial⟩⟩⟩)
theorem pn_good:Good Tryz.prog 13 owC/\FnOk Tryz.prog 13:=good_of tok con0 (fn:=Tryz.f13) rfl (by decide+kernel) (fun _=>rfl) pn_keeps
end Go.Sym