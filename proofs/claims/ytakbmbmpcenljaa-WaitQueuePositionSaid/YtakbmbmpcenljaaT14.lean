import Derived.Test.YtakbmbmpcenljaaT13
import Derived.Test.YtakbmbmpcenljaaXD
namespace Go.Sym
set_option linter.unusedVariables false
set_option linter.unusedSimpArgs false
open Go.Proofs
set_option maxRecDepth 100000
set_option maxHeartbeats 4000000
structure LDx where
 a:List Int
 b:List Int
 lo:Nat
def sameC:CT where
 X:=LDx
 pre:=fun x=>x.a.length<=1000/\x.b.length<=1000/\x.lo<=x.b.length
 args:=fun x=>[.sl 100000 0 x.a.length,.sl 100001 x.lo (x.b.length-x.lo)]
 g0:=fun x=>[(100000,.rows .bor k1 x.a.length (encL encI x.a)),(100001,.rows .bor k1 x.b.length (encL encI x.b))]
 res:=fun x=>.b (decide (x.a=x.b.drop x.lo))
 g1:=fun _=>[]
def sameI (x:LDx) (id:Nat):Option Inv:=match id with
 |0=>some { X:=Nat,ok:=fun k=>k<=x.a.length/\x.a.take k=(x.b.drop x.lo).take k,fr:=fun k=>[(5,.i .i64 k)],hp:=fun _=>[],me:=fun k=>x.a.length-k }
 |_=>none
theorem drop_getD (b:List Int) (lo k:Nat):(b.drop lo).getD k default=b.getD (lo+k) default:=by rw[List.getD_eq_getElem?_getD,List.getElem?_drop,List.getD_eq_getElem?_getD]
theorem same_step {a b:List Int} {lo k:Nat} (hl:a.length=b.length-lo) (hk:(k:Int)<a.length) (h:¬ a.getD (0+(k:Int).toNat) default≠b.getD (lo+(k:Int).toNat) default) (ht:k<=a.length/\a.take k=(b.drop lo).take k):a.take (k+1)=(b.drop lo).take (k+1):=by
 rw[nat0,show(k:Int).toNat=k from rfl]at h
 rw[take_succ_getD (d:=default) (by omega),take_succ_getD (d:=default) (by rw[List.length_drop];omega),ht.2,drop_getD]
 have:a.getD k default=b.getD (lo+k) default:=by omega
 rw[this]
set_option maxRecDepth 100000 in
theorem same_keeps:Keeps cfgN0 Try.f15 sameC sameI:=Eq.mp (show((∀ x1:LDx,((x1.a.length<=(1000:Nat)/\x1.b.length<=(1000:Nat)/\x1.lo<=x1.b.length)->(((decide ((x1.a.length:Int)≠(↑(x1.b.length-x1.lo):Int))=true)->((false=decide (x1.a=List.drop x1.lo x1.b))/\True))/\((decide ((x1.a.length:Int)≠(↑(x1.b.length-x1.lo):Int))=false)->(∃ x5:Nat,((((x5<=x1.a.length)/\(List.take x5 x1.a=List.take x5 (List.drop x1.lo x1.b)))/\(((0=(x5:Int))/\((decide ((x1.a.length:Int)≠(↑(x1.b.length-x1.lo):Int))=decide ((x1.a.length:Int)≠(↑(x1.b.length-x1.lo):Int)))/\(((↑(x1.b.length-x1.lo):Int)=(↑(x1.b.length-x1.lo):Int))/\((x1.lo=x1.lo/\(x1.b.length-x1.lo=x1.b.length-x1.lo))/\(((x1.a.length:Int)=(x1.a.length:Int))/\((0=0/\x1.a.length=x1.a.length)/\((0=0/\x1.a.length=x1.a.length)/\((x1.lo=x1.lo/\(x1.b.length-x1.lo=x1.b.length-x1.lo))/\True))))))))/\(((RLe x1.a.length x1.a.length)/\(RI x1.a.length x1.a x1.a))/\(((RLe x1.b.length x1.b.length)/\(RI x1.b.length x1.b x1.b))/\True))))/\(∀ x6:Nat,((x6<=x1.a.length/\List.take x6 x1.a=List.take x6 (List.drop x1.lo x1.b))->(((decide ((x6:Int)<(x1.a.length:Int))=true)->((((0:Int)<=(x6:Int))/\((x6:Int)<(x1.a.length:Int)))/\((0+Int.toNat (x6:Int)<x1.a.length)/\((((0:Int)<=(x6:Int))/\((x6:Int)<(↑(x1.b.length-x1.lo):Int)))/\((x1.lo+Int.toNat (x6:Int)<x1.b.length)/\(((decide (x1.a.getD (0+Int.toNat (x6:Int)) default≠x1.b.getD (x1.lo+Int.toNat (x6:Int)) default)=true)->((false=decide (x1.a=List.drop x1.lo x1.b))/\True))/\((decide (x1.a.getD (0+Int.toNat (x6:Int)) default≠x1.b.getD (x1.lo+Int.toNat (x6:Int)) default)=false)->((((-9223372036854775808:Int)<=(x6:Int)+1)/\((x6:Int)+1<=(9223372036854775807:Int)))/\(∃ x11:Nat,((x1.a.length-x11<x1.a.length-x6)/\(((x11<=x1.a.length)/\(List.take x11 x1.a=List.take x11 (List.drop x1.lo x1.b)))/\((((x6:Int)+1=(x11:Int))/\((decide ((x1.a.length:Int)≠(↑(x1.b.length-x1.lo):Int))=decide ((x1.a.length:Int)≠(↑(x1.b.length-x1.lo):Int)))/\(((↑(x1.b.length-x1.lo):Int)=(↑(x1.b.length-x1.lo):Int))/\((x1.lo=x1.lo/\(x1.b.length-x1.lo=x1.b.length-x1.lo))/\(((x1.a.length:Int)=(x1.a.length:Int))/\((0=0/\x1.a.length=x1.a.length)/\((0=0/\x1.a.length=x1.a.length)/\((x1.lo=x1.lo/\(x1.b.length-x1.lo=x1.b.length-x1.lo))/\True))))))))/\(((RLe x1.a.length x1.a.length)/\(RI x1.a.length x1.a x1.a))/\(((RLe x1.b.length x1.b.length)/\(RI x1.b.length x1.b x1.b))/\True))))))))))))))/\((decide ((x6:Int)<(x1.a.length:Int))=false)->((true=decide (x1.a=List.drop x1.lo x1.b))/\True))))))))))))=(Keeps cfgN0 Try.f15 sameC sameI) by kernel_rfl) (fun x1=>fun h2=>⟨fun g3=>have h3:=dT g3;⟨(by grind),trivial⟩,
fun g4=>have h4:=dF g4;⟨((0:Nat)),
⟨⟨(by(try dsimp only at *);omega),
(by(try dsimp only at *);grind)⟩,
⟨(by(try dsimp only at *);omega),rfl,rfl,
⟨rfl,rfl⟩,rfl,
⟨rfl,rfl⟩,
⟨rfl,rfl⟩,
⟨rfl,rfl⟩,trivial⟩,
⟨rl,rr⟩,
⟨rl,rr⟩,trivial⟩,
fun x6=>fun h7=>⟨fun g8=>have h8:=dT g8;⟨⟨(by(try dsimp only at *);omega),
(by(try dsimp only at *);omega)⟩,
(by(try dsimp only at *);omega),
⟨(by(try dsimp only at *);omega),
(by(try dsimp only at *);omega)⟩,
(by(try dsimp only at *);omega),
fun g9=>have h9:=dT g9;⟨(by(try dsimp only at *);grind),trivial⟩,
fun g10=>have h10:=dF g10;⟨⟨(by(try dsimp only at *);omega),
(by(try dsimp only at *);omega)⟩,
(x6+(1:Nat)),
(by(try dsimp only at *);omega),
⟨(by(try dsimp only at *);omega),
(by(try dsimp only at *);exact same_step (by omega) (by assumption) (by assumption) (by assumption))⟩,
⟨(by(try dsimp only at *);omega),rfl,rfl,
⟨rfl,rfl⟩,rfl,
⟨rfl,rfl⟩,
⟨rfl,rfl⟩,
⟨rfl,rfl⟩,trivial⟩,
⟨rl,rr⟩,
⟨rl,rr⟩,trivial⟩⟩,
fun g12=>have h12:=dF g12;⟨(by(try dsimp only at *);grind),trivial⟩⟩⟩⟩)
theorem leP_nlt {a b:Pl} (h:leP a b=true):ltP b a=false:=by unfold leP at h;simpa using h
theorem cnt_at:∀ {S:List Pl},(S.Pairwise fun a b=>leP a b=true)->S.Nodup->∀ j (hj:j<S.length),S.countP (fun y=>ltP y S[j])=j
 | [],_,_,j,hj=>absurd hj (Nat.not_lt_zero _)
 |h::t,hs,hn,j,hj=>by
  obtain⟨h1,h2⟩:=List.pairwise_cons.1 hs
  obtain⟨n1,n2⟩:=List.nodup_cons.1 hn
  cases j with
  |zero=>
   rw[List.countP_eq_zero]
   intro y hy
   show ¬ ltP y h=true
   rcases List.mem_cons.1 hy with e|e
   ·subst e;rw[ltP_irr];decide
   ·rw[leP_nlt (h1 y e)];decide
  |succ j=>
   have hj2:j<t.length:=by simpa using hj
   show List.countP (fun y=>ltP y t[j]) (h::t)=j+1
   have e1:ltP h t[j]=true:=by
    cases e:ltP h t[j]with
    |true=>rfl
    |false=>exact absurd (ltP_tot _ _ e (leP_nlt (h1 _ (List.getElem_mem hj2)))▸List.getElem_mem hj2) n1
   rw[List.countP_cons,if_pos e1,cnt_at h2 n2 j hj2]
def cntF (q:Qs) (now:Int) (i k:Nat):Nat:=(q.l.take k).countP fun c=>befF q.ages now c (q.l.getD i default)
def cntA (q:Qs) (now:Int) (i:Nat):Nat:=q.l.countP fun c=>befF q.ages now c (q.l.getD i default)
theorem cntA_eq (q:Qs) (now:Int) (i:Nat):cntA q now i=(plsF q now).countP fun y=>ltP y (plF q.ages now (q.l.getD i default)):=by
 unfold plsF
 rw[(ordP_perm _).countP_eq,List.countP_map];rfl
theorem pls_nodup {q:Qs} (hn:(idsC q.l).Nodup) (now:Int):(plsF q now).Nodup:=by
 refine(ordP_perm _).nodup_iff.2 ?_
 have e:(q.l.map (plF q.ages now)).map Pl.ca=idsC q.l:=by rw[List.map_map];rfl
 rw[<- e]at hn
 exact(List.pairwise_map.1 hn).imp fun h e=>h (congrArg _ e)
theorem getD_at {α:Type} [Inhabited α] {l:List α} {i:Nat} (h:i<l.length):l.getD i default=l[i]:=by rw[List.getD_eq_getElem?_getD,List.getElem?_eq_getElem h];rfl
theorem cnt_hit {q:Qs} (hn:(idsC q.l).Nodup) {now:Int} {i j:Nat} (hi:i<q.l.length) (h:cntA q now i=j):j<q.l.length/\(q.l.getD i default).id=(orderF q now).getD j default:=by
 have hm:plF q.ages now (q.l.getD i default)∈plsF q now:=(ordP_perm _).mem_iff.2 (List.mem_map.2 ⟨_,by rw[getD_at hi];exact List.getElem_mem hi,rfl⟩)
 obtain⟨j2,hj2,e⟩:=List.mem_iff_getElem.1 hm
 have c:=cnt_at (S:=plsF q now) (ordP_sorted _) (pls_nodup hn now) j2 hj2
 rw[cntA_eq,<- e,c]at h
 subst h
 refine⟨by rwa [plsF_len]at hj2,?_⟩
 unfold orderF
 rw[List.getD_eq_getElem?_getD (l:=List.map _ _),List.getElem?_map,List.getElem?_eq_getElem hj2,e];rfl
theorem cnt_some {q:Qs} (hn:(idsC q.l).Nodup) {now:Int} {j:Nat} (hj:j<q.l.length):∃ i,i<q.l.length/\cntA q now i=j:=by
 have hj2:j<(plsF q now).length:=by rw[plsF_len];exact hj
 have hm:=(ordP_perm _).mem_iff.1 (List.getElem_mem hj2)
 obtain⟨c,hc,e⟩:=List.mem_map.1 hm
 obtain⟨i,hi,rfl⟩:=List.mem_iff_getElem.1 hc
 refine⟨i,hi,?_⟩
 rw[cntA_eq,getD_at hi,e]
 exact cnt_at (ordP_sorted _) (pls_nodup hn now) j hj2
def roC:CT where
 X:=NwX
 pre:=fun x=>QOk x.q/\x.q.l.length<=30
 args:=fun x=>[.p 100000 0 0,.i .i64 x.now]
 g0:=fun x=>rmH 100000 .bor .bor x.q
 res:=fun x=>.sl 1 0 x.q.l.length
 g1:=fun x=>[(1,.rows .own k1 x.q.l.length (encL encI (orderF x.q x.now)))]
def roK (x:NwX) (i:Nat) (id:Nat):Option Inv:=match id with
 |4=>some { X:=Nat,ok:=fun k=>k<=x.q.l.length,fr:=fun k=>[(7,.i .i64 (cntF x.q x.now i k)),(8,.i .i64 k)],hp:=fun _=>[],me:=fun k=>x.q.l.length-k }
 |_=>none
def roJ (x:NwX) (j:Nat) (id:Nat):Option Inv:=match id with
 |2=>some { X:=Nat,ok:=fun i=>i<=x.q.l.length/\∀ m,m<i->cntA x.q x.now m≠j,fr:=fun i=>[(6,.i .i64 i),(5,.sl 102 0 j)],hp:=fun _=>[(102,.rows .own k1 j (encL encI ((orderF x.q x.now).take j)))],me:=fun i=>x.q.l.length-i,inn:=roK x }
 |_=>none
def roI (x:NwX) (id:Nat):Option Inv:=match id with
 |0=>some { X:=Nat,ok:=fun j=>j<=x.q.l.length,fr:=fun j=>[(5,.sl 101 0 j)],hp:=fun j=>[(101,.rows .own k1 j (encL encI ((orderF x.q x.now).take j)))],me:=fun j=>x.q.l.length-j,inn:=roJ x }
 |_=>none
def cfgRo:Cfg:=⟨T,[],[(36,.one wbC)],noInv,60,{}⟩
theorem cnt_step {q:Qs} {now:Int} {i k:Nat} (hk:(k:Int)<q.l.length):cntF q now i (k+1)=cntF q now i k+(if befF q.ages now (q.l.getD (0+(k:Int).toNat) default) (q.l.getD (0+(i:Int).toNat) default)=true then 1 else 0):=by
 unfold cntF
 rw[nat0,nat0,take_succ_getD (d:=default) (by omega),List.countP_append,List.countP_singleton]
theorem cnt_all {q:Qs} {now:Int} {i k:Nat} (h:k<=q.l.length) (hk:¬ (k:Int)<q.l.length):cntF q now i k=cntA q now i:=by
 unfold cntF cntA;rw[List.take_of_length_le (by omega)]
theorem cntF_le (q:Qs) (now:Int) (i k:Nat):cntF q now i k<=k:=Nat.le_trans List.countP_le_length (by rw[List.length_take];omega)
theorem pok_in {q:Qs} (h:QOk q) {now:Int} {i:Nat} (hi:(i:Int)<q.l.length):Pok ⟨q,q.l.getD (0+(i:Int).toNat) default,now⟩:=by
 rw[nat0];exact pok_of h now (by rw[getD_at (by omega)];exact List.getElem_mem _)
theorem cnt_inc {q:Qs} {now:Int} {i k:Nat} (hk:(k:Int)<q.l.length) (h:befF q.ages now (q.l.getD (0+(k:Int).toNat) default) (q.l.getD (0+(i:Int).toNat) default)=true):cntF q now i (k+1)=cntF q now i k+1:=by
 rw[cnt_step hk,if_pos h]
theorem cnt_same {q:Qs} {now:Int} {i k:Nat} (hk:(k:Int)<q.l.length) (h:befF q.ages now (q.l.getD (0+(k:Int).toNat) default) (q.l.getD (0+(i:Int).toNat) default)=false):cntF q now i (k+1)=cntF q now i k:=by
 rw[cnt_step hk,h];rfl
theorem ord_push {q:Qs} (hq:QOk q/\q.l.length<=30) {now:Int} {i j k:Nat} (hi:(i:Int)<q.l.length) (hj:(j:Int)<q.l.length) (h:k<=q.l.length) (hk:¬ (k:Int)<q.l.length) (e:(cntF q now i k:Int)=j):
  RowsEq k1 (j+1) (appRows j (encL encI ((orderF q now).take j)) 0 (litRows [[D.i (q.l.getD (0+(i:Int).toNat) default).id]])) (encL encI ((orderF q now).take (j+1))):=by
 rw[cnt_all h hk]at e
 have c:=(cnt_hit hq.1.n (now:=now) (i:=i) (j:=j) (by omega) (by omega)).2
 have hl:=orderF_len q now
 rw[nat0,take_succ_getD (d:=default) (by omega),c]
 exact rowsEq_push (by rw[List.length_take];omega) (by rw[List.length_take];omega) ⟨rfl,trivial⟩
theorem ord_next {q:Qs} {now:Int} {i j k:Nat} (hx:i<=q.l.length/\∀ m,m<i->cntA q now m≠j) (h:k<=q.l.length) (hk:¬ (k:Int)<q.l.length) (e:¬ (cntF q now i k:Int)=j) {m:Nat} (hm:m<i+1):cntA q now m≠j:=by
 rcases Nat.lt_succ_iff_lt_or_eq.1 hm with a|a
 ·exact hx.2 m a
 ·subst a;rw[cnt_all h hk]at e;omega
set_option maxRecDepth 100000 in
theorem ro_keeps:Keeps cfgRo Try.f17 roC roI:=Eq.mp (show((∀ x1:NwX,((QOk x1.q/\x1.q.l.length<=(30:Nat))->(True/\(∃ x3:Nat,(((x3<=x1.q.l.length)/\(((0=0/\((0:Nat)=x3))/\(True/\((0=0/\0=0)/\(x1.now=x1.now/\True))))/\(((RLe x3 0)/\(RowsEq [.int .i64] x3 (litRows (@List.nil (List D))) (encL encI (List.take x3 (orderF x1.q x1.now)))))/\((x1.q.most=x1.q.most/\(x1.q.ages=x1.q.ages/\((0=0/\x1.q.l.length=x1.q.l.length)/\True)))/\(((RLe x1.q.l.length x1.q.l.length)/\(RowsEq [.int .i64,.int .i64,.int .i64] x1.q.l.length (encL encC x1.q.l) (encL encC x1.q.l)))/\True)))))/\(∀ x4:Nat,((x4<=x1.q.l.length)->(((decide ((x4:Int)<(x1.q.l.length:Int))=true)->(∃ x7:Nat,((((x7<=x1.q.l.length)/\(∀ m8:Nat,((m8<x7)->(cntA x1.q x1.now m8≠x4))))/\(((0=(x7:Int))/\((0=0/\x4=x4)/\((decide ((x4:Int)<(x1.q.l.length:Int))=decide ((x4:Int)<(x1.q.l.length:Int)))/\(((x1.q.l.length:Int)=(x1.q.l.length:Int))/\((0=0/\x1.q.l.length=x1.q.l.length)/\((0=0/\((2:Nat)=(2:Nat)))/\((0=0/\0=0)/\((0=0/\0=0)/\(((x4:Int)=(x4:Int))/\(True/\((0=0/\0=0)/\(x1.now=x1.now/\True))))))))))))/\((RLe x4 x4/\(RI x4 (List.take x4 (orderF x1.q x1.now)) (List.take x4 (orderF x1.q x1.now))))/\((x1.q.most=x1.q.most/\(x1.q.ages=x1.q.ages/\((0=0/\x1.q.l.length=x1.q.l.length)/\True)))/\(((RLe x1.q.l.length x1.q.l.length)/\(RowsEq [.int .i64,.int .i64,.int .i64] x1.q.l.length (encL encC x1.q.l) (encL encC x1.q.l)))/\True)))))/\(∀ x10:Nat,((x10<=x1.q.l.length/\∀(m:Nat),m<x10->cntA x1.q x1.now m≠x4)->(((decide ((x10:Int)<(x1.q.l.length:Int))=true)->(∃ x13:Nat,(((x13<=x1.q.l.length)/\(((0=(↑(cntF x1.q x1.now x10 x13):Int))/\((0=(x13:Int))/\((decide ((x10:Int)<(x1.q.l.length:Int))=decide ((x10:Int)<(x1.q.l.length:Int)))/\(((x1.q.l.length:Int)=(x1.q.l.length:Int))/\((0=0/\x1.q.l.length=x1.q.l.length)/\((0=0/\((2:Nat)=(2:Nat)))/\((0=0/\0=0)/\((0=0/\0=0)/\(((x10:Int)=(x10:Int))/\(((x10:Int)=(x10:Int))/\((0=0/\x4=x4)/\((decide ((x4:Int)<(x1.q.l.length:Int))=decide ((x4:Int)<(x1.q.l.length:Int)))/\(((x1.q.l.length:Int)=(x1.q.l.length:Int))/\((0=0/\x1.q.l.length=x1.q.l.length)/\((0=0/\((2:Nat)=(2:Nat)))/\((0=0/\0=0)/\((0=0/\0=0)/\(((x4:Int)=(x4:Int))/\(True/\((0=0/\0=0)/\(x1.now=x1.now/\True)))))))))))))))))))))/\((RLe x4 x4/\(RI x4 (List.take x4 (orderF x1.q x1.now)) (List.take x4 (orderF x1.q x1.now))))/\((x1.q.most=x1.q.most/\(x1.q.ages=x1.q.ages/\((0=0/\x1.q.l.length=x1.q.l.length)/\True)))/\(((RLe x1.q.l.length x1.q.l.length)/\(RowsEq [.int .i64,.int .i64,.int .i64] x1.q.l.length (encL encC x1.q.l) (encL encC x1.q.l)))/\True)))))/\(∀ x14:Nat,((x14<=x1.q.l.length)->(((decide ((x14:Int)<(x1.q.l.length:Int))=true)->((((0:Int)<=(x14:Int))/\((x14:Int)<(x1.q.l.length:Int)))/\((0+Int.toNat (x14:Int)<x1.q.l.length)/\((((0:Int)<=(x10:Int))/\((x10:Int)<(x1.q.l.length:Int)))/\((0+Int.toNat (x10:Int)<x1.q.l.length)/\(∃ x17:Bfx,(((Pok (Px.mk x17.q x17.a (0:Int)))/\(Pok (Px.mk x17.q x17.b (0:Int))))/\(((0=0/\0=0)/\((((x1.q.l.getD (0+Int.toNat (x14:Int)) default).id=x17.a.id)/\(((x1.q.l.getD (0+Int.toNat (x14:Int)) default).urg=x17.a.urg)/\(((x1.q.l.getD (0+Int.toNat (x14:Int)) default).since=x17.a.since)/\True)))/\((((x1.q.l.getD (0+Int.toNat (x10:Int)) default).id=x17.b.id)/\(((x1.q.l.getD (0+Int.toNat (x10:Int)) default).urg=x17.b.urg)/\(((x1.q.l.getD (0+Int.toNat (x10:Int)) default).since=x17.b.since)/\True)))/\(x1.now=x17.now/\True))))/\(((x1.q.most=x17.q.most/\(x1.q.ages=x17.q.ages/\((0=0/\x1.q.l.length=x17.q.l.length)/\True)))/\(((RLe x17.q.l.length x1.q.l.length)/\(RowsEq [.int .i64,.int .i64,.int .i64] x17.q.l.length (encL encC x1.q.l) (encL encC x17.q.l)))/\True))/\(((befF x17.q.ages x17.now x17.a x17.b=true)->((((-9223372036854775808:Int)<=(↑(cntF x1.q x1.now x10 x14):Int)+1)/\((↑(cntF x1.q x1.now x10 x14):Int)+1<=(9223372036854775807:Int)))/\((((-9223372036854775808:Int)<=(x14:Int)+1)/\((x14:Int)+1<=(9223372036854775807:Int)))/\(∃ x19:Nat,((x1.q.l.length-x19<x1.q.l.length-x14)/\((x19<=x1.q.l.length)/\((((↑(cntF x1.q x1.now x10 x14):Int)+1=(↑(cntF x1.q x1.now x10 x19):Int))/\(((x14:Int)+1=(x19:Int))/\((decide ((x10:Int)<(x1.q.l.length:Int))=decide ((x10:Int)<(x1.q.l.length:Int)))/\(((x1.q.l.length:Int)=(x1.q.l.length:Int))/\((0=0/\x1.q.l.length=x1.q.l.length)/\((0=0/\((2:Nat)=(2:Nat)))/\((0=0/\0=0)/\((0=0/\0=0)/\(((x10:Int)=(x10:Int))/\(((x10:Int)=(x10:Int))/\((0=0/\x4=x4)/\((decide ((x4:Int)<(x1.q.l.length:Int))=decide ((x4:Int)<(x1.q.l.length:Int)))/\(((x1.q.l.length:Int)=(x1.q.l.length:Int))/\((0=0/\x1.q.l.length=x1.q.l.length)/\((0=0/\((2:Nat)=(2:Nat)))/\((0=0/\0=0)/\((0=0/\0=0)/\(((x4:Int)=(x4:Int))/\(True/\((0=0/\0=0)/\(x1.now=x1.now/\True)))))))))))))))))))))/\((RLe x4 x4/\(RI x4 (List.take x4 (orderF x1.q x1.now)) (List.take x4 (orderF x1.q x1.now))))/\((x1.q.most=x1.q.most/\(x1.q.ages=x1.q.ages/\((0=0/\x1.q.l.length=x1.q.l.length)/\True)))/\(((RLe x1.q.l.length x1.q.l.length)/\(RowsEq [.int .i64,.int .i64,.int .i64] x1.q.l.length (encL encC x1.q.l) (encL encC x1.q.l)))/\True))))))))))/\((befF x17.q.ages x17.now x17.a x17.b=false)->((((-9223372036854775808:Int)<=(x14:Int)+1)/\((x14:Int)+1<=(9223372036854775807:Int)))/\(∃ x21:Nat,((x1.q.l.length-x21<x1.q.l.length-x14)/\((x21<=x1.q.l.length)/\((((↑(cntF x1.q x1.now x10 x14):Int)=(↑(cntF x1.q x1.now x10 x21):Int))/\(((x14:Int)+1=(x21:Int))/\((decide ((x10:Int)<(x1.q.l.length:Int))=decide ((x10:Int)<(x1.q.l.length:Int)))/\(((x1.q.l.length:Int)=(x1.q.l.length:Int))/\((0=0/\x1.q.l.length=x1.q.l.length)/\((0=0/\((2:Nat)=(2:Nat)))/\((0=0/\0=0)/\((0=0/\0=0)/\(((x10:Int)=(x10:Int))/\(((x10:Int)=(x10:Int))/\((0=0/\x4=x4)/\((decide ((x4:Int)<(x1.q.l.length:Int))=decide ((x4:Int)<(x1.q.l.length:Int)))/\(((x1.q.l.length:Int)=(x1.q.l.length:Int))/\((0=0/\x1.q.l.length=x1.q.l.length)/\((0=0/\((2:Nat)=(2:Nat)))/\((0=0/\0=0)/\((0=0/\0=0)/\(((x4:Int)=(x4:Int))/\(True/\((0=0/\0=0)/\(x1.now=x1.now/\True)))))))))))))))))))))/\((RLe x4 x4/\(RI x4 (List.take x4 (orderF x1.q x1.now)) (List.take x4 (orderF x1.q x1.now))))/\((x1.q.most=x1.q.most/\(x1.q.ages=x1.q.ages/\((0=0/\x1.q.l.length=x1.q.l.length)/\True)))/\(((RLe x1.q.l.length x1.q.l.length)/\(RowsEq [.int .i64,.int .i64,.int .i64] x1.q.l.length (encL encC x1.q.l) (encL encC x1.q.l)))/\True)))))))))))))))))))/\((decide ((x14:Int)<(x1.q.l.length:Int))=false)->(((decide ((↑(cntF x1.q x1.now x10 x14):Int)=(x4:Int))=true)->((((0:Int)<=(x10:Int))/\((x10:Int)<(x1.q.l.length:Int)))/\((0+Int.toNat (x10:Int)<x1.q.l.length)/\(((True/\True)/\True)/\((0=0/\((x4<=x4)/\(((1:Nat)<=(1:Nat))/\(x4+(1:Nat)<=(1073741824:Nat)))))/\(∃ x24:Nat,((x1.q.l.length-x24<x1.q.l.length-x4)/\((x24<=x1.q.l.length)/\(((0=0/\(x4+(1:Nat)=x24))/\(True/\((0=0/\0=0)/\(x1.now=x1.now/\True))))/\(((RLe x24 (x4+(1:Nat)))/\(RowsEq [.int .i64] x24 (appRows x4 (encL encI (List.take x4 (orderF x1.q x1.now))) 0 (litRows ((D.i (x1.q.l.getD (0+Int.toNat (x10:Int)) default).id::@List.nil D)::@List.nil (List D)))) (encL encI (List.take x24 (orderF x1.q x1.now)))))/\((x1.q.most=x1.q.most/\(x1.q.ages=x1.q.ages/\((0=0/\x1.q.l.length=x1.q.l.length)/\True)))/\(((RLe x1.q.l.length x1.q.l.length)/\(RowsEq [.int .i64,.int .i64,.int .i64] x1.q.l.length (encL encC x1.q.l) (encL encC x1.q.l)))/\True))))))))))))/\((decide ((↑(cntF x1.q x1.now x10 x14):Int)=(x4:Int))=false)->((((-9223372036854775808:Int)<=(x10:Int)+1)/\((x10:Int)+1<=(9223372036854775807:Int)))/\(∃ x26:Nat,((x1.q.l.length-x26<x1.q.l.length-x10)/\(((x26<=x1.q.l.length)/\(∀ m27:Nat,((m27<x26)->(cntA x1.q x1.now m27≠x4))))/\((((x10:Int)+1=(x26:Int))/\((0=0/\x4=x4)/\((decide ((x4:Int)<(x1.q.l.length:Int))=decide ((x4:Int)<(x1.q.l.length:Int)))/\(((x1.q.l.length:Int)=(x1.q.l.length:Int))/\((0=0/\x1.q.l.length=x1.q.l.length)/\((0=0/\((2:Nat)=(2:Nat)))/\((0=0/\0=0)/\((0=0/\0=0)/\(((x4:Int)=(x4:Int))/\(True/\((0=0/\0=0)/\(x1.now=x1.now/\True))))))))))))/\((RLe x4 x4/\(RI x4 (List.take x4 (orderF x1.q x1.now)) (List.take x4 (orderF x1.q x1.now))))/\((x1.q.most=x1.q.most/\(x1.q.ages=x1.q.ages/\((0=0/\x1.q.l.length=x1.q.l.length)/\True)))/\(((RLe x1.q.l.length x1.q.l.length)/\(RowsEq [.int .i64,.int .i64,.int .i64] x1.q.l.length (encL encC x1.q.l) (encL encC x1.q.l)))/\True)))))))))))))))))/\((decide ((x10:Int)<(x1.q.l.length:Int))=false)->(∃ x30:Nat,((x1.q.l.length-x30<x1.q.l.length-x4)/\((x30<=x1.q.l.length)/\(((0=0/\x4=x30)/\(True/\((0=0/\0=0)/\(x1.now=x1.now/\True))))/\((RLe x30 x4/\(RI x30 (List.take x4 (orderF x1.q x1.now)) (List.take x30 (orderF x1.q x1.now))))/\((x1.q.most=x1.q.most/\(x1.q.ages=x1.q.ages/\((0=0/\x1.q.l.length=x1.q.l.length)/\True)))/\(((RLe x1.q.l.length x1.q.l.length)/\(RowsEq [.int .i64,.int .i64,.int .i64] x1.q.l.length (encL encC x1.q.l) (encL encC x1.q.l)))/\True))))))))))))))/\((decide ((x4:Int)<(x1.q.l.length:Int))=false)->((0=0/\x4=x1.q.l.length)/\(((RLe x1.q.l.length x4)/\(RI x1.q.l.length (List.take x4 (orderF x1.q x1.now)) (orderF x1.q x1.now)))/\True))))))))))))=(Keeps cfgRo Try.f17 roC roI) by kernel_rfl) (fun x1=>fun h2=>⟨trivial,
((0:Nat)),
⟨(by(try dsimp only at *);omega),
⟨⟨rfl,rfl⟩,trivial,
⟨rfl,rfl⟩,rfl,trivial⟩,
⟨rl,
(by(try dsimp only at *);exact rr)⟩,
⟨rfl,rfl,
⟨rfl,rfl⟩,trivial⟩,
⟨rl,rr⟩,trivial⟩,
fun x4=>fun h5=>⟨fun g6=>have h6:=dT g6;⟨((0:Nat)),
⟨⟨(by(try dsimp only at *);omega),
fun m8=>fun h9=>(by(try dsimp only at *);omega)⟩,
⟨(by(try dsimp only at *);omega),
⟨rfl,rfl⟩,rfl,rfl,
⟨rfl,rfl⟩,
⟨rfl,rfl⟩,
⟨rfl,rfl⟩,
⟨rfl,rfl⟩,rfl,trivial,
⟨rfl,rfl⟩,rfl,trivial⟩,
⟨rl,rr⟩,
⟨rfl,rfl,
⟨rfl,rfl⟩,trivial⟩,
⟨rl,rr⟩,trivial⟩,
fun x10=>fun h11=>⟨fun g12=>have h12:=dT g12;⟨((0:Nat)),
⟨(by(try dsimp only at *);omega),
⟨(by(try dsimp only at *);rfl),
(by(try dsimp only at *);omega),rfl,rfl,
⟨rfl,rfl⟩,
⟨rfl,rfl⟩,
⟨rfl,rfl⟩,
⟨rfl,rfl⟩,rfl,rfl,
⟨rfl,rfl⟩,rfl,rfl,
⟨rfl,rfl⟩,
⟨rfl,rfl⟩,
⟨rfl,rfl⟩,
⟨rfl,rfl⟩,rfl,trivial,
⟨rfl,rfl⟩,rfl,trivial⟩,
⟨rl,rr⟩,
⟨rfl,rfl,
⟨rfl,rfl⟩,trivial⟩,
⟨rl,rr⟩,trivial⟩,
fun x14=>fun h15=>⟨fun g16=>have h16:=dT g16;⟨⟨(by(try dsimp only at *);omega),
(by(try dsimp only at *);omega)⟩,
(by(try dsimp only at *);omega),
⟨(by(try dsimp only at *);omega),
(by(try dsimp only at *);omega)⟩,
(by(try dsimp only at *);omega),
({ q:=NwX.q x1,a:=List.getD (Qs.l (NwX.q x1)) ((0:Nat)+Int.toNat (↑x14:Int)) default,b:=List.getD (Qs.l (NwX.q x1)) ((0:Nat)+Int.toNat (↑x10:Int)) default,now:=NwX.now x1:Bfx }),
⟨(by(try dsimp only at *);exact pok_in h2.1 ‹_›),
(by(try dsimp only at *);exact pok_in h2.1 ‹_›)⟩,
⟨⟨rfl,rfl⟩,
⟨rfl,rfl,rfl,trivial⟩,
⟨rfl,rfl,rfl,trivial⟩,rfl,trivial⟩,
⟨⟨rfl,rfl,
⟨rfl,rfl⟩,trivial⟩,
⟨rl,rr⟩,trivial⟩,
fun h18=>⟨⟨(by(try dsimp only at *);omega),
(by(try dsimp only at *);(have e:=cntF_le x1.q x1.now x10 x14;have e2:=h2.2;omega))⟩,
⟨(by(try dsimp only at *);omega),
(by(try dsimp only at *);omega)⟩,
(x14+(1:Nat)),
(by(try dsimp only at *);omega),
(by(try dsimp only at *);omega),
⟨(by(try dsimp only at *);(have e:=cnt_inc (q:=x1.q) (now:=x1.now) ‹_› ‹befF _ _ _ _=true›;omega)),
(by(try dsimp only at *);omega),rfl,rfl,
⟨rfl,rfl⟩,
⟨rfl,rfl⟩,
⟨rfl,rfl⟩,
⟨rfl,rfl⟩,rfl,rfl,
⟨rfl,rfl⟩,rfl,rfl,
⟨rfl,rfl⟩,
⟨rfl,rfl⟩,
⟨rfl,rfl⟩,
⟨rfl,rfl⟩,rfl,trivial,
⟨rfl,rfl⟩,rfl,trivial⟩,
⟨rl,rr⟩,
⟨rfl,rfl,
⟨rfl,rfl⟩,trivial⟩,
⟨rl,rr⟩,trivial⟩,
fun h20=>⟨⟨(by(try dsimp only at *);omega),
(by(try dsimp only at *);omega)⟩,
(x14+(1:Nat)),
(by(try dsimp only at *);omega),
(by(try dsimp only at *);omega),
⟨(by(try dsimp only at *);(have e:=cnt_same (q:=x1.q) (now:=x1.now) ‹_› ‹befF _ _ _ _=false›;omega)),
(by(try dsimp only at *);omega),rfl,rfl,
⟨rfl,rfl⟩,
⟨rfl,rfl⟩,
⟨rfl,rfl⟩,
⟨rfl,rfl⟩,rfl,rfl,
⟨rfl,rfl⟩,rfl,rfl,
⟨rfl,rfl⟩,
⟨rfl,rfl⟩,
⟨rfl,rfl⟩,
⟨rfl,rfl⟩,rfl,trivial,
⟨rfl,rfl⟩,rfl,trivial⟩,
⟨rl,rr⟩,
⟨rfl,rfl,
⟨rfl,rfl⟩,trivial⟩,
⟨rl,rr⟩,trivial⟩⟩,
fun g22=>have h22:=dF g22;⟨fun g23=>have h23:=dT g23;⟨⟨(by(try dsimp only at *);omega),
(by(try dsimp only at *);omega)⟩,
(by(try dsimp only at *);omega),
⟨⟨trivial,trivial⟩,trivial⟩,
⟨rfl,
(by(try dsimp only at *);omega),
(by(try dsimp only at *);omega),
(by(try dsimp only at *);omega)⟩,
(x4+(1:Nat)),
(by(try dsimp only at *);omega),
(by(try dsimp only at *);omega),
⟨⟨rfl,rfl⟩,trivial,
⟨rfl,rfl⟩,rfl,trivial⟩,
⟨rl,
(by(try dsimp only at *);exact ord_push h2 h12 h6 h15 h22 h23)⟩,
⟨rfl,rfl,
⟨rfl,rfl⟩,trivial⟩,
⟨rl,rr⟩,trivial⟩,
fun g25=>have h25:=dF g25;⟨⟨(by(try dsimp only at *);omega),
(by(try dsimp only at *);omega)⟩,
(x10+(1:Nat)),
(by(try dsimp only at *);omega),
⟨(by(try dsimp only at *);omega),
fun m27=>fun h28=>(by(try dsimp only at *);exact ord_next h11 h15 h22 h25 ‹_›)⟩,
⟨(by(try dsimp only at *);omega),
⟨rfl,rfl⟩,rfl,rfl,
⟨rfl,rfl⟩,
⟨rfl,rfl⟩,
⟨rfl,rfl⟩,
⟨rfl,rfl⟩,rfl,trivial,
⟨rfl,rfl⟩,rfl,trivial⟩,
⟨rl,rr⟩,
⟨rfl,rfl,
⟨rfl,rfl⟩,trivial⟩,
⟨rl,rr⟩,trivial⟩⟩⟩⟩,
fun g29=>have h29:=dF g29;⟨(x4),
(by(try dsimp only at *);(exfalso;obtain⟨i,hi,e⟩:=cnt_some h2.1.n (now:=x1.now) (j:=x4) (by omega);exact h11.2 i (by omega) e)),
(by(try dsimp only at *);omega),
⟨⟨rfl,rfl⟩,trivial,
⟨rfl,rfl⟩,rfl,trivial⟩,
⟨rl,rr⟩,
⟨rfl,rfl,
⟨rfl,rfl⟩,trivial⟩,
⟨rl,rr⟩,trivial⟩⟩⟩,
fun g31=>have h31:=dF g31;⟨⟨rfl,
(by(try dsimp only at *);omega)⟩,
⟨⟨(by(try dsimp only at *);omega)⟩,
(by(try dsimp only at *);(have e:x4=x1.q.l.length:=(by omega);rw[e,List.take_of_length_le (by rw[orderF_len];exact Nat.le_refl _)];exact rr))⟩,trivial⟩⟩⟩)
def ovL (x:NwX):List Int:=if(x.q.l.length:Int)<=x.q.most then []else orderF x.q x.now
def ovLo (x:NwX):Nat:=if(x.q.l.length:Int)<=x.q.most then 0 else x.q.most.toNat
def rvC:CT where
 X:=NwX
 pre:=fun x=>QOk x.q/\x.q.l.length<=30
 args:=fun x=>[.p 100000 0 0,.i .i64 x.now]
 g0:=fun x=>rmH 100000 .bor .bor x.q
 res:=fun x=>.sl 1 (ovLo x) ((ovL x).length-ovLo x)
 g1:=fun x=>[(1,.rows .own k1 (ovL x).length (encL encI (ovL x)))]
theorem ov_yes {x:NwX} (h:x.q.most ≥ x.q.l.length):ovL x=[]/\ovLo x=0:=⟨if_pos (by omega),if_pos (by omega)⟩
theorem ov_no {x:NwX} (h:¬ x.q.most ≥ x.q.l.length):ovL x=orderF x.q x.now/\ovLo x=x.q.most.toNat:=⟨if_neg (by omega),if_neg (by omega)⟩
def cfgRv:Cfg:=⟨T,[],[(17,.one roC)],noInv,60,{}⟩
set_option maxRecDepth 100000 in
theorem wv_keeps:Keeps cfgRv Try.f19 rvC noIv:=Eq.mp (show((∀ x1:NwX,((QOk x1.q/\x1.q.l.length<=(30:Nat))->(∃ x3:NwX,(((QOk x3.q)/\(x3.q.l.length<=(30:Nat)))/\(((0=0/\0=0)/\(x1.now=x3.now/\True))/\(((x1.q.most=x3.q.most/\(x1.q.ages=x3.q.ages/\((0=0/\x1.q.l.length=x3.q.l.length)/\True)))/\(((RLe x3.q.l.length x1.q.l.length)/\(RowsEq [.int .i64,.int .i64,.int .i64] x3.q.l.length (encL encC x1.q.l) (encL encC x3.q.l)))/\True))/\(((decide ((x3.q.l.length:Int)<=x1.q.most)=true)->((True/\((ovLo x1=(0:Nat))/\((ovL x1).length-ovLo x1=(0:Nat))))/\(((ovL x1).length=(0:Nat))/\True)))/\((decide ((x3.q.l.length:Int)<=x1.q.most)=false)->((((0:Int)<=x1.q.most)/\((x1.q.most<=(x3.q.l.length:Int))/\((x3.q.l.length:Int)<=(x3.q.l.length:Int))))/\(((0+Int.toNat x1.q.most=ovLo x1)/\(Int.toNat (x3.q.l.length:Int)-Int.toNat x1.q.most=(ovL x1).length-ovLo x1))/\(((RLe (ovL x1).length x3.q.l.length)/\(RowsEq [.int .i64] (ovL x1).length (encL encI (orderF x3.q x3.now)) (encL encI (ovL x1))))/\True))))))))))))=(Keeps cfgRv Try.f19 rvC noIv) by kernel_rfl) (fun x1=>fun h2=>⟨(x1),
⟨(by(try dsimp only at *);grind),
(by(try dsimp only at *);omega)⟩,
⟨⟨rfl,rfl⟩,rfl,trivial⟩,
⟨⟨rfl,rfl,
⟨rfl,rfl⟩,trivial⟩,
⟨rl,rr⟩,trivial⟩,
fun g4=>have h4:=dT g4;⟨⟨trivial,
(by(try dsimp only at *);exact(ov_yes (x:=x1) (by omega)).2),
(by(try dsimp only at *);(have e:=ov_yes (x:=x1) (by omega);first|exact e.2.symm|(rw[e.1,e.2];rfl)|(rw[e.1];rfl)|(simp only[e.1];exact rowsEq0)))⟩,
(by(try dsimp only at *);(have e:=ov_yes (x:=x1) (by omega);first|exact e.2.symm|(rw[e.1,e.2];rfl)|(rw[e.1];rfl)|(simp only[e.1];exact rowsEq0))),trivial⟩,
fun g5=>have h5:=dF g5;⟨⟨(by(try dsimp only at *);exact h2.1.m),
(by(try dsimp only at *);omega),
(by(try dsimp only at *);omega)⟩,
⟨(by(try dsimp only at *);(have e:=ov_no (x:=x1) (by omega);have e2:=orderF_len x1.q x1.now;have e3:=h2.1.m;first|exact e.2.symm|(simp only[e.1,e.2,e2];omega)|(simp only[e.1,e2];exact rr))),
(by(try dsimp only at *);(have e:=ov_no (x:=x1) (by omega);have e2:=orderF_len x1.q x1.now;have e3:=h2.1.m;first|exact e.2.symm|(simp only[e.1,e.2,e2];omega)|(simp only[e.1,e2];exact rr)))⟩,
⟨⟨(by(try dsimp only at *);(have e:=ov_no (x:=x1) (by omega);have e2:=orderF_len x1.q x1.now;have e3:=h2.1.m;first|exact e.2.symm|(simp only[e.1,e.2,e2];omega)|(simp only[e.1,e2];exact rr)))⟩,
(by(try dsimp only at *);(have e:=ov_no (x:=x1) (by omega);have e2:=orderF_len x1.q x1.now;have e3:=h2.1.m;first|exact e.2.symm|(simp only[e.1,e.2,e2];omega)|(simp only[e.1,e2];exact rr)))⟩,trivial⟩⟩)
end Go.Sym