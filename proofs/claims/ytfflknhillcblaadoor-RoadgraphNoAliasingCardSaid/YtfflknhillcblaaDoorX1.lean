import Derived.Test.YtfflknhillcblaaDoorX0
import Derived.Test.YtfflknhillcblaaDoorI2
import Derived.Test.YtfflknhillcblaaDoorWL
import Derived.Test.YtfflknhillcblaaDoorXD
namespace Go.Sym
set_option linter.unusedVariables false
set_option linter.unusedSimpArgs false
open Go.Proofs
set_option maxRecDepth 100000
set_option maxHeartbeats 4000000
def kB:List Kd:=[.bool]
def encBo (b:Bool):Nat->D:=encN [.b b]
theorem rows_setB {xs:List Bool} {r n:Nat} {v:Bool} (hr:r<xs.length):RowsEq kB n (setRow (encL encBo xs) r 0 [.b v]) (encL encBo (xs.set r v)):=
 rowsEq_set hr ⟨rfl,trivial⟩
theorem rows_setI {xs:List Int} {r n:Nat} {v:Int} (hr:r<xs.length):RowsEq k1 n (setRow (encL encI xs) r 0 [.i v]) (encL encI (xs.set r v)):=
 rowsEq_set hr ⟨rfl,trivial⟩
theorem rows_zeroB {n:Nat} {ks:List Kd} (hk:ks=kB):RowsEq kB n (fun _ j=>zRow ks j) (encL encBo (List.replicate n false)):=by
 subst hk
 exact rowsEq_zero (α:=Bool) (e:=encBo) (by simp only[rowEq,Kd.eqv,kB];exact⟨rfl,trivial⟩)
theorem push_rowsI {l:List Int} {c:Int}:RowsEq k1 (l++[c]).length (appRows l.length (encL encI l) 0 (litRows [[.i c]])) (encL encI (l++[c])):=rowsEq_push rfl (by simp) ⟨rfl,trivial⟩
theorem rowsE {α:Type} [Inhabited α] {ks:List Kd} {n:Nat} {e:α->Nat->D} {a b:List α} (h:a=b):RowsEq ks n (encL e a) (encL e b):=h▸RowsEq.rfl'
theorem two_loop {P:Program} [Glob] {fn:Func} {p1 p2:Nat} {lc1 lc2:LC} {q1 q2:Operand × Array Tmp × Code × Code} (h0:rfsF fn=[q1,q2]) (e1:lget [(p1,lc1),(p2,lc2)] (ps0 q1.2.1)=some lc1) (e2:lget [(p1,lc1),(p2,lc2)] (ps0 q2.2.1)=some lc2)
  (g1:LoopGood P fn.ntmps q1 lc1) (g2:LoopGood P fn.ntmps q2 lc2):∀ q∈rfsF fn,∀ lc',lget [(p1,lc1),(p2,lc2)] (ps0 q.2.1)=some lc'->LoopGood P fn.ntmps q lc':=by
 intro q' hq lc' hl
 rw[h0]at hq
 rcases List.mem_cons.1 hq with rfl|hq
 ·rw[e1]at hl;cases hl;exact g1
 ·obtain rfl:=List.mem_singleton.1 hq
  rw[e2]at hl;cases hl;exact g2
structure RLx where
 g:Gr
 ws:List Nat
def rsA (x:RLx) (k:Nat):List Bool × List Int:=startR x.g.n (elemsZ x.ws) k
structure RLok (x:RLx):Prop where
 g:GOk x.g
 w:WOk x.ws
theorem RLok.ri {x:RLx} (h:RLok x) (k:Nat):RIs x.g.n (rsA x k):=by
 refine startR_RI ?_ ?_ k
 ·exact(elemsW_sorted x.ws).map _ (fun a b hab e=>by omega)
 ·intro z hz
  unfold elemsZ at hz
  obtain⟨v,_,rfl⟩:=List.mem_map.1 hz
  omega
def rchS:LS where
 it:=eachIt
 g:=54
 X:=RLx
 pre:=RLok
 slots:=[2,5,6]
 vals:=fun _=>[.p 100000 0 0,.p 100001 0 0,.p 100002 0 0]
 caps:=fun _=>[.p 100003 0 0]
 g0:=fun x=>[(100000,.one .bor [.p 100010 0 0]),(100010,.rows .bor kG 1 (encG x.g)),(100001,.one .bor [.sl 100011 0 x.g.n]),(100011,.rows .own kB x.g.n (encL encBo (List.replicate x.g.n false))),(100002,.one .own [.ns]),
  (100003,.one .bor [.q 100004 (szW x.ws)]),(100004,.rows .bor kW (szW x.ws) (encL encW x.ws))]
 g1:=fun x=>[(100011,.rows .own kB x.g.n (encL encBo (rsA x (elemsW x.ws).length).1)),(100002,.one .own [.sl 1 0 (rsA x (elemsW x.ws).length).2.length]),(1,.rows .own k1 (rsA x (elemsW x.ws).length).2.length (encL encI (rsA x (elemsW x.ws).length).2))]
 hp:=fun x k=>[(100000,.one .bor [.p 100010 0 0]),(100010,.rows .bor kG 1 (encG x.g)),(100001,.one .bor [.sl 100011 0 x.g.n]),(100011,.rows .own kB x.g.n (encL encBo (rsA x k).1)),(100002,.one .own [.sl 8 0 (rsA x k).2.length]),(8,.rows .own k1 (rsA x k).2.length (encL encI (rsA x k).2)),
  (100003,.one .bor [.q 100004 (szW x.ws)]),(100004,.rows .bor kW (szW x.ws) (encL encW x.ws))]
 y:=fun x=>x.ws
 m:=fun x=>(elemsW x.ws).length
def cfgX1:Cfg:=⟨T,[],[(32,.one nodesC)],noInv,30,{ scp:=false }⟩
theorem conX1:ConOk Tryd.prog cfgX1:=ConL.ok (.cons (ConL.one nodes_good) .nil)
theorem rs_at {x:RLx} (h:RLok x) {k:Nat} (hk:k<(elemsW x.ws).length):atW x.ws k=(elemsZ x.ws).getD k default/\0<=(elemsZ x.ws).getD k default/\
  rsA x (k+1)=if(elemsZ x.ws).getD k default<(x.g.n:Int)then((rsA x k).1.set ((elemsZ x.ws).getD k default).toNat true,(rsA x k).2++[(elemsZ x.ws).getD k default])else rsA x k:=by
 refine⟨atW_eq hk,?_,startR_succ (by rw[elemsZ_len];exact hk)⟩
 unfold elemsZ
 rw[List.getD_eq_getElem?_getD,List.getElem?_map,List.getElem?_eq_getElem hk]
 show 0<=(((elemsW x.ws)[k]:Nat):Int)
 omega
theorem rs_yes {x:RLx} (h:RLok x) {k:Nat} (hk:k<(elemsW x.ws).length) (h8:atW x.ws k<(x.g.n:Int)):rsA x (k+1)=((rsA x k).1.set (0+(atW x.ws k).toNat) true,(rsA x k).2++[atW x.ws k]):=by
 obtain⟨a,b,c⟩:=rs_at h hk
 rw[a]at h8 ⊢
 rw[c,if_pos h8,Nat.zero_add]
theorem rs_no {x:RLx} (h:RLok x) {k:Nat} (hk:k<(elemsW x.ws).length) (h8:¬ atW x.ws k<(x.g.n:Int)):rsA x (k+1)=rsA x k:=by
 obtain⟨a,b,c⟩:=rs_at h hk
 rw[a]at h8
 rw[c,if_neg h8]
set_option maxRecDepth 100000 in
theorem rch_loop:KeepsLoop cfgX1 (rf0 Tryd.f19 0).2.1.toList (rf0 Tryd.f19 0).2.2.1 (rf0 Tryd.f19 0).2.2.2 rchS:=Eq.mp (show((∀ x1:RLx,((RLok x1)->((WOk x1.ws)/\(((elemsW x1.ws).length<=(elemsW x1.ws).length)/\((True/\(((0=0/\0=0)/\((0=0/\0=0)/\((0=0/\0=0)/\True)))/\(((0=0/\0=0)/\True)/\((RLe 1 1/\(RowsEq [.sl [.int .i64,.int .i64,.int .i64],.sl [.sl [.int .i64]],.sl [.sl [.int .i64]]] 1 (encG x1.g) (encG x1.g)))/\(((0=0/\x1.g.n=x1.g.n)/\True)/\(((RLe x1.g.n x1.g.n)/\(RowsEq (Kd.bool::[]) x1.g.n (encL encBo (List.replicate x1.g.n false)) (encL encBo (Prod.fst (rsA x1 0)))))/\(((True/\(0=0/\((Prod.snd (rsA x1 0)).length=(0:Nat))))/\True)/\(((Prod.snd (rsA x1 0)).length=(0:Nat))/\(((szW x1.ws=szW x1.ws)/\True)/\(((RLe (szW x1.ws) (szW x1.ws))/\(RowsEq [.int .u64] (szW x1.ws) (encL encW x1.ws) (encL encW x1.ws)))/\True))))))))))/\((∀ k3:Nat,((k3<=(elemsW x1.ws).length)->((WOk x1.ws)/\(((0=0/\0=0)/\True)/\((((szW x1.ws=szW x1.ws)/\True)/\(((RLe (szW x1.ws) (szW x1.ws))/\(RowsEq [.int .u64] (szW x1.ws) (encL encW x1.ws) (encL encW x1.ws)))/\True))/\True)))))/\((∀ k5:Nat,((k5<(elemsW x1.ws).length)->((Nat.beq (lenV (Value.int .i64 (atW x1.ws k5)::@List.nil Value)) (lenN (Array.toList (Prod.fst (Prod.snd (rf0 Tryd.f19 0)))))=true)/\(∃ x7:Gr,(True/\(((0=0/\0=0)/\True)/\(((RLe 1 1/\(RowsEq [.sl [.int .i64,.int .i64,.int .i64],.sl [.sl [.int .i64]],.sl [.sl [.int .i64]]] 1 (encG x1.g) (encG x7)))/\True)/\(((decide (atW x1.ws k5<(x7.n:Int))=true)->((((0:Int)<=atW x1.ws k5)/\(atW x1.ws k5<(x1.g.n:Int)))/\(((0+Int.toNat (atW x1.ws k5)<x1.g.n)/\(True/\True))/\(((True/\True)/\True)/\((0=0/\(((Prod.snd (rsA x1 k5)).length<=(Prod.snd (rsA x1 k5)).length)/\(((1:Nat)<=(1:Nat))/\((Prod.snd (rsA x1 k5)).length+(1:Nat)<=(1073741824:Nat)))))/\(True/\(((0=0/\0=0)/\((0=0/\0=0)/\((0=0/\0=0)/\True)))/\(((0=0/\0=0)/\True)/\((RLe 1 1/\(RowsEq [.sl [.int .i64,.int .i64,.int .i64],.sl [.sl [.int .i64]],.sl [.sl [.int .i64]]] 1 (encG x1.g) (encG x1.g)))/\(((0=0/\x1.g.n=x1.g.n)/\True)/\(((RLe x1.g.n x1.g.n)/\(RowsEq (Kd.bool::[]) x1.g.n (setRow (encL encBo (Prod.fst (rsA x1 k5))) (0+Int.toNat (atW x1.ws k5)) 0 (D.b true::@List.nil D)) (encL encBo (Prod.fst (rsA x1 (k5+(1:Nat)))))))/\(((0=0/\((Prod.snd (rsA x1 k5)).length+(1:Nat)=(Prod.snd (rsA x1 (k5+(1:Nat)))).length))/\True)/\(((RLe (Prod.snd (rsA x1 (k5+(1:Nat)))).length ((Prod.snd (rsA x1 k5)).length+(1:Nat)))/\(RowsEq [.int .i64] (Prod.snd (rsA x1 (k5+(1:Nat)))).length (appRows (Prod.snd (rsA x1 k5)).length (encL encI (Prod.snd (rsA x1 k5))) 0 (litRows ((D.i (atW x1.ws k5)::@List.nil D)::@List.nil (List D)))) (encL encI (Prod.snd (rsA x1 (k5+(1:Nat)))))))/\(((szW x1.ws=szW x1.ws)/\True)/\(((RLe (szW x1.ws) (szW x1.ws))/\(RowsEq [.int .u64] (szW x1.ws) (encL encW x1.ws) (encL encW x1.ws)))/\True)))))))))))))))/\((decide (atW x1.ws k5<(x7.n:Int))=false)->(True/\(((0=0/\0=0)/\((0=0/\0=0)/\((0=0/\0=0)/\True)))/\(((0=0/\0=0)/\True)/\((RLe 1 1/\(RowsEq [.sl [.int .i64,.int .i64,.int .i64],.sl [.sl [.int .i64]],.sl [.sl [.int .i64]]] 1 (encG x1.g) (encG x1.g)))/\(((0=0/\x1.g.n=x1.g.n)/\True)/\(((RLe x1.g.n x1.g.n)/\(RowsEq (Kd.bool::[]) x1.g.n (encL encBo (Prod.fst (rsA x1 k5))) (encL encBo (Prod.fst (rsA x1 (k5+(1:Nat)))))))/\(((0=0/\((Prod.snd (rsA x1 k5)).length=(Prod.snd (rsA x1 (k5+(1:Nat)))).length))/\True)/\(((RLe (Prod.snd (rsA x1 (k5+(1:Nat)))).length (Prod.snd (rsA x1 k5)).length)/\(RowsEq [.int .i64] (Prod.snd (rsA x1 (k5+(1:Nat)))).length (encL encI (Prod.snd (rsA x1 k5))) (encL encI (Prod.snd (rsA x1 (k5+(1:Nat)))))))/\(((szW x1.ws=szW x1.ws)/\True)/\(((RLe (szW x1.ws) (szW x1.ws))/\(RowsEq [.int .u64] (szW x1.ws) (encL encW x1.ws) (encL encW x1.ws)))/\True)))))))))))))))))))/\(((elemsW x1.ws).length=(elemsW x1.ws).length)/\(True/\(((RLe x1.g.n x1.g.n)/\(RowsEq (Kd.bool::[]) x1.g.n (encL encBo (Prod.fst (rsA x1 (elemsW x1.ws).length))) (encL encBo (Prod.fst (rsA x1 (elemsW x1.ws).length)))))/\(((0=0/\((Prod.snd (rsA x1 (elemsW x1.ws).length)).length=(Prod.snd (rsA x1 (elemsW x1.ws).length)).length))/\True)/\(((RLe (Prod.snd (rsA x1 (elemsW x1.ws).length)).length (Prod.snd (rsA x1 (elemsW x1.ws).length)).length)/\(RowsEq [.int .i64] (Prod.snd (rsA x1 (elemsW x1.ws).length)).length (encL encI (Prod.snd (rsA x1 (elemsW x1.ws).length))) (encL encI (Prod.snd (rsA x1 (elemsW x1.ws).length)))))/\True)))))))))))))=(KeepsLoop cfgX1 (rf0 Tryd.f19 0).2.1.toList (rf0 Tryd.f19 0).2.2.1 (rf0 Tryd.f19 0).2.2.2 rchS) by kernel_rfl) (fun x1=>fun h2=>⟨(by exact h2.w),
(by omega),
⟨trivial,
⟨⟨rfl,rfl⟩,
⟨rfl,rfl⟩,
⟨rfl,rfl⟩,trivial⟩,
⟨⟨rfl,rfl⟩,trivial⟩,
⟨rl,rr⟩,
⟨⟨rfl,rfl⟩,trivial⟩,
⟨rl,
(by exact rr)⟩,
⟨⟨trivial,rfl,
(by rfl)⟩,trivial⟩,
(by rfl),
⟨rfl,trivial⟩,
⟨rl,rr⟩,trivial⟩,
fun k3=>fun h4=>⟨(by exact h2.w),
⟨⟨rfl,rfl⟩,trivial⟩,
⟨⟨rfl,trivial⟩,
⟨rl,rr⟩,trivial⟩,trivial⟩,
fun k5=>fun h6=>⟨(by rfl),
(RLx.g x1),trivial,
⟨⟨rfl,rfl⟩,trivial⟩,
⟨⟨rl,rr⟩,trivial⟩,
fun g8=>have h8:=dT g8;⟨⟨(by(try dsimp only at *);(have:=(rs_at h2 h6).1;have:=(rs_at h2 h6).2.1;omega)),
(by(try dsimp only at *);omega)⟩,
⟨(by(try dsimp only at *);(have:=(rs_at h2 h6).1;have:=(rs_at h2 h6).2.1;omega)),trivial,trivial⟩,
⟨⟨trivial,trivial⟩,trivial⟩,
⟨rfl,
(by(try dsimp only at *);omega),
(by(try dsimp only at *);omega),
(by(try dsimp only at *);(have:=(h2.ri k5).le;have:=h2.g.n;omega))⟩,trivial,
⟨⟨rfl,rfl⟩,
⟨rfl,rfl⟩,
⟨rfl,rfl⟩,trivial⟩,
⟨⟨rfl,rfl⟩,trivial⟩,
⟨rl,rr⟩,
⟨⟨rfl,rfl⟩,trivial⟩,
⟨rl,
(by(try dsimp only at *);(rw[rs_yes h2 h6 h8];exact rows_setB (by have:=(h2.ri k5).len;have:=(rs_at h2 h6).1;have:=(rs_at h2 h6).2.1;omega)))⟩,
⟨⟨rfl,
(by(try dsimp only at *);((have e:=(rs_yes h2 h6 h8);first|(rw[e];done)|(rw[e];exact Nat.le_refl _)|(rw[e];exact rr)|(rw[e];exact push_rowsI)|(rw[e,List.length_append];rfl)|(rw[e,List.length_append];exact Nat.le_refl _)|(rw[e];dsimp only;rw[List.length_append];rfl)|(rw[e];dsimp only;rw[List.length_append];exact Nat.le_refl _))))⟩,trivial⟩,
⟨⟨(by(try dsimp only at *);((have e:=(rs_yes h2 h6 h8);first|(rw[e];done)|(rw[e];exact Nat.le_refl _)|(rw[e];exact rr)|(rw[e];exact push_rowsI)|(rw[e,List.length_append];rfl)|(rw[e,List.length_append];exact Nat.le_refl _)|(rw[e];dsimp only;rw[List.length_append];rfl)|(rw[e];dsimp only;rw[List.length_append];exact Nat.le_refl _))))⟩,
(by(try dsimp only at *);((have e:=(rs_yes h2 h6 h8);first|(rw[e];done)|(rw[e];exact Nat.le_refl _)|(rw[e];exact rr)|(rw[e];exact push_rowsI)|(rw[e,List.length_append];rfl)|(rw[e,List.length_append];exact Nat.le_refl _)|(rw[e];dsimp only;rw[List.length_append];rfl)|(rw[e];dsimp only;rw[List.length_append];exact Nat.le_refl _))))⟩,
⟨rfl,trivial⟩,
⟨rl,rr⟩,trivial⟩,
fun g9=>have h9:=dF g9;⟨trivial,
⟨⟨rfl,rfl⟩,
⟨rfl,rfl⟩,
⟨rfl,rfl⟩,trivial⟩,
⟨⟨rfl,rfl⟩,trivial⟩,
⟨rl,rr⟩,
⟨⟨rfl,rfl⟩,trivial⟩,
⟨rl,
(by(try dsimp only at *);((have e:=(rs_no h2 h6 h9);first|(rw[e];done)|(rw[e];exact Nat.le_refl _)|(rw[e];exact rr)|(rw[e];exact push_rowsI)|(rw[e,List.length_append];rfl)|(rw[e,List.length_append];exact Nat.le_refl _)|(rw[e];dsimp only;rw[List.length_append];rfl)|(rw[e];dsimp only;rw[List.length_append];exact Nat.le_refl _))))⟩,
⟨⟨rfl,
(by(try dsimp only at *);((have e:=(rs_no h2 h6 h9);first|(rw[e];done)|(rw[e];exact Nat.le_refl _)|(rw[e];exact rr)|(rw[e];exact push_rowsI)|(rw[e,List.length_append];rfl)|(rw[e,List.length_append];exact Nat.le_refl _)|(rw[e];dsimp only;rw[List.length_append];rfl)|(rw[e];dsimp only;rw[List.length_append];exact Nat.le_refl _))))⟩,trivial⟩,
⟨⟨(by(try dsimp only at *);((have e:=(rs_no h2 h6 h9);first|(rw[e];done)|(rw[e];exact Nat.le_refl _)|(rw[e];exact rr)|(rw[e];exact push_rowsI)|(rw[e,List.length_append];rfl)|(rw[e,List.length_append];exact Nat.le_refl _)|(rw[e];dsimp only;rw[List.length_append];rfl)|(rw[e];dsimp only;rw[List.length_append];exact Nat.le_refl _))))⟩,
(by(try dsimp only at *);((have e:=(rs_no h2 h6 h9);first|(rw[e];done)|(rw[e];exact Nat.le_refl _)|(rw[e];exact rr)|(rw[e];exact push_rowsI)|(rw[e,List.length_append];rfl)|(rw[e,List.length_append];exact Nat.le_refl _)|(rw[e];dsimp only;rw[List.length_append];rfl)|(rw[e];dsimp only;rw[List.length_append];exact Nat.le_refl _))))⟩,
⟨rfl,trivial⟩,
⟨rl,rr⟩,trivial⟩⟩,rfl,trivial,
⟨rl,rr⟩,
⟨⟨rfl,rfl⟩,trivial⟩,
⟨rl,rr⟩,trivial⟩)
theorem rchLoop_good:LoopGood Tryd.prog Tryd.f19.ntmps (rf0 Tryd.f19 0) rchS.lc:=loop_good tok conX1 ⟨rfl,rfl,rfl⟩ each_good (by decide+kernel) rch_loop
structure RNx where
 g:Gr
 s:List Bool × List Int
 u:Nat
structure RNok (x:RNx):Prop where
 g:GOk x.g
 s:RIs x.g.n x.s
 u:x.u<x.g.n
def rwA (x:RNx) (k:Nat):List Bool × List Int:=rowR x.g x.s x.u k
def RNx.m (x:RNx):Nat:=(adjN x.g true x.u).length
def eA (x:RNx) (k:Nat):Nat:=(adjN x.g true x.u).getD k 0
def encRw (x:RNx) (k:Nat):Bool:=decide ((x.g.es.getD (eA x k) default).d≠4611686018427387904/\(rwA x k).1.getD (x.g.es.getD (eA x k) default).t.toNat default=false)
def rowS:LS where
 it:=enumIt
 g:=53
 X:=RNx
 pre:=RNok
 slots:=[2,5,6]
 vals:=fun _=>[.p 100000 0 0,.p 100001 0 0,.p 100002 0 0]
 caps:=fun _=>[.p 100006 0 0,.p 100007 0 0]
 g0:=fun x=>[(100000,.one .bor [.p 100010 0 0]),(100010,.rows .bor kG 1 (encG x.g)),(100001,.one .bor [.sl 100011 0 x.g.n]),(100011,.rows .own kB x.g.n (encL encBo x.s.1)),(100002,.one .own [.sl 100012 0 x.s.2.length]),(100012,.rows .own k1 x.s.2.length (encL encI x.s.2)),
  (100006,.one .bor [.i .i64 (x.u:Nat)]),(100007,.one .bor [.sl 100017 0 x.g.n]),(100017,.rows .bor kLL x.g.n (encLL (adjG x.g true)))]
 g1:=fun x=>[(100011,.rows .own kB x.g.n (encL encBo (rwA x x.m).1)),(100002,.one .own [.sl 1 0 (rwA x x.m).2.length]),(100012,.dead),(1,.rows .own k1 (rwA x x.m).2.length (encL encI (rwA x x.m).2))]
 hp:=fun x k=>[(100000,.one .bor [.p 100010 0 0]),(100010,.rows .bor kG 1 (encG x.g)),(100001,.one .bor [.sl 100011 0 x.g.n]),(100011,.rows .own kB x.g.n (encL encBo (rwA x k).1)),(100002,.one .own [.sl 8 0 (rwA x k).2.length]),(8,.rows .own k1 (rwA x k).2.length (encL encI (rwA x k).2)),(100012,.dead),
  (100006,.one .bor [.i .i64 (x.u:Nat)]),(100007,.one .bor [.sl 100017 0 x.g.n]),(100017,.rows .bor kLL x.g.n (encLL (adjG x.g true)))]
 y:=fun x=>⟨x.g.n,adjG x.g true,(x.u:Nat)⟩
 m:=RNx.m
 inn:=fun x k id=>match id with
  |100058=>some (cutB 58 (encRw x k))
  |_=>none
def cfgX2:Cfg:=⟨T,[],[],noInv,30,{ scp:=false }⟩
structure RNf (x:RNx) (k i:Nat):Prop where
 ia:eA x k=i
 e:(enumL ⟨x.g.n,adjG x.g true,(x.u:Nat)⟩).getD k default=(i:Int)
 lt:i<x.g.es.length
 ok:edOk x.g.n (x.g.es.getD i default)
 st:rwA x (k+1)=stepR x.g (rwA x k) i
 ri:RIs x.g.n (rwA x k)
theorem rn_enum {x:RNx} (h:RNok x):enumL ⟨x.g.n,adjG x.g true,(x.u:Nat)⟩=adjG x.g true x.u:=by
 unfold enumL
 have:=h.u
 rw[if_pos (by dsimp only;omega)]
 rfl
theorem rn_f {x:RNx} (h:RNok x) {k:Nat} (hk:k<x.m):∃ i,RNf x k i:=by
 have hk':k<(adjN x.g true x.u).length:=hk
 have hi:=adjN_mem.1 (List.getElem_mem hk')
 refine⟨(adjN x.g true x.u)[k],by unfold eA;simp[List.getD_eq_getElem?_getD,hk'],?_,hi.1,h.g.e _ hi.1,?_,h.s.row h.g _ _⟩
 ·rw[rn_enum h,adjG_eq]
  simp[List.getD_eq_getElem?_getD,hk']
 ·unfold rwA rowR
  rw[List.take_succ_eq_append_getElem hk',List.foldl_append]
  rfl
theorem rn_yes {x:RNx} {k i:Nat} (F:RNf x k i) (h:(x.g.es.getD (eA x k) default).d≠4611686018427387904/\(rwA x k).1.getD (x.g.es.getD (eA x k) default).t.toNat default=false):
  rwA x (k+1)=((rwA x k).1.set (0+(x.g.es.getD i default).t.toNat) true,(rwA x k).2++[(x.g.es.getD i default).t]):=by
 rw[F.ia]at h
 rw[F.st,Nat.zero_add];unfold stepR opn toN
 rw[if_pos ⟨decide_eq_true h.1,h.2⟩]
theorem rn_no {x:RNx} {k i:Nat} (F:RNf x k i) (h:¬ ((x.g.es.getD (eA x k) default).d≠4611686018427387904/\(rwA x k).1.getD (x.g.es.getD (eA x k) default).t.toNat default=false)):rwA x (k+1)=rwA x k:=by
 rw[F.ia]at h
 rw[F.st];unfold stepR opn toN
 rw[if_neg (fun q=>h ⟨of_decide_eq_true q.1,q.2⟩)]
theorem adj_smallR {x:RNx} (h:RNok x) (s:Bool) (j:Nat):(adjG x.g s j).length<=1073741824:=by
 have:=adj_len x.g.es x.g.es.length s j
 have:=h.g.m
 show(adj x.g.es x.g.es.length s j).length<=_
 omega
set_option maxRecDepth 100000 in
theorem row_loop:KeepsLoop cfgX2 (rf0 Tryd.f19 1).2.1.toList (rf0 Tryd.f19 1).2.2.1 (rf0 Tryd.f19 1).2.2.2 rowS:=Eq.mp (show((∀ x1:RNx,((RNok x1)->((((LLx.mk x1.g.n (adjG x1.g true) (x1.u:Int)).n<=(1073741824:Nat))/\(∀ j3:Nat,((j3<(LLx.mk x1.g.n (adjG x1.g true) (x1.u:Int)).n)->(((LLx.mk x1.g.n (adjG x1.g true) (x1.u:Int)).f j3).length<=(1073741824:Nat)))))/\((RNx.m x1<=(enumL (LLx.mk x1.g.n (adjG x1.g true) (x1.u:Int))).length)/\((True/\(((0=0/\0=0)/\((0=0/\0=0)/\((0=0/\0=0)/\True)))/\(((0=0/\0=0)/\True)/\((RLe 1 1/\(RowsEq [.sl [.int .i64,.int .i64,.int .i64],.sl [.sl [.int .i64]],.sl [.sl [.int .i64]]] 1 (encG x1.g) (encG x1.g)))/\(((0=0/\x1.g.n=x1.g.n)/\True)/\(((RLe x1.g.n x1.g.n)/\(RowsEq (Kd.bool::[]) x1.g.n (encL encBo (Prod.fst x1.s)) (encL encBo (Prod.fst (rwA x1 0)))))/\(((0=0/\((Prod.snd x1.s).length=(Prod.snd (rwA x1 0)).length))/\True)/\(((RLe (Prod.snd (rwA x1 0)).length (Prod.snd x1.s).length)/\(RowsEq [.int .i64] (Prod.snd (rwA x1 0)).length (encL encI (Prod.snd x1.s)) (encL encI (Prod.snd (rwA x1 0)))))/\(True/\((((x1.u:Int)=(x1.u:Int))/\True)/\(((0=0/\x1.g.n=x1.g.n)/\True)/\(((RLe x1.g.n x1.g.n)/\(RowsEq [.sl [.int .i64]] x1.g.n (encLL (adjG x1.g true)) (encLL (adjG x1.g true))))/\True))))))))))))/\((∀ k5:Nat,((k5<=RNx.m x1)->((((LLx.mk x1.g.n (adjG x1.g true) (x1.u:Int)).n<=(1073741824:Nat))/\(∀ j7:Nat,((j7<(LLx.mk x1.g.n (adjG x1.g true) (x1.u:Int)).n)->(((LLx.mk x1.g.n (adjG x1.g true) (x1.u:Int)).f j7).length<=(1073741824:Nat)))))/\(((0=0/\0=0)/\((0=0/\0=0)/\True))/\(((((x1.u:Int)=(LLx.mk x1.g.n (adjG x1.g true) (x1.u:Int)).i)/\True)/\(((0=0/\(x1.g.n=(LLx.mk x1.g.n (adjG x1.g true) (x1.u:Int)).n))/\True)/\(((RLe (LLx.mk x1.g.n (adjG x1.g true) (x1.u:Int)).n x1.g.n)/\(RowsEq [.sl [.int .i64]] (LLx.mk x1.g.n (adjG x1.g true) (x1.u:Int)).n (encLL (adjG x1.g true)) (encLL (LLx.mk x1.g.n (adjG x1.g true) (x1.u:Int)).f)))/\True)))/\True)))))/\((∀ k9:Nat,((k9<RNx.m x1)->((Nat.beq (lenV (Value.int .i64 ((enumL (LLx.mk x1.g.n (adjG x1.g true) (x1.u:Int))).getD k9 default)::@List.nil Value)) (lenN (Array.toList (Prod.fst (Prod.snd (rf0 Tryd.f19 1)))))=true)/\((0<(1:Nat))/\((((0:Int)<=(enumL (LLx.mk x1.g.n (adjG x1.g true) (x1.u:Int))).getD k9 default)/\((enumL (LLx.mk x1.g.n (adjG x1.g true) (x1.u:Int))).getD k9 default<(x1.g.es.length:Int)))/\((0+Int.toNat ((enumL (LLx.mk x1.g.n (adjG x1.g true) (x1.u:Int))).getD k9 default)<x1.g.es.length)/\((((decide ((x1.g.es.getD (0+Int.toNat ((enumL (LLx.mk x1.g.n (adjG x1.g true) (x1.u:Int))).getD k9 default)) default).d≠(4611686018427387904:Int))=true)->((((0:Int)<=(x1.g.es.getD (0+Int.toNat ((enumL (LLx.mk x1.g.n (adjG x1.g true) (x1.u:Int))).getD k9 default)) default).t)/\((x1.g.es.getD (0+Int.toNat ((enumL (LLx.mk x1.g.n (adjG x1.g true) (x1.u:Int))).getD k9 default)) default).t<(x1.g.n:Int)))/\((0+Int.toNat (x1.g.es.getD (0+Int.toNat ((enumL (LLx.mk x1.g.n (adjG x1.g true) (x1.u:Int))).getD k9 default)) default).t<x1.g.n)/\(∃ x12:Unit,(True/\(((!(Prod.fst (rwA x1 k9)).getD (0+Int.toNat (x1.g.es.getD (0+Int.toNat ((enumL (LLx.mk x1.g.n (adjG x1.g true) (x1.u:Int))).getD k9 default)) default).t) default)=decide ((x1.g.es.getD (eA x1 k9) default).d≠(4611686018427387904:Int)/\(Prod.fst (rwA x1 k9)).getD (Int.toNat (x1.g.es.getD (eA x1 k9) default).t) default=false))/\True))))))/\((decide ((x1.g.es.getD (0+Int.toNat ((enumL (LLx.mk x1.g.n (adjG x1.g true) (x1.u:Int))).getD k9 default)) default).d≠(4611686018427387904:Int))=false)->(∃ x14:Unit,(True/\((false=decide ((x1.g.es.getD (eA x1 k9) default).d≠(4611686018427387904:Int)/\(Prod.fst (rwA x1 k9)).getD (Int.toNat (x1.g.es.getD (eA x1 k9) default).t) default=false))/\True)))))/\(∀ x15:Unit,(True->(((decide ((x1.g.es.getD (eA x1 k9) default).d≠(4611686018427387904:Int)/\(Prod.fst (rwA x1 k9)).getD (Int.toNat (x1.g.es.getD (eA x1 k9) default).t) default=false)=true)->((((0:Int)<=(x1.g.es.getD (0+Int.toNat ((enumL (LLx.mk x1.g.n (adjG x1.g true) (x1.u:Int))).getD k9 default)) default).t)/\((x1.g.es.getD (0+Int.toNat ((enumL (LLx.mk x1.g.n (adjG x1.g true) (x1.u:Int))).getD k9 default)) default).t<(x1.g.n:Int)))/\(((0+Int.toNat (x1.g.es.getD (0+Int.toNat ((enumL (LLx.mk x1.g.n (adjG x1.g true) (x1.u:Int))).getD k9 default)) default).t<x1.g.n)/\(True/\True))/\(((True/\True)/\True)/\((0=0/\(((Prod.snd (rwA x1 k9)).length<=(Prod.snd (rwA x1 k9)).length)/\(((1:Nat)<=(1:Nat))/\((Prod.snd (rwA x1 k9)).length+(1:Nat)<=(1073741824:Nat)))))/\(True/\(((0=0/\0=0)/\((0=0/\0=0)/\((0=0/\0=0)/\True)))/\(((0=0/\0=0)/\True)/\((RLe 1 1/\(RowsEq [.sl [.int .i64,.int .i64,.int .i64],.sl [.sl [.int .i64]],.sl [.sl [.int .i64]]] 1 (encG x1.g) (encG x1.g)))/\(((0=0/\x1.g.n=x1.g.n)/\True)/\(((RLe x1.g.n x1.g.n)/\(RowsEq (Kd.bool::[]) x1.g.n (setRow (encL encBo (Prod.fst (rwA x1 k9))) (0+Int.toNat (x1.g.es.getD (0+Int.toNat ((enumL (LLx.mk x1.g.n (adjG x1.g true) (x1.u:Int))).getD k9 default)) default).t) 0 (D.b true::@List.nil D)) (encL encBo (Prod.fst (rwA x1 (k9+(1:Nat)))))))/\(((0=0/\((Prod.snd (rwA x1 k9)).length+(1:Nat)=(Prod.snd (rwA x1 (k9+(1:Nat)))).length))/\True)/\(((RLe (Prod.snd (rwA x1 (k9+(1:Nat)))).length ((Prod.snd (rwA x1 k9)).length+(1:Nat)))/\(RowsEq [.int .i64] (Prod.snd (rwA x1 (k9+(1:Nat)))).length (appRows (Prod.snd (rwA x1 k9)).length (encL encI (Prod.snd (rwA x1 k9))) 0 (litRows ((D.i (x1.g.es.getD (0+Int.toNat ((enumL (LLx.mk x1.g.n (adjG x1.g true) (x1.u:Int))).getD k9 default)) default).t::@List.nil D)::@List.nil (List D)))) (encL encI (Prod.snd (rwA x1 (k9+(1:Nat)))))))/\(True/\((((x1.u:Int)=(x1.u:Int))/\True)/\(((0=0/\x1.g.n=x1.g.n)/\True)/\(((RLe x1.g.n x1.g.n)/\(RowsEq [.sl [.int .i64]] x1.g.n (encLL (adjG x1.g true)) (encLL (adjG x1.g true))))/\True)))))))))))))))))/\((decide ((x1.g.es.getD (eA x1 k9) default).d≠(4611686018427387904:Int)/\(Prod.fst (rwA x1 k9)).getD (Int.toNat (x1.g.es.getD (eA x1 k9) default).t) default=false)=false)->(True/\(((0=0/\0=0)/\((0=0/\0=0)/\((0=0/\0=0)/\True)))/\(((0=0/\0=0)/\True)/\((RLe 1 1/\(RowsEq [.sl [.int .i64,.int .i64,.int .i64],.sl [.sl [.int .i64]],.sl [.sl [.int .i64]]] 1 (encG x1.g) (encG x1.g)))/\(((0=0/\x1.g.n=x1.g.n)/\True)/\(((RLe x1.g.n x1.g.n)/\(RowsEq (Kd.bool::[]) x1.g.n (encL encBo (Prod.fst (rwA x1 k9))) (encL encBo (Prod.fst (rwA x1 (k9+(1:Nat)))))))/\(((0=0/\((Prod.snd (rwA x1 k9)).length=(Prod.snd (rwA x1 (k9+(1:Nat)))).length))/\True)/\(((RLe (Prod.snd (rwA x1 (k9+(1:Nat)))).length (Prod.snd (rwA x1 k9)).length)/\(RowsEq [.int .i64] (Prod.snd (rwA x1 (k9+(1:Nat)))).length (encL encI (Prod.snd (rwA x1 k9))) (encL encI (Prod.snd (rwA x1 (k9+(1:Nat)))))))/\(True/\((((x1.u:Int)=(x1.u:Int))/\True)/\(((0=0/\x1.g.n=x1.g.n)/\True)/\(((RLe x1.g.n x1.g.n)/\(RowsEq [.sl [.int .i64]] x1.g.n (encLL (adjG x1.g true)) (encLL (adjG x1.g true))))/\True)))))))))))))))))))))))/\((RNx.m x1=(enumL (LLx.mk x1.g.n (adjG x1.g true) (x1.u:Int))).length)/\(True/\(((RLe x1.g.n x1.g.n)/\(RowsEq (Kd.bool::[]) x1.g.n (encL encBo (Prod.fst (rwA x1 (RNx.m x1)))) (encL encBo (Prod.fst (rwA x1 (RNx.m x1))))))/\(((0=0/\((Prod.snd (rwA x1 (RNx.m x1))).length=(Prod.snd (rwA x1 (RNx.m x1))).length))/\True)/\(True/\(((RLe (Prod.snd (rwA x1 (RNx.m x1))).length (Prod.snd (rwA x1 (RNx.m x1))).length)/\(RowsEq [.int .i64] (Prod.snd (rwA x1 (RNx.m x1))).length (encL encI (Prod.snd (rwA x1 (RNx.m x1)))) (encL encI (Prod.snd (rwA x1 (RNx.m x1))))))/\True))))))))))))))=(KeepsLoop cfgX2 (rf0 Tryd.f19 1).2.1.toList (rf0 Tryd.f19 1).2.2.1 (rf0 Tryd.f19 1).2.2.2 rowS) by kernel_rfl) (fun x1=>fun h2=>⟨⟨(by(have q:=h2.g.n;dsimp only;omega)),
fun j3=>fun h4=>(by exact adj_smallR h2 _ _)⟩,
(by(rw[rn_enum h2,adjG_eq,List.length_map];first|exact Nat.le_refl _|rfl)),
⟨trivial,
⟨⟨rfl,rfl⟩,
⟨rfl,rfl⟩,
⟨rfl,rfl⟩,trivial⟩,
⟨⟨rfl,rfl⟩,trivial⟩,
⟨rl,rr⟩,
⟨⟨rfl,rfl⟩,trivial⟩,
⟨rl,
(by exact rr)⟩,
⟨⟨rfl,
(by rfl)⟩,trivial⟩,
⟨⟨(by exact Nat.le_refl _)⟩,
(by exact rr)⟩,trivial,
⟨rfl,trivial⟩,
⟨⟨rfl,rfl⟩,trivial⟩,
⟨rl,rr⟩,trivial⟩,
fun k5=>fun h6=>⟨⟨(by(have q:=h2.g.n;dsimp only;omega)),
fun j7=>fun h8=>(by exact adj_smallR h2 _ _)⟩,
⟨⟨rfl,rfl⟩,
⟨rfl,rfl⟩,trivial⟩,
⟨⟨rfl,trivial⟩,
⟨⟨rfl,rfl⟩,trivial⟩,
⟨rl,rr⟩,trivial⟩,trivial⟩,
fun k9=>fun h10=>⟨(by rfl),
(by omega),
⟨(by(obtain⟨i,F⟩:=rn_f h2 h10;have q2:=F.ok;have q3:=F.lt;have q5:=F.ri.len;have q6:=F.ri.le;have q7:=h2.g.n;unfold edOk at q2;(try simp only[F.e,nat0]at *);omega)),
(by(obtain⟨i,F⟩:=rn_f h2 h10;have q2:=F.ok;have q3:=F.lt;have q5:=F.ri.len;have q6:=F.ri.le;have q7:=h2.g.n;unfold edOk at q2;(try simp only[F.e,nat0]at *);omega))⟩,
(by(obtain⟨i,F⟩:=rn_f h2 h10;have q2:=F.ok;have q3:=F.lt;have q5:=F.ri.len;have q6:=F.ri.le;have q7:=h2.g.n;unfold edOk at q2;(try simp only[F.e,nat0]at *);omega)),
⟨fun g11=>have h11:=dT g11;⟨⟨(by(obtain⟨i,F⟩:=rn_f h2 h10;have q2:=F.ok;have q3:=F.lt;have q5:=F.ri.len;have q6:=F.ri.le;have q7:=h2.g.n;unfold edOk at q2;(try simp only[F.e,nat0]at *);omega)),
(by(obtain⟨i,F⟩:=rn_f h2 h10;have q2:=F.ok;have q3:=F.lt;have q5:=F.ri.len;have q6:=F.ri.le;have q7:=h2.g.n;unfold edOk at q2;(try simp only[F.e,nat0]at *);omega))⟩,
(by(obtain⟨i,F⟩:=rn_f h2 h10;have q2:=F.ok;have q3:=F.lt;have q5:=F.ri.len;have q6:=F.ri.le;have q7:=h2.g.n;unfold edOk at q2;(try simp only[F.e,nat0]at *);omega)),
(default),trivial,
(by
       (obtain⟨i,F⟩:=rn_f h2 h10;simp only[F.ia,F.e,nat0,Nat.zero_add]at *;rw[Bool.eq_iff_iff,decide_eq_true_iff,Bool.not_eq_true'];exact⟨fun q=>⟨h11,q⟩,fun q=>q.2⟩)),trivial⟩,
fun g13=>have h13:=dF g13;⟨(default),trivial,
(by(try dsimp only at *);(obtain⟨i,F⟩:=rn_f h2 h10;simp only[F.ia,F.e,nat0,Nat.zero_add]at *;exact(decide_eq_false (fun q=>h13 q.1)).symm)),trivial⟩⟩,
fun x15=>fun h16=>⟨fun g17=>have h17:=dT g17;⟨⟨(by(try dsimp only at *);(obtain⟨i,F⟩:=rn_f h2 h10;have q2:=F.ok;have q3:=F.lt;have q5:=F.ri.len;have q6:=F.ri.le;have q7:=h2.g.n;unfold edOk at q2;(try simp only[F.e,nat0]at *);omega)),
(by(try dsimp only at *);(obtain⟨i,F⟩:=rn_f h2 h10;have q2:=F.ok;have q3:=F.lt;have q5:=F.ri.len;have q6:=F.ri.le;have q7:=h2.g.n;unfold edOk at q2;(try simp only[F.e,nat0]at *);omega))⟩,
⟨(by(try dsimp only at *);(obtain⟨i,F⟩:=rn_f h2 h10;have q2:=F.ok;have q3:=F.lt;have q5:=F.ri.len;have q6:=F.ri.le;have q7:=h2.g.n;unfold edOk at q2;(try simp only[F.e,nat0]at *);omega)),trivial,trivial⟩,
⟨⟨trivial,trivial⟩,trivial⟩,
⟨rfl,
(by(try dsimp only at *);omega),
(by(try dsimp only at *);omega),
(by(try dsimp only at *);(obtain⟨i,F⟩:=rn_f h2 h10;have q2:=F.ok;have q3:=F.lt;have q5:=F.ri.len;have q6:=F.ri.le;have q7:=h2.g.n;unfold edOk at q2;(try simp only[F.e,nat0]at *);omega))⟩,trivial,
⟨⟨rfl,rfl⟩,
⟨rfl,rfl⟩,
⟨rfl,rfl⟩,trivial⟩,
⟨⟨rfl,rfl⟩,trivial⟩,
⟨rl,rr⟩,
⟨⟨rfl,rfl⟩,trivial⟩,
⟨rl,
(by
       (obtain⟨i,F⟩:=rn_f h2 h10;have e:=rn_yes F h17;have q2:=F.ok;have q5:=F.ri.len;unfold edOk at q2;simp only[F.e,nat0];rw[e];exact rows_setB (by omega)))⟩,
⟨⟨rfl,
(by(try dsimp only at *);(obtain⟨i,F⟩:=rn_f h2 h10;have e:=rn_yes F h17;(try simp only[F.e,nat0]);first|(rw[e];exact push_rowsI)|(rw[e,List.length_append];rfl)|(rw[e,List.length_append];exact Nat.le_refl _)|(rw[e];dsimp only;rw[List.length_append];rfl)|(rw[e];dsimp only;rw[List.length_append];exact Nat.le_refl _)))⟩,trivial⟩,
⟨⟨(by(try dsimp only at *);(obtain⟨i,F⟩:=rn_f h2 h10;have e:=rn_yes F h17;(try simp only[F.e,nat0]);first|(rw[e];exact push_rowsI)|(rw[e,List.length_append];rfl)|(rw[e,List.length_append];exact Nat.le_refl _)|(rw[e];dsimp only;rw[List.length_append];rfl)|(rw[e];dsimp only;rw[List.length_append];exact Nat.le_refl _)))⟩,
(by(try dsimp only at *);(obtain⟨i,F⟩:=rn_f h2 h10;have e:=rn_yes F h17;(try simp only[F.e,nat0]);first|(rw[e];exact push_rowsI)|(rw[e,List.length_append];rfl)|(rw[e,List.length_append];exact Nat.le_refl _)|(rw[e];dsimp only;rw[List.length_append];rfl)|(rw[e];dsimp only;rw[List.length_append];exact Nat.le_refl _)))⟩,trivial,
⟨rfl,trivial⟩,
⟨⟨rfl,rfl⟩,trivial⟩,
⟨rl,rr⟩,trivial⟩,
fun g18=>have h18:=dF g18;⟨trivial,
⟨⟨rfl,rfl⟩,
⟨rfl,rfl⟩,
⟨rfl,rfl⟩,trivial⟩,
⟨⟨rfl,rfl⟩,trivial⟩,
⟨rl,rr⟩,
⟨⟨rfl,rfl⟩,trivial⟩,
⟨rl,
(by(try dsimp only at *);(obtain⟨i,F⟩:=rn_f h2 h10;((have e:=(rn_no F h18);first|(rw[e];done)|(rw[e];exact Nat.le_refl _)|(rw[e];exact rr)|(rw[e];exact push_rowsI)|(rw[e,List.length_append];rfl)|(rw[e,List.length_append];exact Nat.le_refl _)|(rw[e];dsimp only;rw[List.length_append];rfl)|(rw[e];dsimp only;rw[List.length_append];exact Nat.le_refl _)))))⟩,
⟨⟨rfl,
(by(try dsimp only at *);(obtain⟨i,F⟩:=rn_f h2 h10;((have e:=(rn_no F h18);first|(rw[e];done)|(rw[e];exact Nat.le_refl _)|(rw[e];exact rr)|(rw[e];exact push_rowsI)|(rw[e,List.length_append];rfl)|(rw[e,List.length_append];exact Nat.le_refl _)|(rw[e];dsimp only;rw[List.length_append];rfl)|(rw[e];dsimp only;rw[List.length_append];exact Nat.le_refl _)))))⟩,trivial⟩,
⟨⟨(by(try dsimp only at *);(obtain⟨i,F⟩:=rn_f h2 h10;((have e:=(rn_no F h18);first|(rw[e];done)|(rw[e];exact Nat.le_refl _)|(rw[e];exact rr)|(rw[e];exact push_rowsI)|(rw[e,List.length_append];rfl)|(rw[e,List.length_append];exact Nat.le_refl _)|(rw[e];dsimp only;rw[List.length_append];rfl)|(rw[e];dsimp only;rw[List.length_append];exact Nat.le_refl _)))))⟩,
(by(try dsimp only at *);(obtain⟨i,F⟩:=rn_f h2 h10;((have e:=(rn_no F h18);first|(rw[e];done)|(rw[e];exact Nat.le_refl _)|(rw[e];exact rr)|(rw[e];exact push_rowsI)|(rw[e,List.length_append];rfl)|(rw[e,List.length_append];exact Nat.le_refl _)|(rw[e];dsimp only;rw[List.length_append];rfl)|(rw[e];dsimp only;rw[List.length_append];exact Nat.le_refl _)))))⟩,trivial,
⟨rfl,trivial⟩,
⟨⟨rfl,rfl⟩,trivial⟩,
⟨rl,rr⟩,trivial⟩⟩⟩,
(by(try dsimp only at *);(rw[rn_enum h2,adjG_eq,List.length_map];first|exact Nat.le_refl _|rfl)),trivial,
⟨rl,rr⟩,
⟨⟨rfl,rfl⟩,trivial⟩,trivial,
⟨rl,rr⟩,trivial⟩)
theorem rowLoop_good:LoopGood Tryd.prog Tryd.f19.ntmps (rf0 Tryd.f19 1) rowS.lc:=loop_good tok (ConL.ok .nil) ⟨rfl,rfl,rfl⟩ enumIt_good (by decide+kernel) row_loop
def reachC:CT where
 X:=RLx
 pre:=RLok
 args:=fun x=>[.p 100000 0 0,setV x.ws 100001]
 g0:=fun x=>graphH x.g 100000++setH x.ws .bor 100001
 res:=fun x=>setV (ofW (reachQ x.g (elemsZ x.ws)) (reachQ x.g (elemsZ x.ws)).length) 1
 g1:=fun x=>setH (ofW (reachQ x.g (elemsZ x.ws)) (reachQ x.g (elemsZ x.ws)).length) .own 1
def lpA (x:RLx) (k:Nat):List Bool × List Int:=loopR x.g (rsA x (elemsZ x.ws).length) k
def reachI (x:RLx) (id:Nat):Option Inv:=match id with
 |2=>some { X:=Nat,ok:=fun k=>k<=x.g.n,fr:=fun k=>[(8,.i .i64 k)],hp:=fun k=>[(13,.rows .own kB x.g.n (encL encBo (lpA x k).1)),(6,.one .own [.sl 60 0 (lpA x k).2.length]),(60,.rows .own k1 (lpA x k).2.length (encL encI (lpA x k).2))],me:=fun k=>x.g.n-k }
 |_=>none
def cfgX3:Cfg:=⟨T,[],[(32,.one nodesC),(40,.one eachC),(17,.one (outC true)),(20,.one ofC)],noInv,11,{ lps:=[(16,rchS.lc),(40,rowS.lc)]}⟩
theorem conX3:ConOk Tryd.prog cfgX3:=ConL.ok (.cons (ConL.one nodes_good) (.cons (ConL.one eachC_good) (.cons (ConL.one out_good) (.cons (ConL.one of_good) .nil))))
theorem lp_ri {x:RLx} (h:RLok x) (k:Nat):RIs x.g.n (lpA x k):=(h.ri _).loop h.g k
def lpN (x:RLx) (k:Nat):RNx:=⟨x.g,lpA x k,((lpA x k).2.getD k default).toNat⟩
theorem lp_0 (x:RLx):rsA x (elemsW x.ws).length=lpA x 0:=by show _=rsA x (elemsZ x.ws).length;rw[elemsZ_len]
theorem lp_rng {x:RLx} (h:RLok x) {k:Nat} (hk:(k:Int)<(lpA x k).2.length):0<=(lpA x k).2.getD k default/\(lpA x k).2.getD k default<x.g.n/\k<x.g.n:=by
 have I:=lp_ri h k
 have hk:k<(lpA x k).2.length:=by omega
 have m:(lpA x k).2.getD k default∈(lpA x k).2:=by rw[List.getD_eq_getElem?_getD,List.getElem?_eq_getElem hk];exact List.getElem_mem _
 have:=I.rng _ m
 have:=I.le
 omega
theorem lp_n {x:RLx} (h:RLok x) {k:Nat} (hk:(k:Int)<(lpA x k).2.length):RNok (lpN x k):=by
 have:=lp_rng h hk
 exact⟨h.g,lp_ri h k,by show((lpA x k).2.getD k default).toNat<x.g.n;omega⟩
theorem lp_go {x:RLx} {k:Nat} (hk:(k:Int)<(lpA x k).2.length):rwA (lpN x k) (lpN x k).m=lpA x (k+1):=by
 have e:lpA x (k+1)=nodeR x.g (lpA x k) ((lpA x k).2.getD k default).toNat:=by
  show(if k<(lpA x k).2.length then _ else _)=_
  rw[if_pos (by omega)];rfl
 rw[e]
 unfold rwA rowR RNx.m nodeR
 rw[List.take_length];rfl
theorem lp_end {x:RLx} (h:RLok x) {k:Nat} (hn:k<=x.g.n) (hk:¬ (k:Int)<(lpA x k).2.length):(lpA x k).2=reachQ x.g (elemsZ x.ws):=reachQ_is h.g (h.ri _) (by show(lpA x k).2.length<=k;omega) hn
theorem lp_le {x:RLx} (h:RLok x):(reachQ x.g (elemsZ x.ws)).length<=4096:=Nat.le_trans (lp_ri h x.g.n).le h.g.n
set_option maxRecDepth 100000 in
theorem reach_keeps:Keeps cfgX3 Tryd.f19 reachC reachI:=Eq.mp (show((∀ x1:RLx,((RLok x1)->(∃ x3:Gr,(True/\(((0=0/\0=0)/\True)/\(((RLe 1 1/\(RowsEq [.sl [.int .i64,.int .i64,.int .i64],.sl [.sl [.int .i64]],.sl [.sl [.int .i64]]] 1 (encG x1.g) (encG x3)))/\True)/\((((0:Int)<=(x3.n:Int))/\(((x3.n:Int)<=(x3.n:Int))/\((x3.n:Int)<=(↑(1073741824:Nat):Int))))/\(∃ x4:List Nat,((WOk x4)/\((((szW x1.ws=szW x4)/\True)/\True)/\((((RLe (szW x4) (szW x1.ws))/\(RowsEq [.int .u64] (szW x4) (encL encW x1.ws) (encL encW x4)))/\True)/\(∃ x5:LS.X rchS,((RLok x5)/\(((0=0/\0=0)/\((0=0/\0=0)/\((0=0/\0=0)/\(((0=0/\0=0)/\True)/\True))))/\((((0=0/\0=0)/\True)/\((RLe 1 1/\(RowsEq [.sl [.int .i64,.int .i64,.int .i64],.sl [.sl [.int .i64]],.sl [.sl [.int .i64]]] 1 (encG x1.g) (encG (RLx.g x5))))/\(((0=0/\(Int.toNat (x3.n:Int)=(RLx.g x5).n))/\True)/\(((RLe (RLx.g x5).n (Int.toNat (x3.n:Int)))/\(RowsEq (Kd.bool::[]) (RLx.g x5).n (fun(x j:Nat)=>zRow (Kd.bool::[]) j) (encL encBo (List.replicate (RLx.g x5).n false))))/\((True/\True)/\(((szW x4=szW (RLx.ws x5))/\True)/\(((RLe (szW (RLx.ws x5)) (szW x1.ws))/\(RowsEq [.int .u64] (szW (RLx.ws x5)) (encL encW x1.ws) (encL encW (RLx.ws x5))))/\True)))))))/\(∃ x6:Nat,(((x6<=x1.g.n)/\(((0=(x6:Int))/\((0=0/\0=0)/\((0=0/\0=0)/\((0=0/\0=0)/\((0=0/\0=0)/\((0=0/\0=0)/\((0=0/\0=0)/\(((szW x1.ws=szW x1.ws)/\True)/\True))))))))/\(((RLe x1.g.n (RLx.g x5).n)/\(RowsEq (Kd.bool::[]) x1.g.n (encL encBo (Prod.fst (rsA x5 (elemsW (RLx.ws x5)).length))) (encL encBo (Prod.fst (lpA x1 x6)))))/\(((0=0/\((Prod.snd (rsA x5 (elemsW (RLx.ws x5)).length)).length=(Prod.snd (lpA x1 x6)).length))/\True)/\(((RLe (Prod.snd (lpA x1 x6)).length (Prod.snd (rsA x5 (elemsW (RLx.ws x5)).length)).length)/\(RowsEq [.int .i64] (Prod.snd (lpA x1 x6)).length (encL encI (Prod.snd (rsA x5 (elemsW (RLx.ws x5)).length))) (encL encI (Prod.snd (lpA x1 x6)))))/\(((szW x4=szW x4)/\True)/\(((0=0/\(Int.toNat (x3.n:Int)=Int.toNat (x3.n:Int)))/\True)/\((True/\True)/\(((szW x1.ws=szW x1.ws)/\True)/\(((0=0/\0=0)/\True)/\((RLe 1 1/\(RowsEq [.sl [.int .i64,.int .i64,.int .i64],.sl [.sl [.int .i64]],.sl [.sl [.int .i64]]] 1 (encG x1.g) (encG x1.g)))/\(((RLe (szW x1.ws) (szW x1.ws))/\(RowsEq [.int .u64] (szW x1.ws) (encL encW x1.ws) (encL encW x1.ws)))/\True))))))))))))/\(∀ x7:Nat,((x7<=x1.g.n)->(((decide ((x7:Int)<(↑(Prod.snd (lpA x1 x7)).length:Int))=true)->((((0:Int)<=(x7:Int))/\((x7:Int)<(↑(Prod.snd (lpA x1 x7)).length:Int)))/\((0+Int.toNat (x7:Int)<(Prod.snd (lpA x1 x7)).length)/\(∃ x10:GIx,(True/\(((0=0/\0=0)/\(((Prod.snd (lpA x1 x7)).getD (0+Int.toNat (x7:Int)) default=x10.i)/\True))/\(((RLe 1 1/\(RowsEq [.sl [.int .i64,.int .i64,.int .i64],.sl [.sl [.int .i64]],.sl [.sl [.int .i64]]] 1 (encG x1.g) (encG x10.g)))/\True)/\(∃ x11:LS.X rowS,((RNok x11)/\(((0=0/\0=0)/\((0=0/\0=0)/\((0=0/\0=0)/\(((0=0/\0=0)/\((0=0/\0=0)/\True))/\True))))/\((((0=0/\0=0)/\True)/\((RLe 1 1/\(RowsEq [.sl [.int .i64,.int .i64,.int .i64],.sl [.sl [.int .i64]],.sl [.sl [.int .i64]]] 1 (encG x1.g) (encG (RNx.g x11))))/\(((0=0/\(Int.toNat (x3.n:Int)=(RNx.g x11).n))/\True)/\(((RLe (RNx.g x11).n x1.g.n)/\(RowsEq (Kd.bool::[]) (RNx.g x11).n (encL encBo (Prod.fst (lpA x1 x7))) (encL encBo (Prod.fst (RNx.s x11)))))/\(((0=0/\((Prod.snd (lpA x1 x7)).length=(Prod.snd (RNx.s x11)).length))/\True)/\(((RLe (Prod.snd (RNx.s x11)).length (Prod.snd (lpA x1 x7)).length)/\(RowsEq [.int .i64] (Prod.snd (RNx.s x11)).length (encL encI (Prod.snd (lpA x1 x7))) (encL encI (Prod.snd (RNx.s x11)))))/\(((x10.i=(↑(RNx.u x11):Int))/\True)/\(((0=0/\(x10.g.n=(RNx.g x11).n))/\True)/\(((RLe (RNx.g x11).n x10.g.n)/\(RowsEq [.sl [.int .i64]] (RNx.g x11).n (encLL (adjG x10.g true)) (encLL (adjG (RNx.g x11) true))))/\True)))))))))/\((((-9223372036854775808:Int)<=(x7:Int)+1)/\((x7:Int)+1<=(9223372036854775807:Int)))/\(∃ x12:Nat,((x1.g.n-x12<x1.g.n-x7)/\((x12<=x1.g.n)/\((((x7:Int)+1=(x12:Int))/\((0=0/\0=0)/\((0=0/\0=0)/\((0=0/\0=0)/\((0=0/\0=0)/\((0=0/\0=0)/\((0=0/\0=0)/\(((szW x1.ws=szW x1.ws)/\True)/\True))))))))/\(((RLe x1.g.n (RNx.g x11).n)/\(RowsEq (Kd.bool::[]) x1.g.n (encL encBo (Prod.fst (rwA x11 (RNx.m x11)))) (encL encBo (Prod.fst (lpA x1 x12)))))/\(((0=0/\((Prod.snd (rwA x11 (RNx.m x11))).length=(Prod.snd (lpA x1 x12)).length))/\True)/\(((RLe (Prod.snd (lpA x1 x12)).length (Prod.snd (rwA x11 (RNx.m x11))).length)/\(RowsEq [.int .i64] (Prod.snd (lpA x1 x12)).length (encL encI (Prod.snd (rwA x11 (RNx.m x11)))) (encL encI (Prod.snd (lpA x1 x12)))))/\(((szW x4=szW x4)/\True)/\(((0=0/\(Int.toNat (x3.n:Int)=Int.toNat (x3.n:Int)))/\True)/\((True/\True)/\(((szW x1.ws=szW x1.ws)/\True)/\(((0=0/\0=0)/\True)/\((RLe 1 1/\(RowsEq [.sl [.int .i64,.int .i64,.int .i64],.sl [.sl [.int .i64]],.sl [.sl [.int .i64]]] 1 (encG x1.g) (encG x1.g)))/\(((RLe (szW x1.ws) (szW x1.ws))/\(RowsEq [.int .u64] (szW x1.ws) (encL encW x1.ws) (encL encW x1.ws)))/\True))))))))))))))))))))))))))/\((decide ((x7:Int)<(↑(Prod.snd (lpA x1 x7)).length:Int))=false)->(∃ x14:List Int,((x14.length<=(1048576:Nat))/\(((0=0/\((Prod.snd (lpA x1 x7)).length=x14.length))/\True)/\((((RLe x14.length (Prod.snd (lpA x1 x7)).length)/\(RI x14.length (Prod.snd (lpA x1 x7)) x14))/\True)/\(((szW (ofW x14 x14.length)=szW (ofW (reachQ x1.g (elemsZ x1.ws)) (reachQ x1.g (elemsZ x1.ws)).length))/\True)/\(((RLe (szW (ofW (reachQ x1.g (elemsZ x1.ws)) (reachQ x1.g (elemsZ x1.ws)).length)) (szW (ofW x14 x14.length)))/\(RowsEq [.int .u64] (szW (ofW (reachQ x1.g (elemsZ x1.ws)) (reachQ x1.g (elemsZ x1.ws)).length)) (encL encW (ofW x14 x14.length)) (encL encW (ofW (reachQ x1.g (elemsZ x1.ws)) (reachQ x1.g (elemsZ x1.ws)).length))))/\True))))))))))))))))))))))))))))=(Keeps cfgX3 Tryd.f19 reachC reachI) by kernel_rfl) (fun x1=>fun h2=>⟨(RLx.g x1),
 trivial,
⟨⟨rfl,rfl⟩,trivial⟩,
⟨⟨rl,rr⟩,trivial⟩,
⟨(by(try dsimp only at *);omega),
(by(try dsimp only at *);omega),
(by(try dsimp only at *);(have:=h2.g.n;omega))⟩,
(RLx.ws x1),
(by(try dsimp only at *);exact h2.w),
⟨⟨rfl,trivial⟩,trivial⟩,
⟨⟨rl,rr⟩,trivial⟩,
(x1),
(by(try dsimp only at *);omega),
⟨⟨rfl,rfl⟩,
⟨rfl,rfl⟩,
⟨rfl,rfl⟩,
⟨⟨rfl,rfl⟩,trivial⟩,trivial⟩,
⟨⟨⟨rfl,rfl⟩,trivial⟩,
⟨rl,rr⟩,
⟨⟨rfl,
(by(try dsimp only at *);omega)⟩,trivial⟩,
⟨⟨(by(try dsimp only at *);omega)⟩,
(by(try dsimp only at *);exact rows_zeroB rfl)⟩,
⟨trivial,trivial⟩,
⟨rfl,trivial⟩,
⟨rl,rr⟩,trivial⟩,
((0:Nat)),
⟨(by(try dsimp only at *);omega),
⟨(by(try dsimp only at *);omega),
⟨rfl,rfl⟩,
⟨rfl,rfl⟩,
⟨rfl,rfl⟩,
⟨rfl,rfl⟩,
⟨rfl,rfl⟩,
⟨rfl,rfl⟩,
⟨rfl,trivial⟩,trivial⟩,
⟨rl,
(by(try dsimp only at *);((have e:=(lp_0 x1);first|(rw[e];done)|(rw[e];exact Nat.le_refl _)|(rw[e];exact rr)|(rw[e];exact push_rowsI)|(rw[e,List.length_append];rfl)|(rw[e,List.length_append];exact Nat.le_refl _)|(rw[e];dsimp only;rw[List.length_append];rfl)|(rw[e];dsimp only;rw[List.length_append];exact Nat.le_refl _))))⟩,
⟨⟨rfl,
(by(try dsimp only at *);((have e:=(lp_0 x1);first|(rw[e];done)|(rw[e];exact Nat.le_refl _)|(rw[e];exact rr)|(rw[e];exact push_rowsI)|(rw[e,List.length_append];rfl)|(rw[e,List.length_append];exact Nat.le_refl _)|(rw[e];dsimp only;rw[List.length_append];rfl)|(rw[e];dsimp only;rw[List.length_append];exact Nat.le_refl _))))⟩,trivial⟩,
⟨⟨(by(try dsimp only at *);((have e:=(lp_0 x1);first|(rw[e];done)|(rw[e];exact Nat.le_refl _)|(rw[e];exact rr)|(rw[e];exact push_rowsI)|(rw[e,List.length_append];rfl)|(rw[e,List.length_append];exact Nat.le_refl _)|(rw[e];dsimp only;rw[List.length_append];rfl)|(rw[e];dsimp only;rw[List.length_append];exact Nat.le_refl _))))⟩,
(by(try dsimp only at *);((have e:=(lp_0 x1);first|(rw[e];done)|(rw[e];exact Nat.le_refl _)|(rw[e];exact rr)|(rw[e];exact push_rowsI)|(rw[e,List.length_append];rfl)|(rw[e,List.length_append];exact Nat.le_refl _)|(rw[e];dsimp only;rw[List.length_append];rfl)|(rw[e];dsimp only;rw[List.length_append];exact Nat.le_refl _))))⟩,
⟨rfl,trivial⟩,
⟨⟨rfl,rfl⟩,trivial⟩,
⟨trivial,trivial⟩,
⟨rfl,trivial⟩,
⟨⟨rfl,rfl⟩,trivial⟩,
⟨rl,rr⟩,
⟨rl,rr⟩,trivial⟩,
fun x7=>fun h8=>⟨fun g9=>have h9:=dT g9;⟨⟨(by(try dsimp only at *);omega),
(by(try dsimp only at *);omega)⟩,
(by(try dsimp only at *);omega),
({ g:=RLx.g x1,i:=List.getD (Prod.snd (lpA x1 x7)) x7 default:GIx }),trivial,
⟨⟨rfl,rfl⟩,
(by(try dsimp only at *);grind),trivial⟩,
⟨⟨rl,rr⟩,trivial⟩,
(lpN x1 x7),
(by(try dsimp only at *);exact lp_n h2 h9),
⟨⟨rfl,rfl⟩,
⟨rfl,rfl⟩,
⟨rfl,rfl⟩,
⟨⟨rfl,rfl⟩,
⟨rfl,rfl⟩,trivial⟩,trivial⟩,
⟨⟨⟨rfl,rfl⟩,trivial⟩,
⟨rl,
(by(try dsimp only at *);exact rr)⟩,
⟨⟨rfl,
(by(try dsimp only at *);rfl)⟩,trivial⟩,
⟨⟨(by(try dsimp only at *);exact Nat.le_refl _)⟩,
(by(try dsimp only at *);exact rr)⟩,
⟨⟨rfl,
(by(try dsimp only at *);rfl)⟩,trivial⟩,
⟨⟨(by(try dsimp only at *);exact Nat.le_refl _)⟩,
(by(try dsimp only at *);exact rr)⟩,
⟨(by(try dsimp only at *);(have:=lp_rng h2 h9;show(lpA x1 x7).2.getD x7 default=(((lpA x1 x7).2.getD x7 default).toNat:Int);omega)),trivial⟩,
⟨⟨rfl,
(by(try dsimp only at *);rfl)⟩,trivial⟩,
⟨⟨(by(try dsimp only at *);exact Nat.le_refl _)⟩,
(by(try dsimp only at *);exact rr)⟩,trivial⟩,
⟨(by(try dsimp only at *);omega),
(by(try dsimp only at *);(have:=h2.g.n;omega))⟩,
(x7+(1:Nat)),
(by(try dsimp only at *);(have:=lp_rng h2 h9;omega)),
(by(try dsimp only at *);(have:=lp_rng h2 h9;omega)),
⟨(by(try dsimp only at *);omega),
⟨rfl,rfl⟩,
⟨rfl,rfl⟩,
⟨rfl,rfl⟩,
⟨rfl,rfl⟩,
⟨rfl,rfl⟩,
⟨rfl,rfl⟩,
⟨rfl,trivial⟩,trivial⟩,
⟨⟨(by(try dsimp only at *);exact Nat.le_refl _)⟩,
(by(try dsimp only at *);((have e:=(lp_go h9);first|(rw[e];done)|(rw[e];exact Nat.le_refl _)|(rw[e];exact rr)|(rw[e];exact push_rowsI)|(rw[e,List.length_append];rfl)|(rw[e,List.length_append];exact Nat.le_refl _)|(rw[e];dsimp only;rw[List.length_append];rfl)|(rw[e];dsimp only;rw[List.length_append];exact Nat.le_refl _))))⟩,
⟨⟨rfl,
(by(try dsimp only at *);((have e:=(lp_go h9);first|(rw[e];done)|(rw[e];exact Nat.le_refl _)|(rw[e];exact rr)|(rw[e];exact push_rowsI)|(rw[e,List.length_append];rfl)|(rw[e,List.length_append];exact Nat.le_refl _)|(rw[e];dsimp only;rw[List.length_append];rfl)|(rw[e];dsimp only;rw[List.length_append];exact Nat.le_refl _))))⟩,trivial⟩,
⟨⟨(by(try dsimp only at *);((have e:=(lp_go h9);first|(rw[e];done)|(rw[e];exact Nat.le_refl _)|(rw[e];exact rr)|(rw[e];exact push_rowsI)|(rw[e,List.length_append];rfl)|(rw[e,List.length_append];exact Nat.le_refl _)|(rw[e];dsimp only;rw[List.length_append];rfl)|(rw[e];dsimp only;rw[List.length_append];exact Nat.le_refl _))))⟩,
(by(try dsimp only at *);((have e:=(lp_go h9);first|(rw[e];done)|(rw[e];exact Nat.le_refl _)|(rw[e];exact rr)|(rw[e];exact push_rowsI)|(rw[e,List.length_append];rfl)|(rw[e,List.length_append];exact Nat.le_refl _)|(rw[e];dsimp only;rw[List.length_append];rfl)|(rw[e];dsimp only;rw[List.length_append];exact Nat.le_refl _))))⟩,
⟨rfl,trivial⟩,
⟨⟨rfl,rfl⟩,trivial⟩,
⟨trivial,trivial⟩,
⟨rfl,trivial⟩,
⟨⟨rfl,rfl⟩,trivial⟩,
⟨rl,rr⟩,
⟨rl,rr⟩,trivial⟩,
fun g13=>have h13:=dF g13;⟨(reachQ (RLx.g x1) (elemsZ (RLx.ws x1))),
(by(try dsimp only at *);(have:=lp_le h2;omega)),
⟨⟨rfl,
(by(try dsimp only at *);((have e:=(lp_end h2 h8 h13);first|(rw[e];done)|(rw[e];exact Nat.le_refl _)|(rw[e];exact rr)|(rw[e];exact push_rowsI)|(rw[e,List.length_append];rfl)|(rw[e,List.length_append];exact Nat.le_refl _)|(rw[e];dsimp only;rw[List.length_append];rfl)|(rw[e];dsimp only;rw[List.length_append];exact Nat.le_refl _))))⟩,trivial⟩,
⟨⟨⟨(by(try dsimp only at *);((have e:=(lp_end h2 h8 h13);first|(rw[e];done)|(rw[e];exact Nat.le_refl _)|(rw[e];exact rr)|(rw[e];exact push_rowsI)|(rw[e,List.length_append];rfl)|(rw[e,List.length_append];exact Nat.le_refl _)|(rw[e];dsimp only;rw[List.length_append];rfl)|(rw[e];dsimp only;rw[List.length_append];exact Nat.le_refl _))))⟩,
(by(try dsimp only at *);((have e:=(lp_end h2 h8 h13);first|(rw[e];done)|(rw[e];exact Nat.le_refl _)|(rw[e];exact rr)|(rw[e];exact push_rowsI)|(rw[e,List.length_append];rfl)|(rw[e,List.length_append];exact Nat.le_refl _)|(rw[e];dsimp only;rw[List.length_append];rfl)|(rw[e];dsimp only;rw[List.length_append];exact Nat.le_refl _))))⟩,trivial⟩,
⟨rfl,trivial⟩,
⟨rl,rr⟩,trivial⟩⟩⟩)
theorem reach_good:Good Tryd.prog 19 reachC/\FnOk Tryd.prog 19:=
 good_ofX tok conX3 (fn:=Tryd.f19) rfl (by decide+kernel) (fun _=>rfl) reach_keeps (fun g hg=>by cases hg) (two_loop rfl rfl rfl rchLoop_good rowLoop_good)
end Go.Sym