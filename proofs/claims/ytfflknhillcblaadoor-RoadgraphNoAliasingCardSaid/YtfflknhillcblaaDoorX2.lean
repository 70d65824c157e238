import Derived.Test.YtfflknhillcblaaDoorX1
import Derived.Test.YtfflknhillcblaaDoorXD
namespace Go.Sym
set_option linter.unusedVariables false
set_option linter.unusedSimpArgs false
open Go.Proofs
set_option maxRecDepth 100000
set_option maxHeartbeats 4000000
abbrev VSt:=List Bool × List Int
def visF (g:Gr):Nat->Nat->VSt->VSt
 |0,_,s=>s
 |m+1,u,s=>
  let r:=(adjN g true u).foldl (fun s i=>if opn g i=true/\s.1.getD (toN g i) default=false then visF g m (toN g i) s else s) (s.1.set u true,s.2)
  (r.1,r.2++[(u:Int)])
def stepV (g:Gr) (m:Nat) (s:VSt) (i:Nat):VSt:=if opn g i=true/\s.1.getD (toN g i) default=false then visF g m (toN g i) s else s
theorem visF_succ (g:Gr) (m u:Nat) (s:VSt):visF g (m+1) u s=(((adjN g true u).foldl (stepV g m) (s.1.set u true,s.2)).1,((adjN g true u).foldl (stepV g m) (s.1.set u true,s.2)).2++[(u:Int)]):=rfl
def unv:List Bool->Nat
 | []=>0
 |b::l=>(if b=false then 1 else 0)+unv l
theorem unv_set:∀ {l:List Bool} {u:Nat},u<l.length->l.getD u default=false->unv (l.set u true)+1=unv l
 | [],u,h,_=>absurd h (by simp)
 |b::l,0,_,h2=>by
  have h2:b=false:=h2
  subst h2
  show(0+unv l)+1=1+unv l
  omega
 |b::l,u+1,h,h2=>by
  have:=unv_set (l:=l) (u:=u) (by simpa using h) (by simpa using h2)
  show(_+unv (l.set u true))+1=_+unv l
  omega
theorem unv_pos {l:List Bool} {u:Nat} (h:u<l.length) (h2:l.getD u default=false):1<=unv l:=by have:=unv_set h h2;omega
structure VI (n c m:Nat) (s:VSt):Prop where
 len:s.1.length=n
 sum:s.2.length+unv s.1=c
 un:unv s.1<=m
theorem VI.vis {g:Gr} (hg:GOk g):∀(m:Nat) {c b u:Nat} {s:VSt},VI g.n c b s->u<g.n->s.1.getD u default=false->VI g.n c b (visF g m u s)
 |0,_,_,_,_,h,_,_=>h
 |m+1,c,b,u,s,h,hu,h0=>by
  rw[visF_succ]
  have q:=unv_set (l:=s.1) (u:=u) (by rw[h.len];exact hu) h0
  have hs:=h.sum
  have hb:=h.un
  have h1:VI g.n (c-1) (b-1) (s.1.set u true,s.2):=⟨by show(s.1.set u true).length=_;rw[List.length_set];exact h.len,by show s.2.length+unv (s.1.set u true)=_;omega,by show unv (s.1.set u true)<=_;omega⟩
  have key:∀(L:List Nat) {s:VSt},(∀ i∈L,i<g.es.length)->VI g.n (c-1) (b-1) s->VI g.n (c-1) (b-1) (L.foldl (stepV g m) s):=by
   intro L
   induction L with
   |nil=>intro s _ h;exact h
   |cons a L ih=>
    intro s hL h
    rw[List.foldl_cons]
    refine ih (fun i hi=>hL i (List.mem_cons_of_mem _ hi)) ?_
    unfold stepV
    split
    ·rename_i w
     have e:=hg.e a (hL a (by simp))
     unfold edOk at e
     exact VI.vis hg m h (by unfold toN;omega) w.2
    ·exact h
  have r:=key (adjN g true u) (fun i hi=>(adjN_mem.1 hi).1) h1
  have r1:=r.sum
  have r2:=r.un
  refine⟨r.len,?_,?_⟩
  ·show(((adjN g true u).foldl (stepV g m) (s.1.set u true,s.2)).2++[(u:Int)]).length+unv ((adjN g true u).foldl (stepV g m) (s.1.set u true,s.2)).1=c
   rw[List.length_append,List.length_singleton];omega
  ·show unv ((adjN g true u).foldl (stepV g m) (s.1.set u true,s.2)).1<=b
   omega
structure VX where
 g:Gr
 s:VSt
 u:Nat
structure VXok (m:Nat) (x:VX):Prop where
 g:GOk x.g
 s:VI x.g.n (x.s.2.length+unv x.s.1) m x.s
 u:x.u<x.g.n
 b:x.s.2.length+unv x.s.1<=8192
def vkA (m:Nat) (x:VX) (k:Nat):VSt:=((adjN x.g true x.u).take k).foldl (stepV x.g m) x.s
def VX.m (x:VX):Nat:=(adjN x.g true x.u).length
def eV (x:VX) (k:Nat):Nat:=(adjN x.g true x.u).getD k 0
def encV35 (m:Nat) (x:VX) (k:Nat):Bool:=decide ((x.g.es.getD (eV x k) default).d≠4611686018427387904/\(vkA m x k).1.getD (x.g.es.getD (eV x k) default).t.toNat default=false)
def visS (m:Nat):LS where
 it:=enumIt
 g:=53
 X:=VX
 pre:=VXok m
 slots:=[4,6,7]
 vals:=fun _=>[.p 100000 0 0,.p 100001 0 0,.p 100002 0 0]
 caps:=fun _=>[.p 100006 0 0,.p 100007 0 0]
 g0:=fun x=>[(100000,.one .bor [.p 100010 0 0]),(100010,.rows .bor kG 1 (encG x.g)),(100001,.one .bor [.sl 100011 0 x.g.n]),(100011,.rows .own kB x.g.n (encL encBo x.s.1)),(100002,.one .own [.sl 100012 0 x.s.2.length]),(100012,.rows .own k1 x.s.2.length (encL encI x.s.2)),
  (100006,.one .bor [.i .i64 (x.u:Nat)]),(100007,.one .bor [.sl 100017 0 x.g.n]),(100017,.rows .bor kLL x.g.n (encLL (adjG x.g true)))]
 g1:=fun x=>[(100011,.rows .own kB x.g.n (encL encBo (vkA m x x.m).1)),(100002,.one .own [.sl 1 0 (vkA m x x.m).2.length]),(100012,.dead),(1,.rows .own k1 (vkA m x x.m).2.length (encL encI (vkA m x x.m).2))]
 hp:=fun x k=>[(100000,.one .bor [.p 100010 0 0]),(100010,.rows .bor kG 1 (encG x.g)),(100001,.one .bor [.sl 100011 0 x.g.n]),(100011,.rows .own kB x.g.n (encL encBo (vkA m x k).1)),(100002,.one .own [.sl 8 0 (vkA m x k).2.length]),(8,.rows .own k1 (vkA m x k).2.length (encL encI (vkA m x k).2)),(100012,.dead),
  (100006,.one .bor [.i .i64 (x.u:Nat)]),(100007,.one .bor [.sl 100017 0 x.g.n]),(100017,.rows .bor kLL x.g.n (encLL (adjG x.g true)))]
 y:=fun x=>⟨x.g.n,adjG x.g true,(x.u:Nat)⟩
 m:=VX.m
 inn:=fun x k id=>match id with
  |100035=>some (cutB 35 (encV35 m x k))
  |_=>none
def visC (m:Nat):CT where
 X:=VX
 pre:=fun x=>VXok m x/\x.s.1.getD x.u default=false
 args:=fun x=>[.p 100000 0 0,.i .i64 (x.u:Nat),.sl 100001 0 x.g.n,.sl 100002 0 x.s.2.length]
 g0:=fun x=>graphH x.g 100000++[(100001,.rows .own kB x.g.n (encL encBo x.s.1)),(100002,.rows .own k1 x.s.2.length (encL encI x.s.2))]
 res:=fun x=>.sl 1 0 (visF x.g m x.u x.s).2.length
 g1:=fun x=>[(100001,.rows .own kB x.g.n (encL encBo (visF x.g m x.u x.s).1)),(100002,.dead),(1,.rows .own k1 (visF x.g m x.u x.s).2.length (encL encI (visF x.g m x.u x.s).2))]
def cfgV1 (m:Nat):Cfg:=⟨T,[],[(44,.one (visC m))],noInv,30,{ scp:=false }⟩
structure VXf (m:Nat) (x:VX) (k i:Nat):Prop where
 ia:eV x k=i
 e:(enumL ⟨x.g.n,adjG x.g true,(x.u:Nat)⟩).getD k default=(i:Int)
 lt:i<x.g.es.length
 ok:edOk x.g.n (x.g.es.getD i default)
 st:vkA m x (k+1)=stepV x.g m (vkA m x k) i
 vi:VI x.g.n (x.s.2.length+unv x.s.1) m (vkA m x k)
theorem vx_enum {m:Nat} {x:VX} (h:VXok m x):enumL ⟨x.g.n,adjG x.g true,(x.u:Nat)⟩=adjG x.g true x.u:=by
 unfold enumL
 have:=h.u
 rw[if_pos (by dsimp only;omega)]
 rfl
theorem stepV_VI {g:Gr} (hg:GOk g) {m c b:Nat} {s:VSt} (h:VI g.n c b s) {i:Nat} (hi:i<g.es.length):VI g.n c b (stepV g m s i):=by
 unfold stepV
 split
 ·rename_i w
  have e:=hg.e i hi
  unfold edOk at e
  exact h.vis hg m (by unfold toN;omega) w.2
 ·exact h
theorem foldV_VI {g:Gr} (hg:GOk g) {m c b:Nat}:∀(L:List Nat) {s:VSt},(∀ i∈L,i<g.es.length)->VI g.n c b s->VI g.n c b (L.foldl (stepV g m) s)
 | [],_,_,h=>h
 |a::L,_,hL,h=>by rw[List.foldl_cons];exact foldV_VI hg L (fun i hi=>hL i (List.mem_cons_of_mem _ hi)) (stepV_VI hg h (hL a (by simp)))
theorem vk_VI {m:Nat} {x:VX} (h:VXok m x) (k:Nat):VI x.g.n (x.s.2.length+unv x.s.1) m (vkA m x k):=foldV_VI h.g _ (fun i hi=>(adjN_mem.1 (List.mem_of_mem_take hi)).1) h.s
theorem vx_f {m:Nat} {x:VX} (h:VXok m x) {k:Nat} (hk:k<x.m):∃ i,VXf m x k i:=by
 have hk':k<(adjN x.g true x.u).length:=hk
 have hi:=adjN_mem.1 (List.getElem_mem hk')
 refine⟨(adjN x.g true x.u)[k],by unfold eV;simp[List.getD_eq_getElem?_getD,hk'],?_,hi.1,h.g.e _ hi.1,?_,vk_VI h k⟩
 ·rw[vx_enum h,adjG_eq]
  simp[List.getD_eq_getElem?_getD,hk']
 ·unfold vkA
  rw[List.take_succ_eq_append_getElem hk',List.foldl_append]
  rfl
def vkX (m:Nat) (x:VX) (k:Nat):VX:=⟨x.g,vkA m x k,(x.g.es.getD (eV x k) default).t.toNat⟩
theorem vx_yes {m:Nat} {x:VX} {k i:Nat} (F:VXf m x k i) (h:(x.g.es.getD (eV x k) default).d≠4611686018427387904/\(vkA m x k).1.getD (x.g.es.getD (eV x k) default).t.toNat default=false):visF x.g m (vkX m x k).u (vkA m x k)=vkA m x (k+1):=by
 unfold vkX
 rw[F.ia]at h ⊢
 rw[F.st];unfold stepV opn toN
 rw[if_pos ⟨decide_eq_true h.1,h.2⟩]
theorem vx_no {m:Nat} {x:VX} {k i:Nat} (F:VXf m x k i) (h:¬ ((x.g.es.getD (eV x k) default).d≠4611686018427387904/\(vkA m x k).1.getD (x.g.es.getD (eV x k) default).t.toNat default=false)):vkA m x (k+1)=vkA m x k:=by
 rw[F.ia]at h
 rw[F.st];unfold stepV opn toN
 rw[if_neg (fun q=>h ⟨of_decide_eq_true q.1,q.2⟩)]
theorem vx_call {m:Nat} {x:VX} (h:VXok m x) {k i:Nat} (F:VXf m x k i) (h2:(x.g.es.getD (eV x k) default).d≠4611686018427387904/\(vkA m x k).1.getD (x.g.es.getD (eV x k) default).t.toNat default=false):VXok m (vkX m x k)/\(vkX m x k).s.1.getD (vkX m x k).u default=false:=by
 have ok:=F.ok
 have v:=F.vi
 have s:=v.sum
 have b:=h.b
 unfold edOk at ok
 refine⟨⟨h.g,⟨v.len,rfl,v.un⟩,?_,?_⟩,h2.2⟩
 ·show(x.g.es.getD (eV x k) default).t.toNat<x.g.n
  rw[F.ia];omega
 ·show(vkA m x k).2.length+unv (vkA m x k).1<=8192
  omega
theorem adj_smallV {m:Nat} {x:VX} (h:VXok m x) (s:Bool) (j:Nat):(adjG x.g s j).length<=1073741824:=by
 have:=adj_len x.g.es x.g.es.length s j
 have:=h.g.m
 show(adj x.g.es x.g.es.length s j).length<=_
 omega
set_option maxRecDepth 100000 in
theorem vis_loop:∀ m:Nat,KeepsLoop (cfgV1 m) (rf0 Tryd.f44 0).2.1.toList (rf0 Tryd.f44 0).2.2.1 (rf0 Tryd.f44 0).2.2.2 (visS m):=Eq.mp (show((∀ m1:Nat,(∀ x2:VX,((VXok m1 x2)->((((LLx.mk x2.g.n (adjG x2.g true) (x2.u:Int)).n<=(1073741824:Nat))/\(∀ j4:Nat,((j4<(LLx.mk x2.g.n (adjG x2.g true) (x2.u:Int)).n)->(((LLx.mk x2.g.n (adjG x2.g true) (x2.u:Int)).f j4).length<=(1073741824:Nat)))))/\((VX.m x2<=(enumL (LLx.mk x2.g.n (adjG x2.g true) (x2.u:Int))).length)/\((True/\(((0=0/\0=0)/\((0=0/\0=0)/\((0=0/\0=0)/\True)))/\(((0=0/\0=0)/\True)/\((RLe 1 1/\(RowsEq [.sl [.int .i64,.int .i64,.int .i64],.sl [.sl [.int .i64]],.sl [.sl [.int .i64]]] 1 (encG x2.g) (encG x2.g)))/\(((0=0/\x2.g.n=x2.g.n)/\True)/\(((RLe x2.g.n x2.g.n)/\(RowsEq (Kd.bool::[]) x2.g.n (encL encBo (Prod.fst x2.s)) (encL encBo (Prod.fst (vkA m1 x2 0)))))/\(((0=0/\((Prod.snd x2.s).length=(Prod.snd (vkA m1 x2 0)).length))/\True)/\(((RLe (Prod.snd (vkA m1 x2 0)).length (Prod.snd x2.s).length)/\(RowsEq [.int .i64] (Prod.snd (vkA m1 x2 0)).length (encL encI (Prod.snd x2.s)) (encL encI (Prod.snd (vkA m1 x2 0)))))/\(True/\((((x2.u:Int)=(x2.u:Int))/\True)/\(((0=0/\x2.g.n=x2.g.n)/\True)/\(((RLe x2.g.n x2.g.n)/\(RowsEq [.sl [.int .i64]] x2.g.n (encLL (adjG x2.g true)) (encLL (adjG x2.g true))))/\True))))))))))))/\((∀ k6:Nat,((k6<=VX.m x2)->((((LLx.mk x2.g.n (adjG x2.g true) (x2.u:Int)).n<=(1073741824:Nat))/\(∀ j8:Nat,((j8<(LLx.mk x2.g.n (adjG x2.g true) (x2.u:Int)).n)->(((LLx.mk x2.g.n (adjG x2.g true) (x2.u:Int)).f j8).length<=(1073741824:Nat)))))/\(((0=0/\0=0)/\((0=0/\0=0)/\True))/\(((((x2.u:Int)=(LLx.mk x2.g.n (adjG x2.g true) (x2.u:Int)).i)/\True)/\(((0=0/\(x2.g.n=(LLx.mk x2.g.n (adjG x2.g true) (x2.u:Int)).n))/\True)/\(((RLe (LLx.mk x2.g.n (adjG x2.g true) (x2.u:Int)).n x2.g.n)/\(RowsEq [.sl [.int .i64]] (LLx.mk x2.g.n (adjG x2.g true) (x2.u:Int)).n (encLL (adjG x2.g true)) (encLL (LLx.mk x2.g.n (adjG x2.g true) (x2.u:Int)).f)))/\True)))/\True)))))/\((∀ k10:Nat,((k10<VX.m x2)->((Nat.beq (lenV (Value.int .i64 ((enumL (LLx.mk x2.g.n (adjG x2.g true) (x2.u:Int))).getD k10 default)::@List.nil Value)) (lenN (Array.toList (Prod.fst (Prod.snd (rf0 Tryd.f44 0)))))=true)/\((0<(1:Nat))/\((((0:Int)<=(enumL (LLx.mk x2.g.n (adjG x2.g true) (x2.u:Int))).getD k10 default)/\((enumL (LLx.mk x2.g.n (adjG x2.g true) (x2.u:Int))).getD k10 default<(x2.g.es.length:Int)))/\((0+Int.toNat ((enumL (LLx.mk x2.g.n (adjG x2.g true) (x2.u:Int))).getD k10 default)<x2.g.es.length)/\((((decide ((x2.g.es.getD (0+Int.toNat ((enumL (LLx.mk x2.g.n (adjG x2.g true) (x2.u:Int))).getD k10 default)) default).d≠(4611686018427387904:Int))=true)->((((0:Int)<=(x2.g.es.getD (0+Int.toNat ((enumL (LLx.mk x2.g.n (adjG x2.g true) (x2.u:Int))).getD k10 default)) default).t)/\((x2.g.es.getD (0+Int.toNat ((enumL (LLx.mk x2.g.n (adjG x2.g true) (x2.u:Int))).getD k10 default)) default).t<(x2.g.n:Int)))/\((0+Int.toNat (x2.g.es.getD (0+Int.toNat ((enumL (LLx.mk x2.g.n (adjG x2.g true) (x2.u:Int))).getD k10 default)) default).t<x2.g.n)/\(∃ x13:Unit,(True/\(((!(Prod.fst (vkA m1 x2 k10)).getD (0+Int.toNat (x2.g.es.getD (0+Int.toNat ((enumL (LLx.mk x2.g.n (adjG x2.g true) (x2.u:Int))).getD k10 default)) default).t) default)=decide ((x2.g.es.getD (eV x2 k10) default).d≠(4611686018427387904:Int)/\(Prod.fst (vkA m1 x2 k10)).getD (Int.toNat (x2.g.es.getD (eV x2 k10) default).t) default=false))/\True))))))/\((decide ((x2.g.es.getD (0+Int.toNat ((enumL (LLx.mk x2.g.n (adjG x2.g true) (x2.u:Int))).getD k10 default)) default).d≠(4611686018427387904:Int))=false)->(∃ x15:Unit,(True/\((false=decide ((x2.g.es.getD (eV x2 k10) default).d≠(4611686018427387904:Int)/\(Prod.fst (vkA m1 x2 k10)).getD (Int.toNat (x2.g.es.getD (eV x2 k10) default).t) default=false))/\True)))))/\(∀ x16:Unit,(True->(((decide ((x2.g.es.getD (eV x2 k10) default).d≠(4611686018427387904:Int)/\(Prod.fst (vkA m1 x2 k10)).getD (Int.toNat (x2.g.es.getD (eV x2 k10) default).t) default=false)=true)->(∃ x19:VX,(((VXok m1 x19)/\((Prod.fst x19.s).getD x19.u default=false))/\(((0=0/\0=0)/\(((x2.g.es.getD (0+Int.toNat ((enumL (LLx.mk x2.g.n (adjG x2.g true) (x2.u:Int))).getD k10 default)) default).t=(x19.u:Int))/\((0=0/\x2.g.n=x19.g.n)/\((0=0/\((Prod.snd (vkA m1 x2 k10)).length=(Prod.snd x19.s).length))/\True))))/\(((RLe 1 1/\(RowsEq [.sl [.int .i64,.int .i64,.int .i64],.sl [.sl [.int .i64]],.sl [.sl [.int .i64]]] 1 (encG x2.g) (encG x19.g)))/\(((RLe x19.g.n x2.g.n)/\(RowsEq (Kd.bool::[]) x19.g.n (encL encBo (Prod.fst (vkA m1 x2 k10))) (encL encBo (Prod.fst x19.s))))/\(((RLe (Prod.snd x19.s).length (Prod.snd (vkA m1 x2 k10)).length)/\(RowsEq [.int .i64] (Prod.snd x19.s).length (encL encI (Prod.snd (vkA m1 x2 k10))) (encL encI (Prod.snd x19.s))))/\True)))/\(True/\(((0=0/\0=0)/\((0=0/\0=0)/\((0=0/\0=0)/\True)))/\(((0=0/\0=0)/\True)/\((RLe 1 1/\(RowsEq [.sl [.int .i64,.int .i64,.int .i64],.sl [.sl [.int .i64]],.sl [.sl [.int .i64]]] 1 (encG x2.g) (encG x2.g)))/\(((0=0/\x2.g.n=x2.g.n)/\True)/\(((RLe x2.g.n x19.g.n)/\(RowsEq (Kd.bool::[]) x2.g.n (encL encBo (Prod.fst (visF x19.g m1 x19.u x19.s))) (encL encBo (Prod.fst (vkA m1 x2 (k10+(1:Nat)))))))/\(((0=0/\((Prod.snd (visF x19.g m1 x19.u x19.s)).length=(Prod.snd (vkA m1 x2 (k10+(1:Nat)))).length))/\True)/\(((RLe (Prod.snd (vkA m1 x2 (k10+(1:Nat)))).length (Prod.snd (visF x19.g m1 x19.u x19.s)).length)/\(RowsEq [.int .i64] (Prod.snd (vkA m1 x2 (k10+(1:Nat)))).length (encL encI (Prod.snd (visF x19.g m1 x19.u x19.s))) (encL encI (Prod.snd (vkA m1 x2 (k10+(1:Nat)))))))/\(True/\((((x2.u:Int)=(x2.u:Int))/\True)/\(((0=0/\x2.g.n=x2.g.n)/\True)/\(((RLe x2.g.n x2.g.n)/\(RowsEq [.sl [.int .i64]] x2.g.n (encLL (adjG x2.g true)) (encLL (adjG x2.g true))))/\True)))))))))))))))))/\((decide ((x2.g.es.getD (eV x2 k10) default).d≠(4611686018427387904:Int)/\(Prod.fst (vkA m1 x2 k10)).getD (Int.toNat (x2.g.es.getD (eV x2 k10) default).t) default=false)=false)->(True/\(((0=0/\0=0)/\((0=0/\0=0)/\((0=0/\0=0)/\True)))/\(((0=0/\0=0)/\True)/\((RLe 1 1/\(RowsEq [.sl [.int .i64,.int .i64,.int .i64],.sl [.sl [.int .i64]],.sl [.sl [.int .i64]]] 1 (encG x2.g) (encG x2.g)))/\(((0=0/\x2.g.n=x2.g.n)/\True)/\(((RLe x2.g.n x2.g.n)/\(RowsEq (Kd.bool::[]) x2.g.n (encL encBo (Prod.fst (vkA m1 x2 k10))) (encL encBo (Prod.fst (vkA m1 x2 (k10+(1:Nat)))))))/\(((0=0/\((Prod.snd (vkA m1 x2 k10)).length=(Prod.snd (vkA m1 x2 (k10+(1:Nat)))).length))/\True)/\(((RLe (Prod.snd (vkA m1 x2 (k10+(1:Nat)))).length (Prod.snd (vkA m1 x2 k10)).length)/\(RowsEq [.int .i64] (Prod.snd (vkA m1 x2 (k10+(1:Nat)))).length (encL encI (Prod.snd (vkA m1 x2 k10))) (encL encI (Prod.snd (vkA m1 x2 (k10+(1:Nat)))))))/\(True/\((((x2.u:Int)=(x2.u:Int))/\True)/\(((0=0/\x2.g.n=x2.g.n)/\True)/\(((RLe x2.g.n x2.g.n)/\(RowsEq [.sl [.int .i64]] x2.g.n (encLL (adjG x2.g true)) (encLL (adjG x2.g true))))/\True)))))))))))))))))))))))/\((VX.m x2=(enumL (LLx.mk x2.g.n (adjG x2.g true) (x2.u:Int))).length)/\(True/\(((RLe x2.g.n x2.g.n)/\(RowsEq (Kd.bool::[]) x2.g.n (encL encBo (Prod.fst (vkA m1 x2 (VX.m x2)))) (encL encBo (Prod.fst (vkA m1 x2 (VX.m x2))))))/\(((0=0/\((Prod.snd (vkA m1 x2 (VX.m x2))).length=(Prod.snd (vkA m1 x2 (VX.m x2))).length))/\True)/\(True/\(((RLe (Prod.snd (vkA m1 x2 (VX.m x2))).length (Prod.snd (vkA m1 x2 (VX.m x2))).length)/\(RowsEq [.int .i64] (Prod.snd (vkA m1 x2 (VX.m x2))).length (encL encI (Prod.snd (vkA m1 x2 (VX.m x2)))) (encL encI (Prod.snd (vkA m1 x2 (VX.m x2))))))/\True)))))))))))))))=(∀ m:Nat,KeepsLoop (cfgV1 m) (rf0 Tryd.f44 0).2.1.toList (rf0 Tryd.f44 0).2.2.1 (rf0 Tryd.f44 0).2.2.2 (visS m)) by kernel_rfl) (fun m1=>fun x2=>fun h3=>⟨⟨(by(have q:=h3.g.n;dsimp only;omega)),
fun j4=>fun h5=>(by exact adj_smallV h3 _ _)⟩,
(by(rw[vx_enum h3,adjG_eq,List.length_map];first|exact Nat.le_refl _|rfl)),
⟨trivial,
⟨⟨rfl,rfl⟩,
⟨rfl,rfl⟩,
⟨rfl,rfl⟩,trivial⟩,
⟨⟨rfl,rfl⟩,trivial⟩,
⟨rl,rr⟩,
⟨⟨rfl,rfl⟩,trivial⟩,
⟨rl,
(by exact rr)⟩,
⟨⟨rfl,
(by rfl)⟩,trivial⟩,
⟨⟨(by exact Nat.le_refl _)⟩,
(by exact rr)⟩,trivial,
⟨rfl,trivial⟩,
⟨⟨rfl,rfl⟩,trivial⟩,
⟨rl,rr⟩,trivial⟩,
fun k6=>fun h7=>⟨⟨(by(have q:=h3.g.n;dsimp only;omega)),
fun j8=>fun h9=>(by exact adj_smallV h3 _ _)⟩,
⟨⟨rfl,rfl⟩,
⟨rfl,rfl⟩,trivial⟩,
⟨⟨rfl,trivial⟩,
⟨⟨rfl,rfl⟩,trivial⟩,
⟨rl,rr⟩,trivial⟩,trivial⟩,
fun k10=>fun h11=>⟨(by rfl),
(by omega),
⟨(by(obtain⟨i,F⟩:=vx_f h3 h11;have q2:=F.ok;have q3:=F.lt;have q5:=F.vi.len;unfold edOk at q2;(try simp only[F.e,nat0]at *);omega)),
(by(obtain⟨i,F⟩:=vx_f h3 h11;have q2:=F.ok;have q3:=F.lt;have q5:=F.vi.len;unfold edOk at q2;(try simp only[F.e,nat0]at *);omega))⟩,
(by(obtain⟨i,F⟩:=vx_f h3 h11;have q2:=F.ok;have q3:=F.lt;have q5:=F.vi.len;unfold edOk at q2;(try simp only[F.e,nat0]at *);omega)),
⟨fun g12=>have h12:=dT g12;⟨⟨(by(obtain⟨i,F⟩:=vx_f h3 h11;have q2:=F.ok;have q3:=F.lt;have q5:=F.vi.len;unfold edOk at q2;(try simp only[F.e,nat0]at *);omega)),
(by(obtain⟨i,F⟩:=vx_f h3 h11;have q2:=F.ok;have q3:=F.lt;have q5:=F.vi.len;unfold edOk at q2;(try simp only[F.e,nat0]at *);omega))⟩,
(by(obtain⟨i,F⟩:=vx_f h3 h11;have q2:=F.ok;have q3:=F.lt;have q5:=F.vi.len;unfold edOk at q2;(try simp only[F.e,nat0]at *);omega)),
(default),trivial,
(by
       (obtain⟨i,F⟩:=vx_f h3 h11;simp only[F.ia,F.e,nat0,Nat.zero_add]at *;rw[Bool.eq_iff_iff,decide_eq_true_iff,Bool.not_eq_true'];exact⟨fun q=>⟨h12,q⟩,fun q=>q.2⟩)),trivial⟩,
fun g14=>have h14:=dF g14;⟨(default),trivial,
(by(try dsimp only at *);(obtain⟨i,F⟩:=vx_f h3 h11;simp only[F.ia,F.e,nat0,Nat.zero_add]at *;exact(decide_eq_false (fun q=>h14 q.1)).symm)),trivial⟩⟩,
fun x16=>fun h17=>⟨fun g18=>have h18:=dT g18;⟨(vkX m1 x2 k10),
⟨(by(try dsimp only at *);(obtain⟨i,F⟩:=vx_f h3 h11;exact(vx_call h3 F h18).1)),
(by(try dsimp only at *);(obtain⟨i,F⟩:=vx_f h3 h11;exact(vx_call h3 F h18).2))⟩,
⟨⟨rfl,rfl⟩,
(by(try dsimp only at *);(obtain⟨i,F⟩:=vx_f h3 h11;have ok:=F.ok;unfold edOk at ok;unfold vkX;simp only[F.ia,F.e,nat0];omega)),
⟨rfl,
(by(try dsimp only at *);rfl)⟩,
⟨rfl,
(by(try dsimp only at *);rfl)⟩,trivial⟩,
⟨⟨rl,
(by(try dsimp only at *);exact rr)⟩,
⟨⟨(by(try dsimp only at *);exact Nat.le_refl _)⟩,
(by(try dsimp only at *);exact rr)⟩,
⟨⟨(by(try dsimp only at *);exact Nat.le_refl _)⟩,
(by(try dsimp only at *);exact rr)⟩,trivial⟩,trivial,
⟨⟨rfl,rfl⟩,
⟨rfl,rfl⟩,
⟨rfl,rfl⟩,trivial⟩,
⟨⟨rfl,rfl⟩,trivial⟩,
⟨rl,rr⟩,
⟨⟨rfl,rfl⟩,trivial⟩,
⟨⟨(by(try dsimp only at *);exact Nat.le_refl _)⟩,
(by(try dsimp only at *);(obtain⟨i,F⟩:=vx_f h3 h11;have e:=vx_yes F h18;first|exact congrArg (fun s:VSt=>s.2.length) e|exact Nat.le_of_eq (congrArg (fun s:VSt=>s.2.length) e).symm|exact rowsE (congrArg Prod.fst e)|exact rowsE (congrArg Prod.snd e)))⟩,
⟨⟨rfl,
(by(try dsimp only at *);(obtain⟨i,F⟩:=vx_f h3 h11;have e:=vx_yes F h18;first|exact congrArg (fun s:VSt=>s.2.length) e|exact Nat.le_of_eq (congrArg (fun s:VSt=>s.2.length) e).symm|exact rowsE (congrArg Prod.fst e)|exact rowsE (congrArg Prod.snd e)))⟩,trivial⟩,
⟨⟨(by(try dsimp only at *);(obtain⟨i,F⟩:=vx_f h3 h11;have e:=vx_yes F h18;first|exact congrArg (fun s:VSt=>s.2.length) e|exact Nat.le_of_eq (congrArg (fun s:VSt=>s.2.length) e).symm|exact rowsE (congrArg Prod.fst e)|exact rowsE (congrArg Prod.snd e)))⟩,
(by(try dsimp only at *);(obtain⟨i,F⟩:=vx_f h3 h11;have e:=vx_yes F h18;first|exact congrArg (fun s:VSt=>s.2.length) e|exact Nat.le_of_eq (congrArg (fun s:VSt=>s.2.length) e).symm|exact rowsE (congrArg Prod.fst e)|exact rowsE (congrArg Prod.snd e)))⟩,trivial,
⟨rfl,trivial⟩,
⟨⟨rfl,rfl⟩,trivial⟩,
⟨rl,rr⟩,trivial⟩,
fun g20=>have h20:=dF g20;⟨trivial,
⟨⟨rfl,rfl⟩,
⟨rfl,rfl⟩,
⟨rfl,rfl⟩,trivial⟩,
⟨⟨rfl,rfl⟩,trivial⟩,
⟨rl,rr⟩,
⟨⟨rfl,rfl⟩,trivial⟩,
⟨rl,
(by(try dsimp only at *);(obtain⟨i,F⟩:=vx_f h3 h11;((have e:=(vx_no F h20);first|(rw[e];done)|(rw[e];exact Nat.le_refl _)|(rw[e];exact rr)|(rw[e];exact push_rowsI)|(rw[e,List.length_append];rfl)|(rw[e,List.length_append];exact Nat.le_refl _)|(rw[e];dsimp only;rw[List.length_append];rfl)|(rw[e];dsimp only;rw[List.length_append];exact Nat.le_refl _)))))⟩,
⟨⟨rfl,
(by(try dsimp only at *);(obtain⟨i,F⟩:=vx_f h3 h11;((have e:=(vx_no F h20);first|(rw[e];done)|(rw[e];exact Nat.le_refl _)|(rw[e];exact rr)|(rw[e];exact push_rowsI)|(rw[e,List.length_append];rfl)|(rw[e,List.length_append];exact Nat.le_refl _)|(rw[e];dsimp only;rw[List.length_append];rfl)|(rw[e];dsimp only;rw[List.length_append];exact Nat.le_refl _)))))⟩,trivial⟩,
⟨⟨(by(try dsimp only at *);(obtain⟨i,F⟩:=vx_f h3 h11;((have e:=(vx_no F h20);first|(rw[e];done)|(rw[e];exact Nat.le_refl _)|(rw[e];exact rr)|(rw[e];exact push_rowsI)|(rw[e,List.length_append];rfl)|(rw[e,List.length_append];exact Nat.le_refl _)|(rw[e];dsimp only;rw[List.length_append];rfl)|(rw[e];dsimp only;rw[List.length_append];exact Nat.le_refl _)))))⟩,
(by(try dsimp only at *);(obtain⟨i,F⟩:=vx_f h3 h11;((have e:=(vx_no F h20);first|(rw[e];done)|(rw[e];exact Nat.le_refl _)|(rw[e];exact rr)|(rw[e];exact push_rowsI)|(rw[e,List.length_append];rfl)|(rw[e,List.length_append];exact Nat.le_refl _)|(rw[e];dsimp only;rw[List.length_append];rfl)|(rw[e];dsimp only;rw[List.length_append];exact Nat.le_refl _)))))⟩,trivial,
⟨rfl,trivial⟩,
⟨⟨rfl,rfl⟩,trivial⟩,
⟨rl,rr⟩,trivial⟩⟩⟩,
(by(try dsimp only at *);(rw[vx_enum h3,adjG_eq,List.length_map];first|exact Nat.le_refl _|rfl)),trivial,
⟨rl,rr⟩,
⟨⟨rfl,rfl⟩,trivial⟩,trivial,
⟨rl,rr⟩,trivial⟩)
theorem visLoop_good {m:Nat} (h:Good Tryd.prog 44 (visC m)/\FnOk Tryd.prog 44):LoopGood Tryd.prog Tryd.f44.ntmps (rf0 Tryd.f44 0) (visS m).lc:=loop_good tok (ConL.ok (.cons (ConL.one h) .nil)) ⟨rfl,rfl,rfl⟩ enumIt_good (by decide+kernel) (vis_loop m)
def cfgV2 (m:Nat):Cfg:=⟨T,[],[(17,.one (outC true))],noInv,30,{ lps:=[(17,(visS m).lc)]}⟩
theorem conV2 (m:Nat):ConOk Tryd.prog (cfgV2 m):=ConL.ok (.cons (ConL.one out_good) .nil)
def viX (x:VX):VX:=⟨x.g,(x.s.1.set x.u true,x.s.2),x.u⟩
theorem vi_ok {m:Nat} {x:VX} (h:VXok (m+1) x/\x.s.1.getD x.u default=false):VXok m (viX x):=by
 have q:=unv_set (l:=x.s.1) (u:=x.u) (by rw[h.1.s.len];exact h.1.u) h.2
 have u:=h.1.s.un
 have b:=h.1.b
 refine⟨h.1.g,⟨?_,rfl,?_⟩,h.1.u,?_⟩
 ·show(x.s.1.set x.u true).length=_
  rw[List.length_set];exact h.1.s.len
 ·show unv (x.s.1.set x.u true)<=m
  omega
 ·show x.s.2.length+unv (x.s.1.set x.u true)<=8192
  omega
theorem vi_end (m:Nat) (x:VX):visF x.g (m+1) x.u x.s=((vkA m (viX x) (viX x).m).1,(vkA m (viX x) (viX x).m).2++[(x.u:Int)]):=by
 rw[visF_succ]
 have e:(adjN x.g true x.u).foldl (stepV x.g m) (x.s.1.set x.u true,x.s.2)=vkA m (viX x) (viX x).m:=by
  unfold vkA VX.m viX;rw[List.take_length]
 rw[e]
theorem vi_len {m:Nat} {x:VX} (h:VXok (m+1) x/\x.s.1.getD x.u default=false):(vkA m (viX x) (viX x).m).2.length<=8192:=by
 have v:=(vk_VI (vi_ok h) (viX x).m).sum
 have b:=(vi_ok h).b
 omega
set_option maxRecDepth 100000 in
theorem vis_keeps:∀ m:Nat,Keeps (cfgV2 m) Tryd.f44 (visC (m+1)) noIv:=Eq.mp (show((∀ m1:Nat,(∀ x2:VX,((VXok (m1+(1:Nat)) x2/\(Prod.fst x2.s).getD x2.u default=false)->((((0:Int)<=(x2.u:Int))/\((x2.u:Int)<(x2.g.n:Int)))/\(((0+Int.toNat (x2.u:Int)<x2.g.n)/\(True/\True))/\(∃ x4:GIx,(True/\(((0=0/\0=0)/\(((x2.u:Int)=x4.i)/\True))/\(((RLe 1 1/\(RowsEq [.sl [.int .i64,.int .i64,.int .i64],.sl [.sl [.int .i64]],.sl [.sl [.int .i64]]] 1 (encG x2.g) (encG x4.g)))/\True)/\(∃ x5:LS.X (visS m1),((VXok m1 x5)/\(((0=0/\0=0)/\((0=0/\0=0)/\((0=0/\0=0)/\(((0=0/\0=0)/\((0=0/\0=0)/\True))/\True))))/\((((0=0/\0=0)/\True)/\((RLe 1 1/\(RowsEq [.sl [.int .i64,.int .i64,.int .i64],.sl [.sl [.int .i64]],.sl [.sl [.int .i64]]] 1 (encG x2.g) (encG (VX.g x5))))/\(((0=0/\(x2.g.n=(VX.g x5).n))/\True)/\(((RLe (VX.g x5).n x2.g.n)/\(RowsEq (Kd.bool::[]) (VX.g x5).n (setRow (encL encBo (Prod.fst x2.s)) (0+Int.toNat (x2.u:Int)) 0 (D.b true::@List.nil D)) (encL encBo (Prod.fst (VX.s x5)))))/\(((0=0/\((Prod.snd x2.s).length=(Prod.snd (VX.s x5)).length))/\True)/\(((RLe (Prod.snd (VX.s x5)).length (Prod.snd x2.s).length)/\(RowsEq [.int .i64] (Prod.snd (VX.s x5)).length (encL encI (Prod.snd x2.s)) (encL encI (Prod.snd (VX.s x5)))))/\(((x4.i=(↑(VX.u x5):Int))/\True)/\(((0=0/\(x4.g.n=(VX.g x5).n))/\True)/\(((RLe (VX.g x5).n x4.g.n)/\(RowsEq [.sl [.int .i64]] (VX.g x5).n (encLL (adjG x4.g true)) (encLL (adjG (VX.g x5) true))))/\True)))))))))/\(((True/\True)/\True)/\((0=0/\(((Prod.snd (vkA m1 x5 (VX.m x5))).length<=(Prod.snd (vkA m1 x5 (VX.m x5))).length)/\(((1:Nat)<=(1:Nat))/\((Prod.snd (vkA m1 x5 (VX.m x5))).length+(1:Nat)<=(1073741824:Nat)))))/\((0=0/\((Prod.snd (vkA m1 x5 (VX.m x5))).length+(1:Nat)=(Prod.snd (visF x2.g (m1+(1:Nat)) x2.u x2.s)).length))/\(((RLe x2.g.n (VX.g x5).n)/\(RowsEq (Kd.bool::[]) x2.g.n (encL encBo (Prod.fst (vkA m1 x5 (VX.m x5)))) (encL encBo (Prod.fst (visF x2.g (m1+(1:Nat)) x2.u x2.s)))))/\(True/\(((RLe (Prod.snd (visF x2.g (m1+(1:Nat)) x2.u x2.s)).length ((Prod.snd (vkA m1 x5 (VX.m x5))).length+(1:Nat)))/\(RowsEq [.int .i64] (Prod.snd (visF x2.g (m1+(1:Nat)) x2.u x2.s)).length (appRows (Prod.snd (vkA m1 x5 (VX.m x5))).length (encL encI (Prod.snd (vkA m1 x5 (VX.m x5)))) 0 (litRows ((D.i (x2.u:Int)::@List.nil D)::@List.nil (List D)))) (encL encI (Prod.snd (visF x2.g (m1+(1:Nat)) x2.u x2.s)))))/\True))))))))))))))))))))=(∀ m:Nat,Keeps (cfgV2 m) Tryd.f44 (visC (m+1)) noIv) by kernel_rfl) (fun m1=>fun x2=>fun h3=>⟨⟨(by omega),
(by(have:=h3.1.u;omega))⟩,
⟨(by(have:=h3.1.u;omega)),trivial,trivial⟩,
({ g:=VX.g x2,i:=(↑(VX.u x2):Int):GIx }),trivial,
⟨⟨rfl,rfl⟩,rfl,trivial⟩,
⟨⟨rl,rr⟩,trivial⟩,
(viX x2),
(by(try dsimp only at *);exact vi_ok h3),
⟨⟨rfl,rfl⟩,
⟨rfl,rfl⟩,
⟨rfl,rfl⟩,
⟨⟨rfl,rfl⟩,
⟨rfl,rfl⟩,trivial⟩,trivial⟩,
⟨⟨⟨rfl,rfl⟩,trivial⟩,
⟨rl,
(by(try dsimp only at *);exact rr)⟩,
⟨⟨rfl,
(by(try dsimp only at *);rfl)⟩,trivial⟩,
⟨⟨(by(try dsimp only at *);exact Nat.le_refl _)⟩,
(by(try dsimp only at *);(rw[nat0];exact rows_setB (by rw[h3.1.s.len];exact h3.1.u)))⟩,
⟨⟨rfl,
(by(try dsimp only at *);rfl)⟩,trivial⟩,
⟨⟨(by(try dsimp only at *);exact Nat.le_refl _)⟩,
(by(try dsimp only at *);exact rr)⟩,
⟨(by(try dsimp only at *);rfl),trivial⟩,
⟨⟨rfl,
(by(try dsimp only at *);rfl)⟩,trivial⟩,
⟨⟨(by(try dsimp only at *);exact Nat.le_refl _)⟩,
(by(try dsimp only at *);exact rr)⟩,trivial⟩,
⟨⟨trivial,trivial⟩,trivial⟩,
⟨rfl,
(by(try dsimp only at *);omega),
(by(try dsimp only at *);omega),
(by(try dsimp only at *);(have:=vi_len h3;omega))⟩,
⟨rfl,
(by(try dsimp only at *);(rw[vi_end];dsimp only;rw[List.length_append];rfl))⟩,
⟨⟨(by(try dsimp only at *);exact Nat.le_refl _)⟩,
(by(try dsimp only at *);(rw[vi_end];exact rr))⟩,trivial,
⟨⟨(by(try dsimp only at *);(rw[vi_end];dsimp only;rw[List.length_append];exact Nat.le_refl _))⟩,
(by(try dsimp only at *);(rw[vi_end];exact push_rowsI))⟩,trivial⟩)
theorem vis_fnok:FnOk Tryd.prog 44:=⟨Tryd.f44,rfl,by decide+kernel,rfl⟩
theorem vis_good (m:Nat):Good Tryd.prog 44 (visC m)/\FnOk Tryd.prog 44:=by
 induction m with
 |zero=>exact⟨fun x h=>by
   have q:=unv_pos (l:=x.s.1) (u:=x.u) (by rw[h.1.s.len];exact h.1.u) h.2
   have:=h.1.s.un
   omega,vis_fnok⟩
 |succ m ih=>exact good_ofX tok (conV2 m) (fn:=Tryd.f44) rfl (by decide+kernel) (fun _=>rfl) (vis_keeps m) (fun g hg=>by cases hg) (one_loop rfl (visLoop_good ih))
end Go.Sym