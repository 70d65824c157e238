import Derived.Test.YtlldhkhmhgcpaaaDoorI1
import Derived.Test.YtlldhkhmhgcpaaaDoorXD
import Derived.Deep.RegionHeld3
import Derived.Deep.AppendLies
import Derived.Deep.Cut
namespace Go.Sym
set_option linter.unusedVariables false
set_option linter.unusedSimpArgs false
open Go.Proofs
set_option maxRecDepth 100000
def eachC:CT where
 X:=List Nat
 pre:=WOk
 args:=fun ws=>[setV ws 100000]
 g0:=fun ws=>setH ws .bor 100000
 res:=fun _=>.fn 65 [.p 1 0 0]
 g1:=fun ws=>[(1,.one .own [.q 100000 (szW ws)])]
set_option maxRecDepth 100000 in
theorem each_keeps:Keeps cfgN0 Tryd.f50 eachC noIv:=Eq.mp (show((∀ x1:List Nat,((WOk x1)->(((0=0/\0=0)/\True)/\(((szW x1=szW x1)/\True)/\True)))))=(Keeps cfgN0 Tryd.f50 eachC noIv) by kernel_rfl) (fun x1=>fun h2=>⟨⟨⟨rfl,rfl⟩,trivial⟩,
⟨rfl,trivial⟩,trivial⟩)
theorem eachC_good:Good Tryd.prog 50 eachC/\FnOk Tryd.prog 50:=good_of tok conN0 (fn:=Tryd.f50) rfl (by decide+kernel) (fun _=>rfl) each_keeps
def listS:LS where
 it:=eachIt
 g:=65
 X:=List Nat
 pre:=WOk
 slots:=[3]
 vals:=fun _=>[.p 100000 0 0]
 caps:=fun _=>[.p 100001 0 0]
 g0:=fun ws=>[(100000,.one .own [.sl 100002 0 0]),(100002,.rows .own k1 0 (encL encI [])),(100001,.one .bor [.q 100003 (szW ws)]),(100003,.rows .bor kW (szW ws) (encL encW ws))]
 g1:=fun ws=>[(100000,.one .own [.sl 1 0 (elemsW ws).length]),(100002,.dead),(1,.rows .own k1 (elemsW ws).length (encL encI (elemsZ ws)))]
 hp:=fun ws k=>[(100000,.one .own [.sl 5 0 k]),(5,.rows .own k1 k (encL encI ((elemsZ ws).take k))),(100002,.dead),(100001,.one .bor [.q 100003 (szW ws)]),(100003,.rows .bor kW (szW ws) (encL encW ws))]
 y:=fun ws=>ws
 m:=fun ws=>(elemsW ws).length
def rf0 (fn:Func) (i:Nat):Operand × Array Tmp × Code × Code:=(rfsF fn).getD i (.tmp 0,#[],.skip,.skip)
def cfgL:Cfg:=⟨T,[],[],noInv,16,{ scp:=false }⟩
theorem atW_eq {ws:List Nat} {k:Nat} (h:k<(elemsW ws).length):atW ws k=(elemsZ ws).getD k default:=by
 unfold atW elemsZ
 simp[List.getD_eq_getElem?_getD,h]
theorem take_push {xs:List Int} {k:Nat} (h:k<xs.length):RowsEq k1 (k+1) (appRows k (encL encI (xs.take k)) 0 (litRows [[.i (xs.getD k default)]])) (encL encI (xs.take (k+1))):=by
 rw[take_succ_getD (d:=default) h]
 exact rowsEq_push (by rw[List.length_take];omega) (by rw[List.length_take];omega) (by simp only[rowEq,Kd.eqv,k1];exact⟨rfl,trivial⟩)
set_option maxRecDepth 100000 in
theorem list_loop:KeepsLoop cfgL (rf0 Tryd.f32 0).2.1.toList (rf0 Tryd.f32 0).2.2.1 (rf0 Tryd.f32 0).2.2.2 listS:=Eq.mp (show((∀ x1:List Nat,((WOk x1)->((WOk x1)/\(((elemsW x1).length<=(elemsW x1).length)/\((True/\(((0=0/\0=0)/\True)/\(((0=0/\0=0)/\True)/\((RLe 0 0/\(RI 0 (@List.nil Int) (List.take 0 (elemsZ x1))))/\(True/\(((szW x1=szW x1)/\True)/\(((RLe (szW x1) (szW x1))/\(RowsEq [.int .u64] (szW x1) (encL encW x1) (encL encW x1)))/\True)))))))/\((∀ k3:Nat,((k3<=(elemsW x1).length)->((WOk x1)/\(((0=0/\0=0)/\True)/\((((szW x1=szW x1)/\True)/\(((RLe (szW x1) (szW x1))/\(RowsEq [.int .u64] (szW x1) (encL encW x1) (encL encW x1)))/\True))/\True)))))/\((∀ k5:Nat,((k5<(elemsW x1).length)->((Nat.beq (lenV (Value.int .i64 (atW x1 k5)::@List.nil Value)) (lenN (Array.toList (Prod.fst (Prod.snd (rf0 Tryd.f32 0)))))=true)/\(((True/\True)/\True)/\((0=0/\((k5<=k5)/\(((1:Nat)<=(1:Nat))/\(k5+(1:Nat)<=(1073741824:Nat)))))/\(True/\(((0=0/\0=0)/\True)/\(((0=0/\(k5+(1:Nat)=k5+(1:Nat)))/\True)/\(((RLe (k5+(1:Nat)) (k5+(1:Nat)))/\(RowsEq [.int .i64] (k5+(1:Nat)) (appRows k5 (encL encI (List.take k5 (elemsZ x1))) 0 (litRows ((D.i (atW x1 k5)::@List.nil D)::@List.nil (List D)))) (encL encI (List.take (k5+(1:Nat)) (elemsZ x1)))))/\(True/\(((szW x1=szW x1)/\True)/\(((RLe (szW x1) (szW x1))/\(RowsEq [.int .u64] (szW x1) (encL encW x1) (encL encW x1)))/\True))))))))))))/\(((elemsW x1).length=(elemsW x1).length)/\(True/\(((0=0/\((elemsW x1).length=(elemsW x1).length))/\True)/\(True/\(((RLe (elemsW x1).length (elemsW x1).length)/\(RowsEq [.int .i64] (elemsW x1).length (encL encI (List.take (elemsW x1).length (elemsZ x1))) (encL encI (elemsZ x1))))/\True)))))))))))))=(KeepsLoop cfgL (rf0 Tryd.f32 0).2.1.toList (rf0 Tryd.f32 0).2.2.1 (rf0 Tryd.f32 0).2.2.2 listS) by kernel_rfl) (fun x1=>fun h2=>⟨(by omega),
(by omega),
⟨trivial,
⟨⟨rfl,rfl⟩,trivial⟩,
⟨⟨rfl,rfl⟩,trivial⟩,
⟨rl,
(by exact rr)⟩,trivial,
⟨rfl,trivial⟩,
⟨rl,rr⟩,trivial⟩,
fun k3=>fun h4=>⟨(by omega),
⟨⟨rfl,rfl⟩,trivial⟩,
⟨⟨rfl,trivial⟩,
⟨rl,rr⟩,trivial⟩,trivial⟩,
fun k5 => fun h6 => ⟨(by
       rfl),
⟨⟨trivial,trivial⟩,trivial⟩,
⟨rfl,
(by omega),
(by omega),
(by
       (have:=elemsW_len x1;omega))⟩,trivial,
⟨⟨rfl,rfl⟩,trivial⟩,
⟨⟨rfl,rfl⟩,trivial⟩,
⟨rl,
(by
       (rw[atW_eq h6];exact take_push (by rw[elemsZ_len];exact h6)))⟩,trivial,
⟨rfl,trivial⟩,
⟨rl,rr⟩,trivial⟩,rfl,trivial,
⟨⟨rfl,rfl⟩,trivial⟩,trivial,
⟨rl,
(by
       (rw[<- elemsZ_len,List.take_length];exact rr))⟩,trivial⟩)
theorem listLoop_good:LoopGood Tryd.prog Tryd.f32.ntmps (rf0 Tryd.f32 0) listS.lc:=loop_good tok (ConL.ok .nil) ⟨rfl,rfl,rfl⟩ each_good (by decide+kernel) list_loop
def cfgLi:Cfg:=⟨T,[],[(49,.one lenC),(50,.one eachC)],noInv,16,{ lps:=[(10,listS.lc)]}⟩
def listC:CT where
 X:=List Nat
 pre:=WOk
 args:=fun ws=>[setV ws 100000]
 g0:=fun ws=>setH ws .bor 100000
 res:=fun ws=>.sl 1 0 (elemsW ws).length
 g1:=fun ws=>[(1,.rows .own k1 (elemsW ws).length (encL encI (elemsZ ws)))]
theorem rowsEq0 {ks:List Kd} {f g:Nat->Nat->D}:RowsEq ks 0 f g:=⟨fun r hr=>absurd hr (Nat.not_lt_zero r)⟩
set_option maxRecDepth 100000 in
theorem list_keeps:Keeps cfgLi Tryd.f32 listC noIv:=Eq.mp (show((∀ x1:List Nat,((WOk x1)->(∃ x3:List Nat,((WOk x3)/\((((szW x1=szW x3)/\True)/\True)/\((((RLe (szW x3) (szW x1))/\(RowsEq [.int .u64] (szW x3) (encL encW x1) (encL encW x3)))/\True)/\((((0:Int)<=(0:Int))/\(((0:Int)<=lenW x3)/\(lenW x3<=(↑(1073741824:Nat):Int))))/\(∃ x4:List Nat,((WOk x4)/\((((szW x1=szW x4)/\True)/\True)/\((((RLe (szW x4) (szW x1))/\(RowsEq [.int .u64] (szW x4) (encL encW x1) (encL encW x4)))/\True)/\(∃ x5:List Nat,((WOk x5)/\(((0=0/\0=0)/\(((0=0/\0=0)/\True)/\True))/\((((0=0/\(Int.toNat (0:Int)=(0:Nat)))/\True)/\(((RLe 0 (Int.toNat (0:Int)))/\(RowsEq [.int .i64] 0 (fun(x j:Nat)=>zRow [.int .i64] j) (encL encI (@List.nil Int))))/\(((szW x4=szW x5)/\True)/\(((RLe (szW x5) (szW x1))/\(RowsEq [.int .u64] (szW x5) (encL encW x1) (encL encW x5)))/\True))))/\((0=0/\((elemsW x5).length=(elemsW x1).length))/\(((RLe (elemsW x1).length (elemsW x5).length)/\(RowsEq [.int .i64] (elemsW x1).length (encL encI (elemsZ x5)) (encL encI (elemsZ x1))))/\True))))))))))))))))))=(Keeps cfgLi Tryd.f32 listC noIv) by kernel_rfl) (fun x1=>fun h2=>⟨(x1),
(by(try dsimp only at *);omega),
⟨⟨rfl,trivial⟩,trivial⟩,
⟨⟨rl,rr⟩,trivial⟩,
⟨(by(try dsimp only at *);omega),
(by(try dsimp only at *);(have:=lenW_rng x1;omega)),
(by(try dsimp only at *);(have:=lenW_rng x1;omega))⟩,
(x1),
(by(try dsimp only at *);omega),
⟨⟨rfl,trivial⟩,trivial⟩,
⟨⟨rl,rr⟩,trivial⟩,
(x1),
(by(try dsimp only at *);omega),
⟨⟨rfl,rfl⟩,
⟨⟨rfl,rfl⟩,trivial⟩,trivial⟩,
⟨⟨⟨rfl,
(by(try dsimp only at *);omega)⟩,trivial⟩,
⟨⟨(by(try dsimp only at *);omega)⟩,
(by(try dsimp only at *);exact rowsEq0)⟩,
⟨rfl,trivial⟩,
⟨rl,rr⟩,trivial⟩,
⟨rfl,rfl⟩,
⟨rl,rr⟩,trivial⟩)
theorem conLi:ConOk Tryd.prog cfgLi:=ConL.ok (.cons (ConL.one len_good) (.cons (ConL.one eachC_good) .nil))
theorem one_loop {P:Program} [Glob] {fn:Func} {p:Nat} {lc:LC} {q:Operand × Array Tmp × Code × Code} (h0:rfsF fn=[q]) (hg:LoopGood P fn.ntmps q lc):
  ∀ q∈rfsF fn,∀ lc',lget [(p,lc)] (ps0 q.2.1)=some lc'->LoopGood P fn.ntmps q lc':=by
 intro q' hq lc' hl
 rw[h0]at hq
 obtain rfl:=List.mem_singleton.1 hq
 unfold lget at hl
 split at hl
 ·cases hl;exact hg
 ·cases hl
theorem list_good:Good Tryd.prog 32 listC/\FnOk Tryd.prog 32:=good_ofX tok conLi (fn:=Tryd.f32) rfl (by decide+kernel) (fun _=>rfl) list_keeps (fun g hg=>by cases hg) (one_loop rfl listLoop_good)
end Go.Sym
namespace Go.Sym
set_option linter.unusedVariables false
open Go.Proofs Go.RowKit
set_option maxRecDepth 100000
abbrev ints (l:List Int):List Value:=l.map (Value.int .i64)
def updF {α:Type} (f:Bool->Nat->α) (s:Bool) (x:Nat) (v:α):Bool->Nat->α:=fun s' j=>if s'=s/\j=x then v else f s' j
structure BInv (B2 eT:Nat) (w:World) (bg:Nat) (blk:Bool->Nat) (ev:Value) (n:Nat) (c:Bool->Nat->Value) (L:Bool->Nat->List Int):Prop where
 g:∃ T,w.heap[bg]? =some (.cells #[ev,.slice (some ⟨blk true,0,none⟩) n n,.slice (some ⟨blk false,0,none⟩) n n] T (0,0))
 r:∀ s,∃ arr T,w.heap[blk s]? =some (.cells arr T (0,0))/\arr.size=n/\∀ j,j<n->arr[j]? =some (c s j)
 own:∀ s j,j<n->w.ownsRow B2 eT 1 (c s j) (L s j).length (ints (L s j))
 ap:∀ s j s' j' g,j<n->j'<n->(c s j).ownBlock=some g->(c s' j').ownBlock=some g->s=s'/\j=j'
 gt:bg<B2
 bt:∀ s,blk s<B2
 gb:∀ s,bg≠blk s
 bb:blk true≠blk false
 sz:B2<=w.heap.size
theorem setCell_other {w:World} {a:Addr} {v:Value} {k:Nat} (h:k≠a.block):(w.setCell a v).heap[k]? =w.heap[k]? :=by
 simp[World.setCell,Array.getElem?_modify,Ne.symm h]
theorem setCell_same {w:World} {b o:Nat} {v:Value} {arr:Array Value} {T:TypeId} {fz:Nat × Nat} (h:w.heap[b]? =some (.cells arr T fz)):
  (w.setCell ⟨b,o,none⟩ v).heap[b]? =some (.cells (arr.setIfInBounds o v) T fz):=by
 simp[World.setCell,Array.getElem?_modify,h]
theorem ownsRow_of_block {w w':World} {B e sz n:Nat} {v:Value} {xs:List Value} (h:w.ownsRow B e sz v n xs) (hb:∀ g,v.ownBlock=some g->w'.heap[g]? =w.heap[g]?):w'.ownsRow B e sz v n xs:=by
 obtain⟨h1,h2⟩:=h
 refine⟨h1,?_⟩
 rcases h2 with h2|⟨g,cap,cur,q1,q2,q3,q4⟩
 ·exact .inl h2
 ·exact .inr ⟨g,cap,cur,q1,q2,(hb g (by rw[q1];rfl)).trans q3,q4⟩
theorem ownBlock_lt {w:World} {B e sz n:Nat} {v:Value} {xs:List Value} (h:w.ownsRow B e sz v n xs) {g:Nat} (hg:v.ownBlock=some g):B<=g/\g<w.heap.size:=by
 obtain⟨h1,h2⟩:=h
 rcases h2 with⟨rfl,_⟩|⟨g',cap,cur,rfl,q2,q3,q4⟩
 ·simp[Value.ownBlock]at hg
 ·simp[Value.ownBlock]at hg
  subst hg
  exact⟨q2,(Array.getElem?_eq_some_iff.1 q3).1⟩
theorem BInv.more {B2 eT:Nat} {w w':World} {bg:Nat} {blk:Bool->Nat} {ev:Value} {n:Nat} {c:Bool->Nat->Value} {L:Bool->Nat->List Int} (I:BInv B2 eT w bg blk ev n c L)
  (hs:w.heap.size<=w'.heap.size) (hb:∀ k,k<w.heap.size->w'.heap[k]? =w.heap[k]?):BInv B2 eT w' bg blk ev n c L:=by
 have hsz:=I.sz
 refine⟨?_,fun s=>?_,fun s j hj=>?_,I.ap,I.gt,I.bt,I.gb,I.bb,by omega⟩
 ·obtain⟨T,h⟩:=I.g
  exact⟨T,(hb _ (by have:=I.gt;omega)).trans h⟩
 ·obtain⟨arr,T,h,h2⟩:=I.r s
  exact⟨arr,T,(hb _ (by have:=I.bt s;omega)).trans h,h2⟩
 ·exact ownsRow_of_block (I.own s j hj) fun g hg=>hb g (ownBlock_lt (I.own s j hj) hg).2
theorem BInv.push {B2 eT:Nat} {w w1 w2:World} {bg:Nat} {blk:Bool->Nat} {ev:Value} {n:Nat} {c:Bool->Nat->Value} {L:Bool->Nat->List Int} (I:BInv B2 eT w bg blk ev n c L)
  (hs:w.heap.size<=w1.heap.size) (hb:∀ k,k<w.heap.size->w1.heap[k]? =w.heap[k]?) {s:Bool} {x:Nat} (hx:x<n) {i:Int} {v:Value}
  (hown:w2.ownsRow B2 eT 1 v ((L s x).length+1) (ints (L s x)++[.int .i64 i])) (hg:w1.grownBy w2 (c s x).ownBlock) {gg:Nat} (hv:v.ownBlock=some gg) (hat:(c s x).ownBlock=some gg∨gg=w1.heap.size):
  BInv B2 eT (w2.setCell ⟨blk s,x,none⟩ v) bg blk ev n (updF c s x v) (updF L s x (L s x++[i])):=by
 have hsz:=I.sz
 have hgt:=I.gt
 have hbt:=I.bt
 have hgs:=hg.size
 -- blocks below B2 stand as they stood, but for the store
 have low:∀ k,k<B2->w2.heap[k]? =w.heap[k]? :=by
  intro k hk
  rw[hg.block k (by omega) (fun e=>by have:=(ownBlock_lt (I.own s x hx) e.symm).1;omega)]
  exact hb k (by omega)
 have own2:∀ s' j,j<n->¬ (s'=s/\j=x)->w2.ownsRow B2 eT 1 (c s' j) (L s' j).length (ints (L s' j)):=by
  intro s' j hj hne
  refine ownsRow_of_block (I.own s' j hj) fun g hgb=>?_
  have hlt:=(ownBlock_lt (I.own s' j hj) hgb).2
  rw[hg.block g (by omega) (fun e=>hne (I.ap s' j s x g hj hx hgb e.symm))]
  exact hb g hlt
 have hlow2:∀ k,k≠blk s->(w2.setCell ⟨blk s,x,none⟩ v).heap[k]? =w2.heap[k]? :=fun k hk=>setCell_other hk
 refine⟨?_,fun s'=>?_,fun s' j hj=>?_,?_,hgt,hbt,I.gb,I.bb,?_⟩
 ·obtain⟨T,h⟩:=I.g
  exact⟨T,by rw[hlow2 _ (I.gb s),low _ hgt];exact h⟩
 ·obtain⟨arr,T,h,h2,h3⟩:=I.r s'
  by_cases e:s'=s
  ·subst e
   refine⟨arr.setIfInBounds x v,T,setCell_same (by rw[low _ (hbt s')];exact h),by simpa using h2,fun j hj=>?_⟩
   rw[Array.getElem?_setIfInBounds]
   unfold updF
   by_cases ej:x=j
   ·subst ej;simp[h2,hx]
   ·rw[if_neg ej,if_neg (fun q=>ej q.2.symm)];exact h3 j hj
  ·refine⟨arr,T,?_,h2,fun j hj=>?_⟩
   ·rw[hlow2 _ (by
     intro e2
     cases s <;>cases s' <;>first|exact e rfl|exact I.bb e2|exact I.bb e2.symm),low _ (hbt s')]
    exact h
   ·unfold updF;rw[if_neg (fun q=>e q.1)];exact h3 j hj
 ·have tail:∀ {v':Value} {m:Nat} {xs:List Value},w2.ownsRow B2 eT 1 v' m xs->(w2.setCell ⟨blk s,x,none⟩ v).ownsRow B2 eT 1 v' m xs:=fun h=>
   ownsRow_of_block h fun g hgb=>hlow2 g (by have:=(ownBlock_lt h hgb).1;have:=hbt s;omega)
  unfold updF
  by_cases e:s'=s/\j=x
  ·rw[if_pos e,if_pos e]
   refine tail ?_
   have e1:(L s x++[i]).length=(L s x).length+1:=by simp
   have e2:ints (L s x++[i])=ints (L s x)++[.int .i64 i]:=by simp[ints]
   rw[e1,e2];exact hown
  ·rw[if_neg e,if_neg e]
   exact tail (own2 s' j hj e)
 ·intro s1 j1 s2 j2 g h1 h2 e1 e2
  unfold updF at e1 e2
  have key:∀ s' j',j'<n->¬ (s'=s/\j'=x)->(c s' j').ownBlock=some g->v.ownBlock=some g->False:=by
   intro s' j' hj' hne h3 h4
   rw[hv]at h4;cases h4
   rcases hat with h5|h5
   ·exact hne (I.ap s' j' s x _ hj' hx h3 h5)
   ·have:=(ownBlock_lt (I.own s' j' hj') h3).2;omega
  by_cases q1:s1=s/\j1=x
  ·by_cases q2:s2=s/\j2=x
   ·exact⟨q1.1.trans q2.1.symm,q1.2.trans q2.2.symm⟩
   ·rw[if_pos q1]at e1;rw[if_neg q2]at e2
    exact(key s2 j2 h2 q2 e2 e1).elim
  ·rw[if_neg q1]at e1
   by_cases q2:s2=s/\j2=x
   ·rw[if_pos q2]at e2
    exact(key s1 j1 h1 q1 e1 e2).elim
   ·rw[if_neg q2]at e2
    exact I.ap s1 j1 s2 j2 g h1 h2 e1 e2
 ·have:(w2.setCell ⟨blk s,x,none⟩ v).heap.size=w2.heap.size:=by simp[World.setCell]
  omega
end Go.Sym