import Derived.Test.YtakbmbmpcenljaaT13
import Derived.Test.YtakbmbmpcenljaaXD
namespace Go.Sym
set_option linter.unusedVariables false
set_option linter.unusedSimpArgs false
open Go.Proofs
set_option maxRecDepth 100000
set_option maxHeartbeats 4000000
structure Act where
 kind:Int
 call:Int
 urg:Int
 since:Int
 now:Int
deriving Inhabited
def kA5:List Kd:=[.int .i64,.int .i64,.int .i64,.int .i64,.int .i64]
def encA (a:Act):Nat->D:=encN [.i a.kind,.i a.call,.i a.urg,.i a.since,.i a.now]
def actV (a:Act):SV:=.agg [.i .i64 a.kind,.i .i64 a.call,.i .i64 a.urg,.i .i64 a.since,.i .i64 a.now]
def stepL (l:List Cl) (a:Act):List Cl:=if a.kind=1 then addL l a.call a.urg a.since else if a.kind=2 then setL l a.call a.urg else if a.kind=3 then delL l a.call else l
def stepQ (q:Qs) (a:Act):Qs:={ q with l:=stepL q.l a }
theorem step_1 {l:List Cl} {a:Act} (h:a.kind=1):stepL l a=addL l a.call a.urg a.since:=if_pos h
theorem step_2 {l:List Cl} {a:Act} (h:a.kind=2):stepL l a=setL l a.call a.urg:=by unfold stepL;rw[if_neg (by omega),if_pos h]
theorem step_3 {l:List Cl} {a:Act} (h:a.kind=3):stepL l a=delL l a.call:=by unfold stepL;rw[if_neg (by omega),if_neg (by omega),if_pos h]
theorem step_0 {l:List Cl} {a:Act} (h1:¬ a.kind=1) (h2:¬ a.kind=2) (h3:¬ a.kind=3):stepL l a=l:=by unfold stepL;rw[if_neg h1,if_neg h2,if_neg h3]
theorem setL_len (l:List Cl) (k u:Int):(setL l k u).length=l.length:=by unfold setL;split <;>simp
theorem addL_ok {l:List Cl} {k u s:Int} (hn:(idsC l).Nodup) (hc:∀ c∈l,ClOk c):(idsC (addL l k u s)).Nodup/\(∀ c∈addL l k u s,ClOk c)/\(addL l k u s).length<=l.length+1:=by
 unfold addL
 split
 ·exact⟨hn,hc,by omega⟩
 ·next h=>
  have h1:¬ badC k u s:=fun q=>h (.inl q)
  have h2:k∉idsC l:=fun q=>h (.inr q)
  unfold badC at h1
  refine⟨?_,fun c hc2=>?_,by simp⟩
  ·rw[show idsC (l++[⟨k,u,s⟩])=idsC l++[k] by simp[idsC]]
   refine List.nodup_append.2 ⟨hn,by simp,fun a ha b hb e=>?_⟩
   rw[List.mem_singleton]at hb
   exact h2 (hb▸e▸ha)
  ·rcases List.mem_append.1 hc2 with q|q
   ·exact hc c q
   ·rw[List.mem_singleton]at q;subst q;exact⟨by show 1<=k;omega,by show 1<=u/\u<=5;omega,by show 0<=s/\s<=_;omega⟩
theorem setL_ok {l:List Cl} {k u:Int} (hn:(idsC l).Nodup) (hc:∀ c∈l,ClOk c):(idsC (setL l k u)).Nodup/\∀ c∈setL l k u,ClOk c:=by
 unfold setL
 split
 ·exact⟨hn,hc⟩
 ·next h=>
  have h1:¬ badU u:=fun q=>h (.inl q)
  have h2:k∈idsC l:=Classical.not_not.1 fun q=>h (.inr q)
  unfold badU at h1
  refine⟨by rw[set_id h2];exact hn,fun c hc2=>?_⟩
  rcases List.mem_or_eq_of_mem_set hc2 with q|q
  ·exact hc c q
  ·subst q
   have e:=hc _ (getC_mem h2)
   exact⟨e.i,by show 1<=u/\u<=5;omega,e.s⟩
theorem delL_ok {l:List Cl} {k:Int} (hn:(idsC l).Nodup) (hc:∀ c∈l,ClOk c):(idsC (delL l k)).Nodup/\(∀ c∈delL l k,ClOk c)/\(delL l k).length<=l.length:=by
 unfold delL
 split
 ·next h=>
  refine⟨by rw[del_ids hn h];exact hn.erase _,fun c hc2=>?_,?_⟩
  ·rcases List.mem_append.1 hc2 with q|q
   ·exact hc c (List.mem_of_mem_take q)
   ·exact hc c (List.mem_of_mem_drop q)
  ·rw[List.length_append,List.length_take,List.length_drop];omega
 ·exact⟨hn,hc,Nat.le_refl _⟩
theorem step_ok {q:Qs} (h:QOk q) (a:Act):QOk (stepQ q a)/\(stepQ q a).l.length<=q.l.length+1:=by
 have A:=addL_ok (k:=a.call) (u:=a.urg) (s:=a.since) h.n h.c
 have B:=setL_ok (k:=a.call) (u:=a.urg) h.n h.c
 have B2:=setL_len q.l a.call a.urg
 have C:=delL_ok (k:=a.call) h.n h.c
 have key:(idsC (stepL q.l a)).Nodup/\(∀ c∈stepL q.l a,ClOk c)/\(stepL q.l a).length<=q.l.length+1:=by
  unfold stepL
  split
  ·exact A
  ·split
   ·exact⟨B.1,B.2,by omega⟩
   ·split
    ·exact⟨C.1,C.2.1,by omega⟩
    ·exact⟨h.n,h.c,by omega⟩
 exact⟨⟨h.m,h.a,key.1,key.2.1⟩,key.2.2⟩
structure Dox where
 q:Qs
 a:Act
def doG (q:Qs):List (Nat × Blk):=qH 100000 .own q++[(100002,.one .own [.i .i64 q.most,.i .i64 q.ages,.sl 1 0 q.l.length]),(1,.rows .own kC q.l.length (encL encC q.l)),(100003,.dead)]
def doC:CT where
 X:=Dox
 pre:=fun x=>QOk x.q/\x.q.l.length<=900
 args:=fun x=>[.p 100000 0 0,.p 100002 0 0,actV x.a]
 g0:=fun x=>qH 100000 .own x.q++rmH 100002 .own .own x.q
 res:=fun _=>.b true
 g1:=fun x=>doG (stepQ x.q x.a)
def cfgDo:Cfg:=⟨T,[],[(26,.one qaC),(27,.one qsC),(28,.one qrC),(30,.one waC),(31,.one wkC),(32,.one wdC)],noInv,60,{}⟩
theorem conDo:ConOk Try.prog cfgDo:=ConL.ok (.cons (ConL.one qa_good) (.cons (ConL.one qs_good) (.cons (ConL.one qr_good) (.cons (ConL.one wa_good) (.cons (ConL.one wk_good) (.cons (ConL.one wd_good) .nil))))))
set_option maxRecDepth 100000 in
theorem do_keeps:Keeps cfgDo Try.f13 doC noIv:=Eq.mp (show((∀ x1:Dox,((QOk x1.q/\x1.q.l.length<=(900:Nat))->(((decide (x1.a.kind=(1:Int))=true)->(∃ x4:Ax,((List.Nodup (idsC x4.q.l))/\(((0=0/\0=0)/\(x1.a.call=x4.k/\(x1.a.urg=x4.u/\(x1.a.since=x4.s/\True))))/\(((x1.q.most=x4.q.most/\(x1.q.ages=x4.q.ages/\(True/\True)))/\((MapEq [.int .i64,.int .i64] (idsC x1.q.l) (idsC x4.q.l) (valC x1.q.l) (valC x4.q.l))/\True))/\(∃ x5:Ax,((x5.q.l.length<=(1000:Nat))/\(((0=0/\0=0)/\(x1.a.call=x5.k/\(x1.a.urg=x5.u/\(x1.a.since=x5.s/\True))))/\(((x1.q.most=x5.q.most/\(x1.q.ages=x5.q.ages/\((0=0/\x1.q.l.length=x5.q.l.length)/\True)))/\(((RLe x5.q.l.length x1.q.l.length)/\(RowsEq [.int .i64,.int .i64,.int .i64] x5.q.l.length (encL encC x1.q.l) (encL encC x5.q.l)))/\True))/\((decide (addR x4.q.l x4.k x4.u x4.s=addR x5.q.l x5.k x5.u x5.s)=true)/\(((x4.q.most=(stepQ x1.q x1.a).most)/\((x4.q.ages=(stepQ x1.q x1.a).ages)/\(True/\True)))/\((MapEq [.int .i64,.int .i64] (idsC (addL x4.q.l x4.k x4.u x4.s)) (idsC (stepQ x1.q x1.a).l) (valC (addL x4.q.l x4.k x4.u x4.s)) (valC (stepQ x1.q x1.a).l))/\(((x5.q.most=(stepQ x1.q x1.a).most)/\((x5.q.ages=(stepQ x1.q x1.a).ages)/\((0=0/\((addL x5.q.l x5.k x5.u x5.s).length=(stepQ x1.q x1.a).l.length))/\True)))/\(((RLe (stepQ x1.q x1.a).l.length (addL x5.q.l x5.k x5.u x5.s).length)/\(RowsEq [.int .i64,.int .i64,.int .i64] (stepQ x1.q x1.a).l.length (encL encC (addL x5.q.l x5.k x5.u x5.s)) (encL encC (stepQ x1.q x1.a).l)))/\(True/\True)))))))))))))))/\((decide (x1.a.kind=(1:Int))=false)->(((decide (x1.a.kind=(2:Int))=true)->(∃ x8:Ax,((List.Nodup (idsC x8.q.l))/\(((0=0/\0=0)/\(x1.a.call=x8.k/\(x1.a.urg=x8.u/\True)))/\(((x1.q.most=x8.q.most/\(x1.q.ages=x8.q.ages/\(True/\True)))/\((MapEq [.int .i64,.int .i64] (idsC x1.q.l) (idsC x8.q.l) (valC x1.q.l) (valC x8.q.l))/\True))/\(∃ x9:Ax,((x9.q.l.length<=(1000:Nat))/\(((0=0/\0=0)/\(x1.a.call=x9.k/\(x1.a.urg=x9.u/\True)))/\(((x1.q.most=x9.q.most/\(x1.q.ages=x9.q.ages/\((0=0/\x1.q.l.length=x9.q.l.length)/\True)))/\(((RLe x9.q.l.length x1.q.l.length)/\(RowsEq [.int .i64,.int .i64,.int .i64] x9.q.l.length (encL encC x1.q.l) (encL encC x9.q.l)))/\True))/\((decide (setR x8.q.l x8.k x8.u=setR x9.q.l x9.k x9.u)=true)/\(((x8.q.most=(stepQ x1.q x1.a).most)/\((x8.q.ages=(stepQ x1.q x1.a).ages)/\(True/\True)))/\((MapEq [.int .i64,.int .i64] (idsC (setL x8.q.l x8.k x8.u)) (idsC (stepQ x1.q x1.a).l) (valC (setL x8.q.l x8.k x8.u)) (valC (stepQ x1.q x1.a).l))/\(((x1.q.most=(stepQ x1.q x1.a).most)/\((x1.q.ages=(stepQ x1.q x1.a).ages)/\((0=0/\(x1.q.l.length=(stepQ x1.q x1.a).l.length))/\True)))/\(((RLe (stepQ x1.q x1.a).l.length x9.q.l.length)/\(RowsEq [.int .i64,.int .i64,.int .i64] (stepQ x1.q x1.a).l.length (encL encC (setL x9.q.l x9.k x9.u)) (encL encC (stepQ x1.q x1.a).l)))/\(True/\True)))))))))))))))/\((decide (x1.a.kind=(2:Int))=false)->(((decide (x1.a.kind=(3:Int))=true)->(∃ x12:Ax,((List.Nodup (idsC x12.q.l))/\(((0=0/\0=0)/\(x1.a.call=x12.k/\True))/\(((x1.q.most=x12.q.most/\(x1.q.ages=x12.q.ages/\(True/\True)))/\((MapEq [.int .i64,.int .i64] (idsC x1.q.l) (idsC x12.q.l) (valC x1.q.l) (valC x12.q.l))/\True))/\(∃ x13:Ax,((x13.q.l.length<=(1000:Nat))/\(((0=0/\0=0)/\(x1.a.call=x13.k/\True))/\(((x1.q.most=x13.q.most/\(x1.q.ages=x13.q.ages/\((0=0/\x1.q.l.length=x13.q.l.length)/\True)))/\(((RLe x13.q.l.length x1.q.l.length)/\(RowsEq [.int .i64,.int .i64,.int .i64] x13.q.l.length (encL encC x1.q.l) (encL encC x13.q.l)))/\True))/\(((decide (x12.k∈idsC x12.q.l)==decide (x13.k∈idsC x13.q.l))=true)/\(((x12.q.most=(stepQ x1.q x1.a).most)/\((x12.q.ages=(stepQ x1.q x1.a).ages)/\(True/\True)))/\((MapEq [.int .i64,.int .i64] (idsC (delL x12.q.l x12.k)) (idsC (stepQ x1.q x1.a).l) (valC (delL x12.q.l x12.k)) (valC (stepQ x1.q x1.a).l))/\(((x13.q.most=(stepQ x1.q x1.a).most)/\((x13.q.ages=(stepQ x1.q x1.a).ages)/\((0=0/\((delL x13.q.l x13.k).length=(stepQ x1.q x1.a).l.length))/\True)))/\(((RLe (stepQ x1.q x1.a).l.length (delL x13.q.l x13.k).length)/\(RowsEq [.int .i64,.int .i64,.int .i64] (stepQ x1.q x1.a).l.length (encL encC (delL x13.q.l x13.k)) (encL encC (stepQ x1.q x1.a).l)))/\(True/\True)))))))))))))))/\((decide (x1.a.kind=(3:Int))=false)->(true=true/\(((x1.q.most=(stepQ x1.q x1.a).most)/\((x1.q.ages=(stepQ x1.q x1.a).ages)/\(True/\True)))/\((MapEq [.int .i64,.int .i64] (idsC x1.q.l) (idsC (stepQ x1.q x1.a).l) (valC x1.q.l) (valC (stepQ x1.q x1.a).l))/\(((x1.q.most=(stepQ x1.q x1.a).most)/\((x1.q.ages=(stepQ x1.q x1.a).ages)/\((0=0/\(x1.q.l.length=(stepQ x1.q x1.a).l.length))/\True)))/\(((RLe (stepQ x1.q x1.a).l.length x1.q.l.length)/\(RowsEq [.int .i64,.int .i64,.int .i64] (stepQ x1.q x1.a).l.length (encL encC x1.q.l) (encL encC (stepQ x1.q x1.a).l)))/\(True/\True)))))))))))))))=(Keeps cfgDo Try.f13 doC noIv) by kernel_rfl) (fun x1=>fun h2=>⟨fun g3=>have h3:=dT g3;⟨({ q:=Dox.q x1,k:=Act.call (Dox.a x1),u:=Act.urg (Dox.a x1),s:=Act.since (Dox.a x1):Ax }),
(by(try dsimp only at *);exact h2.1.n),
⟨⟨rfl,rfl⟩,rfl,rfl,rfl,trivial⟩,
⟨⟨rfl,rfl,trivial,trivial⟩,
(by(try dsimp only at *);exact MapEq.rfl'),trivial⟩,
({ q:=Dox.q x1,k:=Act.call (Dox.a x1),u:=Act.urg (Dox.a x1),s:=Act.since (Dox.a x1):Ax }),
(by(try dsimp only at *);omega),
⟨⟨rfl,rfl⟩,rfl,rfl,rfl,trivial⟩,
⟨⟨rfl,rfl,
⟨rfl,rfl⟩,trivial⟩,
⟨rl,rr⟩,trivial⟩,
(by(try dsimp only at *);grind),
⟨(by(try dsimp only at *);rfl),
(by(try dsimp only at *);rfl),trivial,trivial⟩,
(by(try dsimp only at *);(have e:(stepQ x1.q x1.a).l=_:=step_1 h3;first|exact congrArg List.length e.symm|(rw[e];first|exact Nat.le_refl _|exact MapEq.rfl'|exact rr))),
⟨(by(try dsimp only at *);rfl),
(by(try dsimp only at *);rfl),
⟨rfl,
(by(try dsimp only at *);(have e:(stepQ x1.q x1.a).l=_:=step_1 h3;first|exact congrArg List.length e.symm|(rw[e];first|exact Nat.le_refl _|exact MapEq.rfl'|exact rr)))⟩,trivial⟩,
⟨⟨(by(try dsimp only at *);(have e:(stepQ x1.q x1.a).l=_:=step_1 h3;first|exact congrArg List.length e.symm|(rw[e];first|exact Nat.le_refl _|exact MapEq.rfl'|exact rr)))⟩,
(by(try dsimp only at *);(have e:(stepQ x1.q x1.a).l=_:=step_1 h3;first|exact congrArg List.length e.symm|(rw[e];first|exact Nat.le_refl _|exact MapEq.rfl'|exact rr)))⟩,trivial,trivial⟩,
fun g6=>have h6:=dF g6;⟨fun g7=>have h7:=dT g7;⟨({ q:=Dox.q x1,k:=Act.call (Dox.a x1),u:=Act.urg (Dox.a x1),s:=default:Ax }),
(by(try dsimp only at *);exact h2.1.n),
⟨⟨rfl,rfl⟩,rfl,rfl,trivial⟩,
⟨⟨rfl,rfl,trivial,trivial⟩,
(by(try dsimp only at *);exact MapEq.rfl'),trivial⟩,
({ q:=Dox.q x1,k:=Act.call (Dox.a x1),u:=Act.urg (Dox.a x1),s:=default:Ax }),
(by(try dsimp only at *);omega),
⟨⟨rfl,rfl⟩,rfl,rfl,trivial⟩,
⟨⟨rfl,rfl,
⟨rfl,rfl⟩,trivial⟩,
⟨rl,rr⟩,trivial⟩,
(by(try dsimp only at *);grind),
⟨(by(try dsimp only at *);rfl),
(by(try dsimp only at *);rfl),trivial,trivial⟩,
(by(try dsimp only at *);(have e:(stepQ x1.q x1.a).l=_:=step_2 h7;rw[e];(first|exact(setL_len _ _ _).symm|exact Nat.le_of_eq (setL_len _ _ _)|exact MapEq.rfl'|exact rr))),
⟨(by(try dsimp only at *);rfl),
(by(try dsimp only at *);rfl),
⟨rfl,
(by(try dsimp only at *);(have e:(stepQ x1.q x1.a).l=_:=step_2 h7;rw[e];(first|exact(setL_len _ _ _).symm|exact Nat.le_of_eq (setL_len _ _ _)|exact MapEq.rfl'|exact rr)))⟩,trivial⟩,
⟨⟨(by(try dsimp only at *);(have e:(stepQ x1.q x1.a).l=_:=step_2 h7;rw[e];(first|exact(setL_len _ _ _).symm|exact Nat.le_of_eq (setL_len _ _ _)|exact MapEq.rfl'|exact rr)))⟩,
(by(try dsimp only at *);(have e:(stepQ x1.q x1.a).l=_:=step_2 h7;rw[e];(first|exact(setL_len _ _ _).symm|exact Nat.le_of_eq (setL_len _ _ _)|exact MapEq.rfl'|exact rr)))⟩,trivial,trivial⟩,
fun g10=>have h10:=dF g10;⟨fun g11=>have h11:=dT g11;⟨({ q:=Dox.q x1,k:=Act.call (Dox.a x1),u:=default,s:=default:Ax }),
(by(try dsimp only at *);exact h2.1.n),
⟨⟨rfl,rfl⟩,rfl,trivial⟩,
⟨⟨rfl,rfl,trivial,trivial⟩,
(by(try dsimp only at *);exact MapEq.rfl'),trivial⟩,
({ q:=Dox.q x1,k:=Act.call (Dox.a x1),u:=default,s:=default:Ax }),
(by(try dsimp only at *);omega),
⟨⟨rfl,rfl⟩,rfl,trivial⟩,
⟨⟨rfl,rfl,
⟨rfl,rfl⟩,trivial⟩,
⟨rl,rr⟩,trivial⟩,
(by(try dsimp only at *);grind),
⟨(by(try dsimp only at *);rfl),
(by(try dsimp only at *);rfl),trivial,trivial⟩,
(by(try dsimp only at *);(have e:(stepQ x1.q x1.a).l=_:=step_3 h11;first|exact congrArg List.length e.symm|(rw[e];first|exact Nat.le_refl _|exact MapEq.rfl'|exact rr))),
⟨(by(try dsimp only at *);rfl),
(by(try dsimp only at *);rfl),
⟨rfl,
(by(try dsimp only at *);(have e:(stepQ x1.q x1.a).l=_:=step_3 h11;first|exact congrArg List.length e.symm|(rw[e];first|exact Nat.le_refl _|exact MapEq.rfl'|exact rr)))⟩,trivial⟩,
⟨⟨(by(try dsimp only at *);(have e:(stepQ x1.q x1.a).l=_:=step_3 h11;first|exact congrArg List.length e.symm|(rw[e];first|exact Nat.le_refl _|exact MapEq.rfl'|exact rr)))⟩,
(by(try dsimp only at *);(have e:(stepQ x1.q x1.a).l=_:=step_3 h11;first|exact congrArg List.length e.symm|(rw[e];first|exact Nat.le_refl _|exact MapEq.rfl'|exact rr)))⟩,trivial,trivial⟩,
fun g14=>have h14:=dF g14;⟨rfl,
⟨(by(try dsimp only at *);rfl),
(by(try dsimp only at *);rfl),trivial,trivial⟩,
(by(try dsimp only at *);(have e:(stepQ x1.q x1.a).l=_:=step_0 h6 h10 h14;first|exact congrArg List.length e.symm|(rw[e];first|exact Nat.le_refl _|exact MapEq.rfl'|exact rr))),
⟨(by(try dsimp only at *);rfl),
(by(try dsimp only at *);rfl),
⟨rfl,
(by(try dsimp only at *);(have e:(stepQ x1.q x1.a).l=_:=step_0 h6 h10 h14;first|exact congrArg List.length e.symm|(rw[e];first|exact Nat.le_refl _|exact MapEq.rfl'|exact rr)))⟩,trivial⟩,
⟨⟨(by(try dsimp only at *);(have e:(stepQ x1.q x1.a).l=_:=step_0 h6 h10 h14;first|exact congrArg List.length e.symm|(rw[e];first|exact Nat.le_refl _|exact MapEq.rfl'|exact rr)))⟩,
(by(try dsimp only at *);(have e:(stepQ x1.q x1.a).l=_:=step_0 h6 h10 h14;first|exact congrArg List.length e.symm|(rw[e];first|exact Nat.le_refl _|exact MapEq.rfl'|exact rr)))⟩,trivial,trivial⟩⟩⟩⟩)
theorem do_good:Good Try.prog 13 doC/\FnOk Try.prog 13:=good_of tok conDo (fn:=Try.f13) rfl (by decide+kernel) (fun _=>rfl) do_keeps
structure Rux where
 n:Nx
 l:List Act
def q0 (n:Nx):Qs:=⟨n.most,n.ages,[]⟩
def stF (x:Rux) (k:Nat):Qs:=(x.l.take k).foldl stepQ (q0 x.n)
def enF (x:Rux):Qs:=x.l.foldl stepQ (q0 x.n)
theorem q0_ok {n:Nx} (h:okN n):QOk (q0 n):=⟨h.1,h.2,List.nodup_nil,fun c hc=>by cases hc⟩
theorem fold_ok:∀(l:List Act) (q:Qs),QOk q->QOk (l.foldl stepQ q)/\(l.foldl stepQ q).l.length<=q.l.length+l.length
 | [],q,h=>⟨h,by simp⟩
 |a::r,q,h=>by
  have e:=step_ok h a
  have e2:=fold_ok r (stepQ q a) e.1
  refine⟨e2.1,?_⟩
  show(List.foldl stepQ (stepQ q a) r).l.length<=_
  rw[List.length_cons];omega
theorem st_ok {x:Rux} (h:okN x.n) (k:Nat):QOk (stF x k)/\(stF x k).l.length<=k:=by
 have e:=fold_ok (x.l.take k) (q0 x.n) (q0_ok h)
 refine⟨e.1,?_⟩
 have e2:=e.2
 rw[List.length_take]at e2
 have:(q0 x.n).l.length=0:=rfl
 unfold stF;omega
theorem st_step {x:Rux} {k:Nat} (h:(k:Int)<x.l.length):stF x (k+1)=stepQ (stF x k) (x.l.getD (0+(k:Int).toNat) default):=by
 unfold stF
 rw[nat0,take_succ_getD (d:=default) (by omega),List.foldl_append];rfl
theorem st_end {x:Rux} {k:Nat} (h:k<=x.l.length) (h2:¬ (k:Int)<x.l.length):stF x k=enF x:=by unfold stF enF;rw[List.take_of_length_le (by omega)]
theorem fold_most:∀(l:List Act) (q:Qs),(l.foldl stepQ q).most=q.most/\(l.foldl stepQ q).ages=q.ages
 | [],q=>⟨rfl,rfl⟩
 |a::r,q=>fold_most r (stepQ q a)
theorem en_most (x:Rux):(enF x).most=x.n.most/\(enF x).ages=x.n.ages:=fold_most _ _
theorem en_ok {x:Rux} (h:okN x.n/\x.l.length<=30):QOk (enF x)/\(enF x).l.length<=30:=by
 have e:=fold_ok x.l (q0 x.n) (q0_ok h.1)
 have:(q0 x.n).l.length=0:=rfl
 exact⟨e.1,by have:=e.2;unfold enF;omega⟩
def actsH (a:Nat) (l:List Act):List (Nat × Blk):=[(a,.rows .bor kA5 l.length (encL encA l))]
def runC:CT where
 X:=Rux
 pre:=fun x=>okN x.n/\x.l.length<=30
 args:=fun x=>[.i .i64 x.n.most,.i .i64 x.n.ages,.sl 100000 0 x.l.length]
 g0:=fun x=>actsH 100000 x.l
 res:=fun _=>.tup [.p 1 0 0,.p 3 0 0]
 g1:=fun x=>qH 1 .own (enF x)++rmH 3 .own .own (enF x)
def runI (x:Rux) (id:Nat):Option Inv:=match id with
 |0=>some { X:=Nat,ok:=fun k=>k<=x.l.length,fr:=fun k=>[(44,.i .i64 k),(10,.p 500 0 0),(8,.p 502 0 0)],hp:=fun k=>qH 500 .own (stF x k)++rmH 502 .own .own (stF x k),me:=fun k=>x.l.length-k }
 |_=>none
def cfgRu:Cfg:=⟨T,[],[(11,.one qnC),(12,.one wnC),(13,.one doC)],noInv,60,{}⟩
theorem conRu:ConOk Try.prog cfgRu:=ConL.ok (.cons (ConL.one qn_good) (.cons (ConL.one wn_good) (.cons (ConL.one do_good) .nil)))
set_option maxRecDepth 100000 in
theorem run_keeps:Keeps cfgRu Try.f20 runC runI:=Eq.mp (show((∀ x1:Rux,((okN x1.n/\x1.l.length<=(30:Nat))->(∃ x3:Nx,(True/\((x1.n.most=x3.most/\(x1.n.ages=x3.ages/\True))/\(True/\(∃ x4:Nx,((okN x4)/\((x1.n.most=x4.most/\(x1.n.ages=x4.ages/\True))/\(True/\((((!decide (okN x3))=false)->(((decide ((0:Int)≠(0:Int))=false)->(((decide (30<(x1.l.length:Int))=true)->(((False)/\((0=0/\0=0)/\True))/\((False)/\((False)/\(((x3.most=(enF x1).most)/\((x3.ages=(enF x1).ages)/\((0=0/\((@List.nil Cl).length=(enF x1).l.length))/\True)))/\(((RLe (enF x1).l.length (@List.nil Cl).length)/\(RowsEq [.int .i64,.int .i64,.int .i64] (enF x1).l.length (encL encC (@List.nil Cl)) (encL encC (enF x1).l)))/\True))))))/\((decide (30<(x1.l.length:Int))=false)->(∃ x9:Nat,(((x9<=x1.l.length)/\(((0=(x9:Int))/\((0=0/\0=0)/\((0=0/\0=0)/\(((x1.l.length:Int)=(x1.l.length:Int))/\((0=0/\x1.l.length=x1.l.length)/\((decide (30<(x1.l.length:Int))=decide (30<(x1.l.length:Int)))/\((decide (30<(x1.l.length:Int))=decide (30<(x1.l.length:Int)))/\(((x1.l.length:Int)=(x1.l.length:Int))/\((0=0/\x1.l.length=x1.l.length)/\(false=false/\(false=false/\(false=false/\((decide ((0:Int)≠(0:Int))=decide ((0:Int)≠(0:Int)))/\((decide ((0:Int)≠(0:Int))=decide ((0:Int)≠(0:Int)))/\((decide ((0:Int)≠(0:Int))=decide ((0:Int)≠(0:Int)))/\(((0:Int)=0)/\(((!decide (okN x3))= !decide (okN x3))/\(((!decide (okN x3))= !decide (okN x3))/\((decide (okN x3)=decide (okN x3))/\(((0:Int)=0)/\(((0:Int)=0)/\(x1.n.ages=x1.n.ages/\(x1.n.most=x1.n.most/\((decide (okN x3)=decide (okN x3))/\((decide (okN x3)=decide (okN x3))/\(x1.n.ages=x1.n.ages/\(x1.n.most=x1.n.most/\(True/\(True/\(x1.n.most=x1.n.most/\(x1.n.ages=x1.n.ages/\((0=0/\x1.l.length=x1.l.length)/\True))))))))))))))))))))))))))))))))/\(((x4.most=(stF x1 x9).most)/\((x4.ages=(stF x1 x9).ages)/\(True/\True)))/\((MapEq [.int .i64,.int .i64] (idsC (@List.nil Cl)) (idsC (stF x1 x9).l) (valC (@List.nil Cl)) (valC (stF x1 x9).l))/\(((x3.most=(stF x1 x9).most)/\((x3.ages=(stF x1 x9).ages)/\((0=0/\((@List.nil Cl).length=(stF x1 x9).l.length))/\True)))/\(((RLe (stF x1 x9).l.length (@List.nil Cl).length)/\(RowsEq [.int .i64,.int .i64,.int .i64] (stF x1 x9).l.length (encL encC (@List.nil Cl)) (encL encC (stF x1 x9).l)))/\(((RLe x1.l.length x1.l.length)/\(RowsEq [.int .i64,.int .i64,.int .i64,.int .i64,.int .i64] x1.l.length (encL encA x1.l) (encL encA x1.l)))/\True)))))))/\(∀ x10:Nat,((x10<=x1.l.length)->(((decide ((x10:Int)<(x1.l.length:Int))=true)->((((0:Int)<=(x10:Int))/\((x10:Int)<(x1.l.length:Int)))/\((0+Int.toNat (x10:Int)<x1.l.length)/\(∃ x13:Dox,(((QOk x13.q)/\(x13.q.l.length<=(900:Nat)))/\(((0=0/\0=0)/\((0=0/\0=0)/\((((x1.l.getD (0+Int.toNat (x10:Int)) default).kind=x13.a.kind)/\(((x1.l.getD (0+Int.toNat (x10:Int)) default).call=x13.a.call)/\(((x1.l.getD (0+Int.toNat (x10:Int)) default).urg=x13.a.urg)/\(((x1.l.getD (0+Int.toNat (x10:Int)) default).since=x13.a.since)/\(((x1.l.getD (0+Int.toNat (x10:Int)) default).now=x13.a.now)/\True)))))/\True)))/\(((((stF x1 x10).most=x13.q.most)/\(((stF x1 x10).ages=x13.q.ages)/\(True/\True)))/\((MapEq [.int .i64,.int .i64] (idsC (stF x1 x10).l) (idsC x13.q.l) (valC (stF x1 x10).l) (valC x13.q.l))/\((((stF x1 x10).most=x13.q.most)/\(((stF x1 x10).ages=x13.q.ages)/\((0=0/\((stF x1 x10).l.length=x13.q.l.length))/\True)))/\(((RLe x13.q.l.length (stF x1 x10).l.length)/\(RowsEq [.int .i64,.int .i64,.int .i64] x13.q.l.length (encL encC (stF x1 x10).l) (encL encC x13.q.l)))/\True))))/\((((-9223372036854775808:Int)<=(x10:Int)+1)/\((x10:Int)+1<=(9223372036854775807:Int)))/\(∃ x14:Nat,((x1.l.length-x14<x1.l.length-x10)/\((x14<=x1.l.length)/\((((x10:Int)+1=(x14:Int))/\((0=0/\0=0)/\((0=0/\0=0)/\(((x1.l.length:Int)=(x1.l.length:Int))/\((0=0/\x1.l.length=x1.l.length)/\((decide (30<(x1.l.length:Int))=decide (30<(x1.l.length:Int)))/\((decide (30<(x1.l.length:Int))=decide (30<(x1.l.length:Int)))/\(((x1.l.length:Int)=(x1.l.length:Int))/\((0=0/\x1.l.length=x1.l.length)/\(false=false/\(false=false/\(false=false/\((decide ((0:Int)≠(0:Int))=decide ((0:Int)≠(0:Int)))/\((decide ((0:Int)≠(0:Int))=decide ((0:Int)≠(0:Int)))/\((decide ((0:Int)≠(0:Int))=decide ((0:Int)≠(0:Int)))/\(((0:Int)=0)/\(((!decide (okN x3))= !decide (okN x3))/\(((!decide (okN x3))= !decide (okN x3))/\((decide (okN x3)=decide (okN x3))/\(((0:Int)=0)/\(((0:Int)=0)/\(x1.n.ages=x1.n.ages/\(x1.n.most=x1.n.most/\((decide (okN x3)=decide (okN x3))/\((decide (okN x3)=decide (okN x3))/\(x1.n.ages=x1.n.ages/\(x1.n.most=x1.n.most/\(True/\(True/\(x1.n.most=x1.n.most/\(x1.n.ages=x1.n.ages/\((0=0/\x1.l.length=x1.l.length)/\True))))))))))))))))))))))))))))))))/\((((stepQ x13.q x13.a).most=(stF x1 x14).most)/\(((stepQ x13.q x13.a).ages=(stF x1 x14).ages)/\(True/\True)))/\((MapEq [.int .i64,.int .i64] (idsC (stepQ x13.q x13.a).l) (idsC (stF x1 x14).l) (valC (stepQ x13.q x13.a).l) (valC (stF x1 x14).l))/\((((stepQ x13.q x13.a).most=(stF x1 x14).most)/\(((stepQ x13.q x13.a).ages=(stF x1 x14).ages)/\((0=0/\((stepQ x13.q x13.a).l.length=(stF x1 x14).l.length))/\True)))/\(((RLe (stF x1 x14).l.length (stepQ x13.q x13.a).l.length)/\(RowsEq [.int .i64,.int .i64,.int .i64] (stF x1 x14).l.length (encL encC (stepQ x13.q x13.a).l) (encL encC (stF x1 x14).l)))/\(((RLe x1.l.length x1.l.length)/\(RowsEq [.int .i64,.int .i64,.int .i64,.int .i64,.int .i64] x1.l.length (encL encA x1.l) (encL encA x1.l)))/\True)))))))))))))))))/\((decide ((x10:Int)<(x1.l.length:Int))=false)->(((0=0/\0=0)/\((0=0/\0=0)/\True))/\((((stF x1 x10).most=(enF x1).most)/\(((stF x1 x10).ages=(enF x1).ages)/\(True/\True)))/\((MapEq [.int .i64,.int .i64] (idsC (stF x1 x10).l) (idsC (enF x1).l) (valC (stF x1 x10).l) (valC (enF x1).l))/\((((stF x1 x10).most=(enF x1).most)/\(((stF x1 x10).ages=(enF x1).ages)/\((0=0/\((stF x1 x10).l.length=(enF x1).l.length))/\True)))/\(((RLe (enF x1).l.length (stF x1 x10).l.length)/\(RowsEq [.int .i64,.int .i64,.int .i64] (enF x1).l.length (encL encC (stF x1 x10).l) (encL encC (enF x1).l)))/\True))))))))))))))/\((decide ((0:Int)≠(0:Int))=true)->(((False)/\((0=0/\0=0)/\True))/\((False)/\((False)/\(((x3.most=(enF x1).most)/\((x3.ages=(enF x1).ages)/\((0=0/\((@List.nil Cl).length=(enF x1).l.length))/\True)))/\(((RLe (enF x1).l.length (@List.nil Cl).length)/\(RowsEq [.int .i64,.int .i64,.int .i64] (enF x1).l.length (encL encC (@List.nil Cl)) (encL encC (enF x1).l)))/\True))))))))/\(((!decide (okN x3))=true)->(((False)/\((0=0/\0=0)/\True))/\((False)/\((False)/\(((x3.most=(enF x1).most)/\((x3.ages=(enF x1).ages)/\((0=0/\((@List.nil Cl).length=(enF x1).l.length))/\True)))/\(((RLe (enF x1).l.length (@List.nil Cl).length)/\(RowsEq [.int .i64,.int .i64,.int .i64] (enF x1).l.length (encL encC (@List.nil Cl)) (encL encC (enF x1).l)))/\True))))))))))))))))))=(Keeps cfgRu Try.f20 runC runI) by kernel_rfl) (fun x1=>fun h2=>⟨(Rux.n x1),
 trivial,
⟨rfl,rfl,trivial⟩,trivial,
(Rux.n x1),
(by(try dsimp only at *);grind),
⟨rfl,rfl,trivial⟩,trivial,
fun g5=>have h5:=nF g5;⟨fun g6=>have h6:=dF g6;⟨fun g7=>have h7:=dT g7;⟨⟨(by(try dsimp only at *);omega),
⟨rfl,rfl⟩,trivial⟩,
(by(try dsimp only at *);omega),
(by(try dsimp only at *);omega),
⟨(by(try dsimp only at *);omega),
(by(try dsimp only at *);omega),
⟨rfl,
(by(try dsimp only at *);omega)⟩,trivial⟩,
⟨⟨(by(try dsimp only at *);omega)⟩,
(by(try dsimp only at *);omega)⟩,trivial⟩,
fun g8=>have h8:=dF g8;⟨((0:Nat)),
⟨(by(try dsimp only at *);omega),
⟨(by(try dsimp only at *);omega),
⟨rfl,rfl⟩,
⟨rfl,rfl⟩,rfl,
⟨rfl,rfl⟩,rfl,rfl,rfl,
⟨rfl,rfl⟩,rfl,rfl,rfl,rfl,rfl,rfl,rfl,rfl,rfl,rfl,rfl,rfl,rfl,rfl,rfl,rfl,rfl,rfl,trivial,trivial,rfl,rfl,
⟨rfl,rfl⟩,trivial⟩,
⟨(by(try dsimp only at *);rfl),
(by(try dsimp only at *);rfl),trivial,trivial⟩,
(by(try dsimp only at *);exact MapEq.rfl'),
⟨(by(try dsimp only at *);rfl),
(by(try dsimp only at *);rfl),
⟨rfl,
(by(try dsimp only at *);rfl)⟩,trivial⟩,
⟨⟨(by(try dsimp only at *);exact Nat.le_refl _)⟩,
(by(try dsimp only at *);exact rr)⟩,
⟨rl,rr⟩,trivial⟩,
fun x10=>fun h11=>⟨fun g12=>have h12:=dT g12;⟨⟨(by(try dsimp only at *);omega),
(by(try dsimp only at *);omega)⟩,
(by(try dsimp only at *);omega),
({ q:=stF x1 x10,a:=List.getD (Rux.l x1) ((0:Nat)+Int.toNat (↑x10:Int)) default:Dox }),
⟨(by(try dsimp only at *);exact(st_ok h2.1 x10).1),
(by(try dsimp only at *);(have e:=(st_ok h2.1 x10).2;have e2:=h2.2;(show(stF x1 x10).l.length<=900);omega))⟩,
⟨⟨rfl,rfl⟩,
⟨rfl,rfl⟩,
⟨rfl,rfl,rfl,rfl,rfl,trivial⟩,trivial⟩,
⟨⟨rfl,rfl,trivial,trivial⟩,
(by(try dsimp only at *);exact MapEq.rfl'),
⟨rfl,rfl,
⟨rfl,rfl⟩,trivial⟩,
⟨rl,rr⟩,trivial⟩,
⟨(by(try dsimp only at *);omega),
(by(try dsimp only at *);omega)⟩,
(x10+(1:Nat)),
(by(try dsimp only at *);omega),
(by(try dsimp only at *);omega),
⟨(by(try dsimp only at *);omega),
⟨rfl,rfl⟩,
⟨rfl,rfl⟩,rfl,
⟨rfl,rfl⟩,rfl,rfl,rfl,
⟨rfl,rfl⟩,rfl,rfl,rfl,rfl,rfl,rfl,rfl,rfl,rfl,rfl,rfl,rfl,rfl,rfl,rfl,rfl,rfl,rfl,trivial,trivial,rfl,rfl,
⟨rfl,rfl⟩,trivial⟩,
⟨(by(try dsimp only at *);(rw[st_step h12])),
(by(try dsimp only at *);(rw[st_step h12])),trivial,trivial⟩,
(by(try dsimp only at *);(rw[st_step h12];first|exact Nat.le_refl _|exact MapEq.rfl'|exact rr)),
⟨(by(try dsimp only at *);(rw[st_step h12])),
(by(try dsimp only at *);(rw[st_step h12])),
⟨rfl,
(by(try dsimp only at *);(rw[st_step h12]))⟩,trivial⟩,
⟨⟨(by(try dsimp only at *);(rw[st_step h12];first|exact Nat.le_refl _|exact MapEq.rfl'|exact rr))⟩,
(by(try dsimp only at *);(rw[st_step h12];first|exact Nat.le_refl _|exact MapEq.rfl'|exact rr))⟩,
⟨rl,rr⟩,trivial⟩,
fun g15=>have h15:=dF g15;⟨⟨⟨rfl,rfl⟩,
⟨rfl,rfl⟩,trivial⟩,
⟨(by(try dsimp only at *);(rw[st_end h11 h15])),
(by(try dsimp only at *);(rw[st_end h11 h15])),trivial,trivial⟩,
(by(try dsimp only at *);(rw[st_end h11 h15];first|exact Nat.le_refl _|exact MapEq.rfl'|exact rr)),
⟨(by(try dsimp only at *);(rw[st_end h11 h15])),
(by(try dsimp only at *);(rw[st_end h11 h15])),
⟨rfl,
(by(try dsimp only at *);(rw[st_end h11 h15]))⟩,trivial⟩,
⟨⟨(by(try dsimp only at *);(rw[st_end h11 h15];first|exact Nat.le_refl _|exact MapEq.rfl'|exact rr))⟩,
(by(try dsimp only at *);(rw[st_end h11 h15];first|exact Nat.le_refl _|exact MapEq.rfl'|exact rr))⟩,trivial⟩⟩⟩⟩,
fun g16=>have h16:=dT g16;⟨⟨(by(try dsimp only at *);omega),
⟨rfl,rfl⟩,trivial⟩,
(by(try dsimp only at *);omega),
(by(try dsimp only at *);omega),
⟨(by(try dsimp only at *);omega),
(by(try dsimp only at *);omega),
⟨rfl,
(by(try dsimp only at *);omega)⟩,trivial⟩,
⟨⟨(by(try dsimp only at *);omega)⟩,
(by(try dsimp only at *);omega)⟩,trivial⟩⟩,
fun g17=>have h17:=nT g17;⟨⟨(by(try dsimp only at *);grind),
⟨rfl,rfl⟩,trivial⟩,
(by(try dsimp only at *);grind),
(by(try dsimp only at *);grind),
⟨(by(try dsimp only at *);grind),
(by(try dsimp only at *);grind),
⟨rfl,
(by(try dsimp only at *);grind)⟩,trivial⟩,
⟨⟨(by(try dsimp only at *);grind)⟩,
(by(try dsimp only at *);grind)⟩,trivial⟩⟩)
theorem run_good:Good Try.prog 20 runC/\FnOk Try.prog 20:=good_of tok conRu (fn:=Try.f20) rfl (by decide+kernel) (fun _=>rfl) run_keeps
def runNoC (p:Rux->Prop):CT where
 X:=Rux
 pre:=fun x=>p x
 args:=fun x=>[.i .i64 x.n.most,.i .i64 x.n.ages,.sl 100000 0 x.l.length]
 g0:=fun x=>actsH 100000 x.l
 res:=fun _=>.tup [.np,.p 1 0 0]
 g1:=fun x=>rmH 1 .own .own (q0 x.n)
def cfgRn:Cfg:=⟨T,[],[(11,.one qnNoC),(12,.one wnC),(13,.one doC)],noInv,60,{}⟩
theorem conRn:ConOk Try.prog cfgRn:=ConL.ok (.cons (ConL.one qnNo_good) (.cons (ConL.one wn_good) (.cons (ConL.one do_good) .nil)))
set_option maxRecDepth 100000 in
theorem runN_keeps:Keeps cfgRn Try.f20 (runNoC fun x=>¬ okN x.n) runI:=Eq.mp (show((∀ x1:Rux,((¬okN x1.n)->(∃ x3:Nx,(True/\((x1.n.most=x3.most/\(x1.n.ages=x3.ages/\True))/\(True/\(∃ x4:Nx,((¬okN x4)/\((x1.n.most=x4.most/\(x1.n.ages=x4.ages/\True))/\(True/\((((!decide (okN x3))=false)->(((decide ((1:Int)≠(0:Int))=false)->((True/\((0=0/\0=0)/\True))/\(((x3.most=(q0 x1.n).most)/\((x3.ages=(q0 x1.n).ages)/\((0=0/\((@List.nil Cl).length=(q0 x1.n).l.length))/\True)))/\(((RLe (q0 x1.n).l.length (@List.nil Cl).length)/\(RowsEq [.int .i64,.int .i64,.int .i64] (q0 x1.n).l.length (encL encC (@List.nil Cl)) (encL encC (q0 x1.n).l)))/\True))))/\((decide ((1:Int)≠(0:Int))=true)->((True/\((0=0/\0=0)/\True))/\(((x3.most=(q0 x1.n).most)/\((x3.ages=(q0 x1.n).ages)/\((0=0/\((@List.nil Cl).length=(q0 x1.n).l.length))/\True)))/\(((RLe (q0 x1.n).l.length (@List.nil Cl).length)/\(RowsEq [.int .i64,.int .i64,.int .i64] (q0 x1.n).l.length (encL encC (@List.nil Cl)) (encL encC (q0 x1.n).l)))/\True))))))/\(((!decide (okN x3))=true)->((True/\((0=0/\0=0)/\True))/\(((x3.most=(q0 x1.n).most)/\((x3.ages=(q0 x1.n).ages)/\((0=0/\((@List.nil Cl).length=(q0 x1.n).l.length))/\True)))/\(((RLe (q0 x1.n).l.length (@List.nil Cl).length)/\(RowsEq [.int .i64,.int .i64,.int .i64] (q0 x1.n).l.length (encL encC (@List.nil Cl)) (encL encC (q0 x1.n).l)))/\True))))))))))))))))=(Keeps cfgRn Try.f20 (runNoC fun x=>¬ okN x.n) runI) by kernel_rfl) (fun x1=>fun h2=>⟨(Rux.n x1),trivial,
⟨rfl,rfl,trivial⟩,trivial,
(Rux.n x1),
(by(try dsimp only at *);omega),
⟨rfl,rfl,trivial⟩,trivial,
fun g5=>have h5:=nF g5;⟨fun g6=>have h6:=dF g6;⟨⟨trivial,
⟨rfl,rfl⟩,trivial⟩,
⟨(by(try dsimp only at *);omega),
(by(try dsimp only at *);omega),
⟨rfl,
(by(try dsimp only at *);omega)⟩,trivial⟩,
⟨⟨(by(try dsimp only at *);omega)⟩,
(by(try dsimp only at *);omega)⟩,trivial⟩,
fun g7=>have h7:=dT g7;⟨⟨trivial,
⟨rfl,rfl⟩,trivial⟩,
⟨(by(try dsimp only at *);grind),
(by(try dsimp only at *);grind),
⟨rfl,
(by(try dsimp only at *);grind)⟩,trivial⟩,
⟨⟨(by(try dsimp only at *);grind)⟩,
(by(try dsimp only at *);exact rr)⟩,trivial⟩⟩,
fun g8=>have h8:=nT g8;⟨⟨trivial,
⟨rfl,rfl⟩,trivial⟩,
⟨(by(try dsimp only at *);rfl),
(by(try dsimp only at *);rfl),
⟨rfl,
(by(try dsimp only at *);rfl)⟩,trivial⟩,
⟨⟨(by(try dsimp only at *);exact Nat.le_refl _)⟩,
(by(try dsimp only at *);exact rr)⟩,trivial⟩⟩)
set_option maxRecDepth 100000 in
theorem runM_keeps:Keeps cfgRu Try.f20 (runNoC fun x=>okN x.n/\30<x.l.length) runI:=Eq.mp (show((∀ x1:Rux,((okN x1.n/\30<x1.l.length)->(∃ x3:Nx,(True/\((x1.n.most=x3.most/\(x1.n.ages=x3.ages/\True))/\(True/\(∃ x4:Nx,((okN x4)/\((x1.n.most=x4.most/\(x1.n.ages=x4.ages/\True))/\(True/\((((!decide (okN x3))=false)->(((decide ((0:Int)≠(0:Int))=false)->(((decide (30<(x1.l.length:Int))=true)->((True/\((0=0/\0=0)/\True))/\(((x3.most=(q0 x1.n).most)/\((x3.ages=(q0 x1.n).ages)/\((0=0/\((@List.nil Cl).length=(q0 x1.n).l.length))/\True)))/\(((RLe (q0 x1.n).l.length (@List.nil Cl).length)/\(RowsEq [.int .i64,.int .i64,.int .i64] (q0 x1.n).l.length (encL encC (@List.nil Cl)) (encL encC (q0 x1.n).l)))/\True))))/\((decide (30<(x1.l.length:Int))=false)->(∃ x9:Nat,(((x9<=x1.l.length)/\(((0=(x9:Int))/\((0=0/\0=0)/\((0=0/\0=0)/\(((x1.l.length:Int)=(x1.l.length:Int))/\((0=0/\x1.l.length=x1.l.length)/\((decide (30<(x1.l.length:Int))=decide (30<(x1.l.length:Int)))/\((decide (30<(x1.l.length:Int))=decide (30<(x1.l.length:Int)))/\(((x1.l.length:Int)=(x1.l.length:Int))/\((0=0/\x1.l.length=x1.l.length)/\(false=false/\(false=false/\(false=false/\((decide ((0:Int)≠(0:Int))=decide ((0:Int)≠(0:Int)))/\((decide ((0:Int)≠(0:Int))=decide ((0:Int)≠(0:Int)))/\((decide ((0:Int)≠(0:Int))=decide ((0:Int)≠(0:Int)))/\(((0:Int)=0)/\(((!decide (okN x3))= !decide (okN x3))/\(((!decide (okN x3))= !decide (okN x3))/\((decide (okN x3)=decide (okN x3))/\(((0:Int)=0)/\(((0:Int)=0)/\(x1.n.ages=x1.n.ages/\(x1.n.most=x1.n.most/\((decide (okN x3)=decide (okN x3))/\((decide (okN x3)=decide (okN x3))/\(x1.n.ages=x1.n.ages/\(x1.n.most=x1.n.most/\(True/\(True/\(x1.n.most=x1.n.most/\(x1.n.ages=x1.n.ages/\((0=0/\x1.l.length=x1.l.length)/\True))))))))))))))))))))))))))))))))/\(((x4.most=(stF x1 x9).most)/\((x4.ages=(stF x1 x9).ages)/\(True/\True)))/\((MapEq [.int .i64,.int .i64] (idsC (@List.nil Cl)) (idsC (stF x1 x9).l) (valC (@List.nil Cl)) (valC (stF x1 x9).l))/\(((x3.most=(stF x1 x9).most)/\((x3.ages=(stF x1 x9).ages)/\((0=0/\((@List.nil Cl).length=(stF x1 x9).l.length))/\True)))/\(((RLe (stF x1 x9).l.length (@List.nil Cl).length)/\(RowsEq [.int .i64,.int .i64,.int .i64] (stF x1 x9).l.length (encL encC (@List.nil Cl)) (encL encC (stF x1 x9).l)))/\(((RLe x1.l.length x1.l.length)/\(RowsEq [.int .i64,.int .i64,.int .i64,.int .i64,.int .i64] x1.l.length (encL encA x1.l) (encL encA x1.l)))/\True)))))))/\(∀ x10:Nat,((x10<=x1.l.length)->(((decide ((x10:Int)<(x1.l.length:Int))=true)->((((0:Int)<=(x10:Int))/\((x10:Int)<(x1.l.length:Int)))/\((0+Int.toNat (x10:Int)<x1.l.length)/\(∃ x13:Dox,(((QOk x13.q)/\(x13.q.l.length<=(900:Nat)))/\(((0=0/\0=0)/\((0=0/\0=0)/\((((x1.l.getD (0+Int.toNat (x10:Int)) default).kind=x13.a.kind)/\(((x1.l.getD (0+Int.toNat (x10:Int)) default).call=x13.a.call)/\(((x1.l.getD (0+Int.toNat (x10:Int)) default).urg=x13.a.urg)/\(((x1.l.getD (0+Int.toNat (x10:Int)) default).since=x13.a.since)/\(((x1.l.getD (0+Int.toNat (x10:Int)) default).now=x13.a.now)/\True)))))/\True)))/\(((((stF x1 x10).most=x13.q.most)/\(((stF x1 x10).ages=x13.q.ages)/\(True/\True)))/\((MapEq [.int .i64,.int .i64] (idsC (stF x1 x10).l) (idsC x13.q.l) (valC (stF x1 x10).l) (valC x13.q.l))/\((((stF x1 x10).most=x13.q.most)/\(((stF x1 x10).ages=x13.q.ages)/\((0=0/\((stF x1 x10).l.length=x13.q.l.length))/\True)))/\(((RLe x13.q.l.length (stF x1 x10).l.length)/\(RowsEq [.int .i64,.int .i64,.int .i64] x13.q.l.length (encL encC (stF x1 x10).l) (encL encC x13.q.l)))/\True))))/\((((-9223372036854775808:Int)<=(x10:Int)+1)/\((x10:Int)+1<=(9223372036854775807:Int)))/\(∃ x14:Nat,((x1.l.length-x14<x1.l.length-x10)/\((x14<=x1.l.length)/\((((x10:Int)+1=(x14:Int))/\((0=0/\0=0)/\((0=0/\0=0)/\(((x1.l.length:Int)=(x1.l.length:Int))/\((0=0/\x1.l.length=x1.l.length)/\((decide (30<(x1.l.length:Int))=decide (30<(x1.l.length:Int)))/\((decide (30<(x1.l.length:Int))=decide (30<(x1.l.length:Int)))/\(((x1.l.length:Int)=(x1.l.length:Int))/\((0=0/\x1.l.length=x1.l.length)/\(false=false/\(false=false/\(false=false/\((decide ((0:Int)≠(0:Int))=decide ((0:Int)≠(0:Int)))/\((decide ((0:Int)≠(0:Int))=decide ((0:Int)≠(0:Int)))/\((decide ((0:Int)≠(0:Int))=decide ((0:Int)≠(0:Int)))/\(((0:Int)=0)/\(((!decide (okN x3))= !decide (okN x3))/\(((!decide (okN x3))= !decide (okN x3))/\((decide (okN x3)=decide (okN x3))/\(((0:Int)=0)/\(((0:Int)=0)/\(x1.n.ages=x1.n.ages/\(x1.n.most=x1.n.most/\((decide (okN x3)=decide (okN x3))/\((decide (okN x3)=decide (okN x3))/\(x1.n.ages=x1.n.ages/\(x1.n.most=x1.n.most/\(True/\(True/\(x1.n.most=x1.n.most/\(x1.n.ages=x1.n.ages/\((0=0/\x1.l.length=x1.l.length)/\True))))))))))))))))))))))))))))))))/\((((stepQ x13.q x13.a).most=(stF x1 x14).most)/\(((stepQ x13.q x13.a).ages=(stF x1 x14).ages)/\(True/\True)))/\((MapEq [.int .i64,.int .i64] (idsC (stepQ x13.q x13.a).l) (idsC (stF x1 x14).l) (valC (stepQ x13.q x13.a).l) (valC (stF x1 x14).l))/\((((stepQ x13.q x13.a).most=(stF x1 x14).most)/\(((stepQ x13.q x13.a).ages=(stF x1 x14).ages)/\((0=0/\((stepQ x13.q x13.a).l.length=(stF x1 x14).l.length))/\True)))/\(((RLe (stF x1 x14).l.length (stepQ x13.q x13.a).l.length)/\(RowsEq [.int .i64,.int .i64,.int .i64] (stF x1 x14).l.length (encL encC (stepQ x13.q x13.a).l) (encL encC (stF x1 x14).l)))/\(((RLe x1.l.length x1.l.length)/\(RowsEq [.int .i64,.int .i64,.int .i64,.int .i64,.int .i64] x1.l.length (encL encA x1.l) (encL encA x1.l)))/\True)))))))))))))))))/\((decide ((x10:Int)<(x1.l.length:Int))=false)->(((False)/\((0=0/\0=0)/\True))/\((((stF x1 x10).most=(q0 x1.n).most)/\(((stF x1 x10).ages=(q0 x1.n).ages)/\((0=0/\((stF x1 x10).l.length=(q0 x1.n).l.length))/\True)))/\(((RLe (q0 x1.n).l.length (stF x1 x10).l.length)/\(RowsEq [.int .i64,.int .i64,.int .i64] (q0 x1.n).l.length (encL encC (stF x1 x10).l) (encL encC (q0 x1.n).l)))/\True))))))))))))/\((decide ((0:Int)≠(0:Int))=true)->((True/\((0=0/\0=0)/\True))/\(((x3.most=(q0 x1.n).most)/\((x3.ages=(q0 x1.n).ages)/\((0=0/\((@List.nil Cl).length=(q0 x1.n).l.length))/\True)))/\(((RLe (q0 x1.n).l.length (@List.nil Cl).length)/\(RowsEq [.int .i64,.int .i64,.int .i64] (q0 x1.n).l.length (encL encC (@List.nil Cl)) (encL encC (q0 x1.n).l)))/\True))))))/\(((!decide (okN x3))=true)->((True/\((0=0/\0=0)/\True))/\(((x3.most=(q0 x1.n).most)/\((x3.ages=(q0 x1.n).ages)/\((0=0/\((@List.nil Cl).length=(q0 x1.n).l.length))/\True)))/\(((RLe (q0 x1.n).l.length (@List.nil Cl).length)/\(RowsEq [.int .i64,.int .i64,.int .i64] (q0 x1.n).l.length (encL encC (@List.nil Cl)) (encL encC (q0 x1.n).l)))/\True))))))))))))))))=(Keeps cfgRu Try.f20 (runNoC fun x=>okN x.n/\30<x.l.length) runI) by kernel_rfl) (fun x1=>fun h2=>⟨(Rux.n x1),
 trivial,
⟨rfl,rfl,trivial⟩,trivial,
(Rux.n x1),
(by(try dsimp only at *);grind),
⟨rfl,rfl,trivial⟩,trivial,
fun g5=>have h5:=nF g5;⟨fun g6=>have h6:=dF g6;⟨fun g7=>have h7:=dT g7;⟨⟨trivial,
⟨rfl,rfl⟩,trivial⟩,
⟨(by(try dsimp only at *);rfl),
(by(try dsimp only at *);rfl),
⟨rfl,
(by(try dsimp only at *);rfl)⟩,trivial⟩,
⟨⟨(by(try dsimp only at *);exact Nat.le_refl _)⟩,
(by(try dsimp only at *);exact rr)⟩,trivial⟩,
fun g8=>have h8:=dF g8;⟨((0:Nat)),
⟨(by(try dsimp only at *);omega),
⟨(by(try dsimp only at *);omega),
⟨rfl,rfl⟩,
⟨rfl,rfl⟩,rfl,
⟨rfl,rfl⟩,rfl,rfl,rfl,
⟨rfl,rfl⟩,rfl,rfl,rfl,rfl,rfl,rfl,rfl,rfl,rfl,rfl,rfl,rfl,rfl,rfl,rfl,rfl,rfl,rfl,trivial,trivial,rfl,rfl,
⟨rfl,rfl⟩,trivial⟩,
⟨(by(try dsimp only at *);omega),
(by(try dsimp only at *);omega),trivial,trivial⟩,
(by(try dsimp only at *);omega),
⟨(by(try dsimp only at *);omega),
(by(try dsimp only at *);omega),
⟨rfl,
(by(try dsimp only at *);omega)⟩,trivial⟩,
⟨⟨(by(try dsimp only at *);omega)⟩,
(by(try dsimp only at *);omega)⟩,
⟨rl,rr⟩,trivial⟩,
fun x10=>fun h11=>⟨fun g12=>have h12:=dT g12;⟨⟨(by(try dsimp only at *);omega),
(by(try dsimp only at *);omega)⟩,
(by(try dsimp only at *);omega),
({ q:=stF x1 x10,a:=List.getD (Rux.l x1) ((0:Nat)+Int.toNat (↑x10:Int)) default:Dox }),
⟨(by(try dsimp only at *);omega),
(by(try dsimp only at *);omega)⟩,
⟨⟨rfl,rfl⟩,
⟨rfl,rfl⟩,
⟨rfl,rfl,rfl,rfl,rfl,trivial⟩,trivial⟩,
⟨⟨rfl,rfl,trivial,trivial⟩,
(by(try dsimp only at *);omega),
⟨rfl,rfl,
⟨rfl,rfl⟩,trivial⟩,
⟨rl,rr⟩,trivial⟩,
⟨(by(try dsimp only at *);omega),
(by(try dsimp only at *);omega)⟩,
(x10+(1:Nat)),
(by(try dsimp only at *);omega),
(by(try dsimp only at *);omega),
⟨(by(try dsimp only at *);omega),
⟨rfl,rfl⟩,
⟨rfl,rfl⟩,rfl,
⟨rfl,rfl⟩,rfl,rfl,rfl,
⟨rfl,rfl⟩,rfl,rfl,rfl,rfl,rfl,rfl,rfl,rfl,rfl,rfl,rfl,rfl,rfl,rfl,rfl,rfl,rfl,rfl,trivial,trivial,rfl,rfl,
⟨rfl,rfl⟩,trivial⟩,
⟨(by(try dsimp only at *);omega),
(by(try dsimp only at *);omega),trivial,trivial⟩,
(by(try dsimp only at *);omega),
⟨(by(try dsimp only at *);omega),
(by(try dsimp only at *);omega),
⟨rfl,
(by(try dsimp only at *);omega)⟩,trivial⟩,
⟨⟨(by(try dsimp only at *);omega)⟩,
(by(try dsimp only at *);omega)⟩,
⟨rl,rr⟩,trivial⟩,
fun g15=>have h15:=dF g15;⟨⟨(by(try dsimp only at *);omega),
⟨rfl,rfl⟩,trivial⟩,
⟨(by(try dsimp only at *);omega),
(by(try dsimp only at *);omega),
⟨rfl,
(by(try dsimp only at *);omega)⟩,trivial⟩,
⟨⟨(by(try dsimp only at *);omega)⟩,
(by(try dsimp only at *);omega)⟩,trivial⟩⟩⟩⟩,
fun g16=>have h16:=dT g16;⟨⟨trivial,
⟨rfl,rfl⟩,trivial⟩,
⟨(by(try dsimp only at *);omega),
(by(try dsimp only at *);omega),
⟨rfl,
(by(try dsimp only at *);omega)⟩,trivial⟩,
⟨⟨(by(try dsimp only at *);omega)⟩,
(by(try dsimp only at *);omega)⟩,trivial⟩⟩,
fun g17=>have h17:=nT g17;⟨⟨trivial,
⟨rfl,rfl⟩,trivial⟩,
⟨(by(try dsimp only at *);grind),
(by(try dsimp only at *);grind),
⟨rfl,
(by(try dsimp only at *);grind)⟩,trivial⟩,
⟨⟨(by(try dsimp only at *);grind)⟩,
(by(try dsimp only at *);exact rr)⟩,trivial⟩⟩)
theorem runNo_good:Good Try.prog 20 (runNoC fun x=>¬ (okN x.n/\x.l.length<=30))/\FnOk Try.prog 20:=by
 have a:=good_of tok conRn (f:=20) (fn:=Try.f20) rfl (by decide+kernel) (fun _=>rfl) runN_keeps
 have b:=good_of tok conRu (f:=20) (fn:=Try.f20) rfl (by decide+kernel) (fun _=>rfl) runM_keeps
 refine⟨fun x hx=>?_,a.2⟩
 by_cases h:okN x.n
 ·exact b.1 x ⟨h,Nat.lt_of_not_le fun q=>hx ⟨h,q⟩⟩
 ·exact a.1 x h
end Go.Sym