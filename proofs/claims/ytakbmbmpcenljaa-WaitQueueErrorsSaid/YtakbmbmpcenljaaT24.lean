import Derived.Test.YtakbmbmpcenljaaT17
import Derived.Test.YtakbmbmpcenljaaXD
namespace Go.Sym
set_option linter.unusedVariables false
set_option linter.unusedSimpArgs false
open Go.Proofs
set_option maxRecDepth 100000
set_option maxHeartbeats 4000000
structure Lex where
 n:Nx
 l:List Act
 a:Act
def Lex.w (x:Lex):Lwx:=⟨x.n,x.l,x.a.now⟩
def leA (x:Lex):List SV:=[.agg [.i .i64 x.n.most,.i .i64 x.n.ages],.sl 100000 0 x.l.length,actV x.a]
def leH (x:Lex):List (Nat × Blk):=actsH 100000 x.l
def lawE (b:Bool):CT:=⟨Lex,fun x=>True/\okL x.w=b,leA,leH,fun _=>.b true,fun _=>[]⟩
def lawEC:CT:=⟨Lex,fun x=>True,leA,leH,fun _=>.b true,fun _=>[]⟩
structure ErX where
 k:Nat
 t:List Int
def erI (x:Lex) (id:Nat):Option Inv:=match id with
 |0=>some { X:=ErX,ok:=fun s=>s.k<=x.w.q.l.length/\s.t.length=x.w.q.l.length,fr:=fun s=>[(39,.i .i64 s.k),(37,.sl 501 0 x.w.q.l.length),(10,.sl 501 0 x.w.q.l.length)],hp:=fun s=>[(501,.rows .own k1 x.w.q.l.length (encL encI s.t))],me:=fun s=>x.w.q.l.length-s.k }
 |_=>none
def CEr (r:CT):List (Nat × Con):=[(20,.one r),(10,.one awC),(16,.one qoC),(17,.one roC),(26,.one qaC),(27,.one qsC),(15,.one sameC)]
def cfgEry:Cfg:=⟨T,[],CEr runC,noInv,94,{}⟩
def cfgErn:Cfg:=⟨T,[],CEr (runNoC fun x=>¬ (okN x.n/\x.l.length<=30)),noInv,94,{}⟩
theorem conEr {r:CT} (h:Good Try.prog 20 r/\FnOk Try.prog 20):ConL Try.prog (CEr r):=.cons (ConL.one h) (.cons (ConL.one aw_good) (.cons (ConL.one qo_good) (.cons (ConL.one ro_good) (.cons (ConL.one qa_good) (.cons (ConL.one qs_good) (.cons (ConL.one same_good) .nil))))))
theorem conEry:ConOk Try.prog cfgEry:=ConL.ok (conEr run_good)
theorem conErn:ConOk Try.prog cfgErn:=ConL.ok (conEr runNo_good)
theorem add_err {l:List Cl} {k u s:Int} (h:¬ addR l k u s=0):addL l k u s=l:=by
 unfold addR at h
 unfold addL
 split at h
 ·exact if_pos (.inl ‹_›)
 ·split at h
  ·exact if_pos (.inr ‹_›)
  ·exact absurd rfl h
theorem set_err {l:List Cl} {k u:Int} (h:¬ setR l k u=0):setL l k u=l:=by
 unfold setR at h
 unfold setL
 split at h
 ·exact if_pos (.inl ‹_›)
 ·split at h
  ·exact if_pos (.inr ‹_›)
  ·exact absurd rfl h
theorem er_set {t:List Int} {k n:Nat} (h:k<t.length):RowsEq k1 n (setRow (encL encI t) (0+(k:Int).toNat) 0 [D.i 0]) (encL encI (t.set k 0)):=by
 rw[nat0];exact rowsEq_set h ⟨rfl,trivial⟩
set_option maxRecDepth 100000 in
theorem w9n:Keeps cfgErn Try.f9 (lawE false) erI:=Eq.mp (show((∀ x1:Lex,((True/\okL (Lex.w x1)=false)->(∃ x3:Rux,((¬(okN x3.n/\x3.l.length<=(30:Nat)))/\((x1.n.most=x3.n.most/\(x1.n.ages=x3.n.ages/\((0=0/\x1.l.length=x3.l.length)/\True)))/\((((RLe x3.l.length x1.l.length)/\(RowsEq [.int .i64,.int .i64,.int .i64,.int .i64,.int .i64] x3.l.length (encL encA x1.l) (encL encA x3.l)))/\True)/\(∃ x4:Unit,(True/\(True/\(True/\((false=false->(∃ x6:Unit,(True/\(True/\(True/\(true=true/\True))))))/\(false=true->(∃ x8:Unit,(True/\(True/\(True/\(true=true/\True))))))))))))))))))=(Keeps cfgErn Try.f9 (lawE false) erI) by kernel_rfl) (fun x1=>fun h2=>⟨(Lwx.r (Lex.w x1)),
(by(try dsimp only at *);exact okL_n h2.2),
⟨(by(try dsimp only at *);rfl),
(by(try dsimp only at *);rfl),
⟨rfl,
(by(try dsimp only at *);rfl)⟩,trivial⟩,
⟨⟨⟨(by(try dsimp only at *);exact Nat.le_refl _)⟩,
(by(try dsimp only at *);exact rr)⟩,trivial⟩,
(()),trivial,trivial,trivial,
fun h5=>⟨(default),trivial,trivial,trivial,rfl,trivial⟩,
fun h7=>⟨(default),trivial,trivial,trivial,rfl,trivial⟩⟩)
set_option maxRecDepth 100000 in
theorem w9y:Keeps cfgEry Try.f9 (lawE true) erI:=Eq.mp (show((∀ x1:Lex,((True/\okL (Lex.w x1)=true)->(∃ x3:Rux,(((okN x3.n)/\(x3.l.length<=(30:Nat)))/\((x1.n.most=x3.n.most/\(x1.n.ages=x3.n.ages/\((0=0/\x1.l.length=x3.l.length)/\True)))/\((((RLe x3.l.length x1.l.length)/\(RowsEq [.int .i64,.int .i64,.int .i64,.int .i64,.int .i64] x3.l.length (encL encA x1.l) (encL encA x3.l)))/\True)/\(∃ x4:Unit,(True/\(True/\(True/\((false=false->(∃ x6:NwX,(((QOk x6.q)/\(x6.q.l.length<=(30:Nat)))/\(((0=0/\0=0)/\(x1.a.now=x6.now/\True))/\(((((enF x3).most=x6.q.most)/\(((enF x3).ages=x6.q.ages)/\((0=0/\((enF x3).l.length=x6.q.l.length))/\True)))/\(((RLe x6.q.l.length (enF x3).l.length)/\(RowsEq [.int .i64,.int .i64,.int .i64] x6.q.l.length (encL encC (enF x3).l) (encL encC x6.q.l)))/\True))/\(∃ x7:NwX,(((QOk x7.q)/\(x7.q.l.length<=(30:Nat)))/\(((0=0/\0=0)/\(x1.a.now=x7.now/\True))/\(((((enF x3).most=x7.q.most)/\(((enF x3).ages=x7.q.ages)/\(True/\True)))/\((MapEq [.int .i64,.int .i64] (idsC (enF x3).l) (idsC x7.q.l) (valC (enF x3).l) (valC x7.q.l))/\True))/\(∃ x8:ErX,((((x8.k<=(Lwx.q (Lex.w x1)).l.length)/\(x8.t.length=(Lwx.q (Lex.w x1)).l.length))/\(((0=(x8.k:Int))/\((0=0/\(x7.q.l.length=(Lwx.q (Lex.w x1)).l.length))/\((0=0/\(x7.q.l.length=(Lwx.q (Lex.w x1)).l.length))/\(((x7.q.l.length:Int)=(x7.q.l.length:Int))/\(x1.a.now=x1.a.now/\((0=0/\((4:Nat)=(4:Nat)))/\((0=0/\0=0)/\((0=0/\x6.q.l.length=x6.q.l.length)/\((0=0/\x6.q.l.length=x6.q.l.length)/\(x1.a.now=x1.a.now/\((0=0/\((4:Nat)=(4:Nat)))/\((0=0/\0=0)/\(false=false/\(false=false/\((0=0/\0=0)/\(false=false/\(false=false/\(true=true/\((0=0/\0=0)/\((0=0/\0=0)/\((0=0/\0=0)/\((0=0/\0=0)/\(((0=0/\0=0)/\((0=0/\0=0)/\True))/\(((0=0/\0=0)/\((0=0/\0=0)/\True))/\((0=0/\x1.l.length=x1.l.length)/\(x1.n.ages=x1.n.ages/\((0=0/\((1:Nat)=(1:Nat)))/\(x1.n.most=x1.n.most/\((0=0/\0=0)/\(false=false/\((0=0/\0=0)/\((0=0/\0=0)/\((x1.n.most=x1.n.most/\(x1.n.ages=x1.n.ages/\True))/\((0=0/\x1.l.length=x1.l.length)/\((x1.a.kind=x1.a.kind/\(x1.a.call=x1.a.call/\(x1.a.urg=x1.a.urg/\(x1.a.since=x1.a.since/\(x1.a.now=x1.a.now/\True)))))/\True)))))))))))))))))))))))))))))))))))/\(((RLe (Lwx.q (Lex.w x1)).l.length x7.q.l.length)/\(RowsEq [.int .i64] (Lwx.q (Lex.w x1)).l.length (encL encI (orderF x7.q x7.now)) (encL encI x8.t)))/\(((RLe x6.q.l.length x6.q.l.length)/\(RI x6.q.l.length (orderF x6.q x6.now) (orderF x6.q x6.now)))/\((((enF x3).most=(enF x3).most)/\(((enF x3).ages=(enF x3).ages)/\(True/\True)))/\((MapEq [.int .i64,.int .i64] (idsC (enF x3).l) (idsC (enF x3).l) (valC (enF x3).l) (valC (enF x3).l))/\((((enF x3).most=(enF x3).most)/\(((enF x3).ages=(enF x3).ages)/\((0=0/\((enF x3).l.length=(enF x3).l.length))/\True)))/\(((RLe (enF x3).l.length (enF x3).l.length)/\(RowsEq [.int .i64,.int .i64,.int .i64] (enF x3).l.length (encL encC (enF x3).l) (encL encC (enF x3).l)))/\((x1.a.kind=x1.a.kind/\(x1.a.call=x1.a.call/\(x1.a.urg=x1.a.urg/\(x1.a.since=x1.a.since/\(x1.a.now=x1.a.now/\True)))))/\((x1.n.most=x1.n.most/\(x1.n.ages=x1.n.ages/\True))/\(((RLe x1.l.length x1.l.length)/\(RowsEq [.int .i64,.int .i64,.int .i64,.int .i64,.int .i64] x1.l.length (encL encA x1.l) (encL encA x1.l)))/\True)))))))))))/\(∀ x9:ErX,((x9.k<=(Lwx.q (Lex.w x1)).l.length/\x9.t.length=(Lwx.q (Lex.w x1)).l.length)->(((decide ((x9.k:Int)<(x7.q.l.length:Int))=true)->((((0:Int)<=(x9.k:Int))/\((x9.k:Int)<(↑(Lwx.q (Lex.w x1)).l.length:Int)))/\(((0+Int.toNat (x9.k:Int)<(Lwx.q (Lex.w x1)).l.length)/\(True/\True))/\((((-9223372036854775808:Int)<=(x9.k:Int)+1)/\((x9.k:Int)+1<=(9223372036854775807:Int)))/\(∃ x12:ErX,(((Lwx.q (Lex.w x1)).l.length-x12.k<(Lwx.q (Lex.w x1)).l.length-x9.k)/\(((x12.k<=(Lwx.q (Lex.w x1)).l.length)/\(x12.t.length=(Lwx.q (Lex.w x1)).l.length))/\((((x9.k:Int)+1=(x12.k:Int))/\((0=0/\((Lwx.q (Lex.w x1)).l.length=(Lwx.q (Lex.w x1)).l.length))/\((0=0/\((Lwx.q (Lex.w x1)).l.length=(Lwx.q (Lex.w x1)).l.length))/\(((x7.q.l.length:Int)=(x7.q.l.length:Int))/\(x1.a.now=x1.a.now/\((0=0/\((4:Nat)=(4:Nat)))/\((0=0/\0=0)/\((0=0/\x6.q.l.length=x6.q.l.length)/\((0=0/\x6.q.l.length=x6.q.l.length)/\(x1.a.now=x1.a.now/\((0=0/\((4:Nat)=(4:Nat)))/\((0=0/\0=0)/\(false=false/\(false=false/\((0=0/\0=0)/\(false=false/\(false=false/\(true=true/\((0=0/\0=0)/\((0=0/\0=0)/\((0=0/\0=0)/\((0=0/\0=0)/\(((0=0/\0=0)/\((0=0/\0=0)/\True))/\(((0=0/\0=0)/\((0=0/\0=0)/\True))/\((0=0/\x1.l.length=x1.l.length)/\(x1.n.ages=x1.n.ages/\((0=0/\((1:Nat)=(1:Nat)))/\(x1.n.most=x1.n.most/\((0=0/\0=0)/\(false=false/\((0=0/\0=0)/\((0=0/\0=0)/\((x1.n.most=x1.n.most/\(x1.n.ages=x1.n.ages/\True))/\((0=0/\x1.l.length=x1.l.length)/\((x1.a.kind=x1.a.kind/\(x1.a.call=x1.a.call/\(x1.a.urg=x1.a.urg/\(x1.a.since=x1.a.since/\(x1.a.now=x1.a.now/\True)))))/\True)))))))))))))))))))))))))))))))))))/\(((RLe (Lwx.q (Lex.w x1)).l.length (Lwx.q (Lex.w x1)).l.length)/\(RowsEq [.int .i64] (Lwx.q (Lex.w x1)).l.length (setRow (encL encI x9.t) (0+Int.toNat (x9.k:Int)) 0 (D.i 0::@List.nil D)) (encL encI x12.t)))/\(((RLe x6.q.l.length x6.q.l.length)/\(RI x6.q.l.length (orderF x6.q x6.now) (orderF x6.q x6.now)))/\((((enF x3).most=(enF x3).most)/\(((enF x3).ages=(enF x3).ages)/\(True/\True)))/\((MapEq [.int .i64,.int .i64] (idsC (enF x3).l) (idsC (enF x3).l) (valC (enF x3).l) (valC (enF x3).l))/\((((enF x3).most=(enF x3).most)/\(((enF x3).ages=(enF x3).ages)/\((0=0/\((enF x3).l.length=(enF x3).l.length))/\True)))/\(((RLe (enF x3).l.length (enF x3).l.length)/\(RowsEq [.int .i64,.int .i64,.int .i64] (enF x3).l.length (encL encC (enF x3).l) (encL encC (enF x3).l)))/\((x1.a.kind=x1.a.kind/\(x1.a.call=x1.a.call/\(x1.a.urg=x1.a.urg/\(x1.a.since=x1.a.since/\(x1.a.now=x1.a.now/\True)))))/\((x1.n.most=x1.n.most/\(x1.n.ages=x1.n.ages/\True))/\(((RLe x1.l.length x1.l.length)/\(RowsEq [.int .i64,.int .i64,.int .i64,.int .i64,.int .i64] x1.l.length (encL encA x1.l) (encL encA x1.l)))/\True)))))))))))))))))/\((decide ((x9.k:Int)<(x7.q.l.length:Int))=false)->(∃ x14:NwX,(((QOk x14.q)/\(x14.q.l.length<=(30:Nat)))/\(((0=0/\0=0)/\(x1.a.now=x14.now/\True))/\(((((enF x3).most=x14.q.most)/\(((enF x3).ages=x14.q.ages)/\(True/\True)))/\((MapEq [.int .i64,.int .i64] (idsC (enF x3).l) (idsC x14.q.l) (valC (enF x3).l) (valC x14.q.l))/\True))/\(∃ x15:LDx,(((x15.a.length<=(1000:Nat))/\((x15.b.length<=(1000:Nat))/\(x15.lo<=x15.b.length)))/\(((0=0/\x14.q.l.length=x15.a.length)/\((((0:Nat)=x15.lo)/\(x6.q.l.length=x15.b.length-x15.lo))/\True))/\((((RLe x15.a.length x14.q.l.length)/\(RI x15.a.length (orderF x14.q x14.now) x15.a))/\(((RLe x15.b.length x6.q.l.length)/\(RI x15.b.length (orderF x6.q x6.now) x15.b))/\True))/\((((!decide (x15.a=List.drop x15.lo x15.b))=true)->(false=true/\True))/\(((!decide (x15.a=List.drop x15.lo x15.b))=false)->(((decide (x1.a.kind=(1:Int))=true)->(∃ x19:Ax,((List.Nodup (idsC x19.q.l))/\(((0=0/\0=0)/\(x1.a.call=x19.k/\(x1.a.urg=x19.u/\(x1.a.since=x19.s/\True))))/\(((((enF x3).most=x19.q.most)/\(((enF x3).ages=x19.q.ages)/\(True/\True)))/\((MapEq [.int .i64,.int .i64] (idsC (enF x3).l) (idsC x19.q.l) (valC (enF x3).l) (valC x19.q.l))/\True))/\(((decide (addR x19.q.l x19.k x19.u x19.s=(0:Int))=false)->(∃ x21:NwX,(((QOk x21.q)/\(x21.q.l.length<=(30:Nat)))/\(((0=0/\0=0)/\(x1.a.now=x21.now/\True))/\(((x19.q.most=x21.q.most/\(x19.q.ages=x21.q.ages/\(True/\True)))/\((MapEq [.int .i64,.int .i64] (idsC (addL x19.q.l x19.k x19.u x19.s)) (idsC x21.q.l) (valC (addL x19.q.l x19.k x19.u x19.s)) (valC x21.q.l))/\True))/\(∃ x22:LDx,(((x22.a.length<=(1000:Nat))/\((x22.b.length<=(1000:Nat))/\(x22.lo<=x22.b.length)))/\(((0=0/\x21.q.l.length=x22.a.length)/\((((0:Nat)=x22.lo)/\(x6.q.l.length=x22.b.length-x22.lo))/\True))/\((((RLe x22.a.length x21.q.l.length)/\(RI x22.a.length (orderF x21.q x21.now) x22.a))/\(((RLe x22.b.length x6.q.l.length)/\(RI x22.b.length (orderF x6.q x6.now) x22.b))/\True))/\((decide (x22.a=List.drop x22.lo x22.b)=true)/\True))))))))))/\((decide (addR x19.q.l x19.k x19.u x19.s=(0:Int))=true)->(true=true/\True))))))))/\((decide (x1.a.kind=(1:Int))=false)->(((decide (x1.a.kind=(2:Int))=true)->(∃ x26:Ax,((List.Nodup (idsC x26.q.l))/\(((0=0/\0=0)/\(x1.a.call=x26.k/\(x1.a.urg=x26.u/\True)))/\(((((enF x3).most=x26.q.most)/\(((enF x3).ages=x26.q.ages)/\(True/\True)))/\((MapEq [.int .i64,.int .i64] (idsC (enF x3).l) (idsC x26.q.l) (valC (enF x3).l) (valC x26.q.l))/\True))/\(((decide (setR x26.q.l x26.k x26.u=(0:Int))=false)->(∃ x28:NwX,(((QOk x28.q)/\(x28.q.l.length<=(30:Nat)))/\(((0=0/\0=0)/\(x1.a.now=x28.now/\True))/\(((x26.q.most=x28.q.most/\(x26.q.ages=x28.q.ages/\(True/\True)))/\((MapEq [.int .i64,.int .i64] (idsC (setL x26.q.l x26.k x26.u)) (idsC x28.q.l) (valC (setL x26.q.l x26.k x26.u)) (valC x28.q.l))/\True))/\(∃ x29:LDx,(((x29.a.length<=(1000:Nat))/\((x29.b.length<=(1000:Nat))/\(x29.lo<=x29.b.length)))/\(((0=0/\x28.q.l.length=x29.a.length)/\((((0:Nat)=x29.lo)/\(x6.q.l.length=x29.b.length-x29.lo))/\True))/\((((RLe x29.a.length x28.q.l.length)/\(RI x29.a.length (orderF x28.q x28.now) x29.a))/\(((RLe x29.b.length x6.q.l.length)/\(RI x29.b.length (orderF x6.q x6.now) x29.b))/\True))/\((decide (x29.a=List.drop x29.lo x29.b)=true)/\True))))))))))/\((decide (setR x26.q.l x26.k x26.u=(0:Int))=true)->(true=true/\True))))))))/\((decide (x1.a.kind=(2:Int))=false)->(((decide ((0:Int)=0)=false)->(∃ x33:NwX,(((QOk x33.q)/\(x33.q.l.length<=(30:Nat)))/\(((0=0/\0=0)/\(x1.a.now=x33.now/\True))/\(((((enF x3).most=x33.q.most)/\(((enF x3).ages=x33.q.ages)/\(True/\True)))/\((MapEq [.int .i64,.int .i64] (idsC (enF x3).l) (idsC x33.q.l) (valC (enF x3).l) (valC x33.q.l))/\True))/\(∃ x34:LDx,(((x34.a.length<=(1000:Nat))/\((x34.b.length<=(1000:Nat))/\(x34.lo<=x34.b.length)))/\(((0=0/\x33.q.l.length=x34.a.length)/\((((0:Nat)=x34.lo)/\(x6.q.l.length=x34.b.length-x34.lo))/\True))/\((((RLe x34.a.length x33.q.l.length)/\(RI x34.a.length (orderF x33.q x33.now) x34.a))/\(((RLe x34.b.length x6.q.l.length)/\(RI x34.b.length (orderF x6.q x6.now) x34.b))/\True))/\((decide (x34.a=List.drop x34.lo x34.b)=true)/\True))))))))))/\((decide ((0:Int)=0)=true)->(true=true/\True))))))))))))))))))))))))))))))))/\(false=true->(∃ x37:Unit,(True/\(True/\(True/\(true=true/\True))))))))))))))))))=(Keeps cfgEry Try.f9 (lawE true) erI) by kernel_rfl) (fun x1=>fun h2=>⟨(Lwx.r (Lex.w x1)),
⟨(by(try dsimp only at *);exact(okL_y h2.2).1),
(by(try dsimp only at *);exact(okL_y h2.2).2)⟩,
⟨(by(try dsimp only at *);rfl),
(by(try dsimp only at *);rfl),
⟨rfl,
(by(try dsimp only at *);rfl)⟩,trivial⟩,
⟨⟨⟨(by(try dsimp only at *);exact Nat.le_refl _)⟩,
(by(try dsimp only at *);exact rr)⟩,trivial⟩,
(()),trivial,trivial,trivial,
fun h5=>⟨({ q:=Lwx.q (Lex.w x1),now:=Act.now (Lex.a x1):NwX }),
⟨(by(try dsimp only at *);exact(okL_q h2.2).1),
(by(try dsimp only at *);exact(okL_q h2.2).2)⟩,
⟨⟨rfl,rfl⟩,rfl,trivial⟩,
⟨⟨(by(try dsimp only at *);rfl),
(by(try dsimp only at *);rfl),
⟨rfl,
(by(try dsimp only at *);rfl)⟩,trivial⟩,
⟨⟨(by(try dsimp only at *);exact Nat.le_refl _)⟩,
(by(try dsimp only at *);exact rr)⟩,trivial⟩,
({ q:=Lwx.q (Lex.w x1),now:=Act.now (Lex.a x1):NwX }),
⟨(by(try dsimp only at *);exact(okL_q h2.2).1),
(by(try dsimp only at *);exact(okL_q h2.2).2)⟩,
⟨⟨rfl,rfl⟩,rfl,trivial⟩,
⟨⟨(by(try dsimp only at *);rfl),
(by(try dsimp only at *);rfl),trivial,trivial⟩,
(by(try dsimp only at *);exact MapEq.rfl'),trivial⟩,
({ k:=(0:Nat),t:=orderF (Lwx.q (Lex.w x1)) (Act.now (Lex.a x1)):ErX }),
⟨⟨(by(try dsimp only at *);omega),
(by(try dsimp only at *);exact orderF_len _ _)⟩,
⟨(by(try dsimp only at *);omega),
⟨rfl,rfl⟩,
⟨rfl,rfl⟩,rfl,rfl,
⟨rfl,rfl⟩,
⟨rfl,rfl⟩,
⟨rfl,rfl⟩,
⟨rfl,rfl⟩,rfl,
⟨rfl,rfl⟩,
⟨rfl,rfl⟩,rfl,rfl,
⟨rfl,rfl⟩,rfl,rfl,rfl,
⟨rfl,rfl⟩,
⟨rfl,rfl⟩,
⟨rfl,rfl⟩,
⟨rfl,rfl⟩,
⟨⟨rfl,rfl⟩,
⟨rfl,rfl⟩,trivial⟩,
⟨⟨rfl,rfl⟩,
⟨rfl,rfl⟩,trivial⟩,
⟨rfl,rfl⟩,rfl,
⟨rfl,rfl⟩,rfl,
⟨rfl,rfl⟩,rfl,
⟨rfl,rfl⟩,
⟨rfl,rfl⟩,
⟨rfl,rfl,trivial⟩,
⟨rfl,rfl⟩,
⟨rfl,rfl,rfl,rfl,rfl,trivial⟩,trivial⟩,
⟨rl,rr⟩,
⟨rl,rr⟩,
⟨rfl,rfl,trivial,trivial⟩,MapEq.rfl',
⟨rfl,rfl,
⟨rfl,rfl⟩,trivial⟩,
⟨rl,rr⟩,
⟨rfl,rfl,rfl,rfl,rfl,trivial⟩,
⟨rfl,rfl,trivial⟩,
⟨rl,rr⟩,trivial⟩,
fun x9=>fun h10=>⟨fun g11=>have h11:=dT g11;⟨⟨(by(try dsimp only at *);omega),
(by(try dsimp only at *);omega)⟩,
⟨(by(try dsimp only at *);omega),trivial,trivial⟩,
⟨(by(try dsimp only at *);omega),
(by(try dsimp only at *);(have f:=okL_f h2.2;omega))⟩,
({ k:=ErX.k x9+(1:Nat),t:=List.set (ErX.t x9) (ErX.k x9) (0:Int):ErX }),
(by(try dsimp only at *);omega),
⟨(by(try dsimp only at *);omega),
(by(try dsimp only at *);grind)⟩,
⟨(by(try dsimp only at *);omega),
⟨rfl,rfl⟩,
⟨rfl,rfl⟩,rfl,rfl,
⟨rfl,rfl⟩,
⟨rfl,rfl⟩,
⟨rfl,rfl⟩,
⟨rfl,rfl⟩,rfl,
⟨rfl,rfl⟩,
⟨rfl,rfl⟩,rfl,rfl,
⟨rfl,rfl⟩,rfl,rfl,rfl,
⟨rfl,rfl⟩,
⟨rfl,rfl⟩,
⟨rfl,rfl⟩,
⟨rfl,rfl⟩,
⟨⟨rfl,rfl⟩,
⟨rfl,rfl⟩,trivial⟩,
⟨⟨rfl,rfl⟩,
⟨rfl,rfl⟩,trivial⟩,
⟨rfl,rfl⟩,rfl,
⟨rfl,rfl⟩,rfl,
⟨rfl,rfl⟩,rfl,
⟨rfl,rfl⟩,
⟨rfl,rfl⟩,
⟨rfl,rfl,trivial⟩,
⟨rfl,rfl⟩,
⟨rfl,rfl,rfl,rfl,rfl,trivial⟩,trivial⟩,
⟨rl,
(by(try dsimp only at *);(exact er_set (by have e:=h10.2;(have h11:(x9.k:Int)<(x1.w.q.l.length:Int):=h11);omega)))⟩,
⟨rl,rr⟩,
⟨rfl,rfl,trivial,trivial⟩,MapEq.rfl',
⟨rfl,rfl,
⟨rfl,rfl⟩,trivial⟩,
⟨rl,rr⟩,
⟨rfl,rfl,rfl,rfl,rfl,trivial⟩,
⟨rfl,rfl,trivial⟩,
⟨rl,rr⟩,trivial⟩,
fun g13=>have h13:=dF g13;⟨({ q:=enF (Lwx.r (Lex.w x1)),now:=Act.now (Lex.a x1):NwX }),
⟨(by(try dsimp only at *);exact(okL_q h2.2).1),
(by(try dsimp only at *);exact(okL_q h2.2).2)⟩,
⟨⟨rfl,rfl⟩,rfl,trivial⟩,
⟨⟨rfl,rfl,trivial,trivial⟩,
(by(try dsimp only at *);exact MapEq.rfl'),trivial⟩,
({ a:=orderF (enF (Lwx.r (Lex.w x1))) (Act.now (Lex.a x1)),b:=orderF (Lwx.q (Lex.w x1)) (Act.now (Lex.a x1)),lo:=(0:Nat):LDx }),
⟨(by(try dsimp only at *);(have f:=okL_f h2.2;have e2:=orderF_len x1.w.q x1.a.now;(show(orderF x1.w.q x1.a.now).length<=1000);omega)),
(by(try dsimp only at *);(have f:=okL_f h2.2;have e2:=orderF_len x1.w.q x1.a.now;(show(orderF x1.w.q x1.a.now).length<=1000);omega)),
(by(try dsimp only at *);omega)⟩,
⟨⟨rfl,
(by(try dsimp only at *);exact(orderF_len _ _).symm)⟩,
⟨rfl,
(by(try dsimp only at *);exact(orderF_len _ _).symm)⟩,trivial⟩,
⟨⟨⟨(by(try dsimp only at *);exact Nat.le_of_eq (orderF_len _ _))⟩,rr⟩,
⟨⟨(by(try dsimp only at *);exact Nat.le_of_eq (orderF_len _ _))⟩,rr⟩,trivial⟩,
fun g16=>have h16:=nT g16;⟨(by(try dsimp only at *);exact(h16 rfl).elim),trivial⟩,
fun g17=>have h17:=nF g17;⟨fun g18=>have h18:=dT g18;⟨({ q:=enF (Lwx.r (Lex.w x1)),k:=Act.call (Lex.a x1),u:=Act.urg (Lex.a x1),s:=Act.since (Lex.a x1):Ax }),
(by(try dsimp only at *);exact(okL_q h2.2).1.n),
⟨⟨rfl,rfl⟩,rfl,rfl,rfl,trivial⟩,
⟨⟨rfl,rfl,trivial,trivial⟩,
(by(try dsimp only at *);exact MapEq.rfl'),trivial⟩,
fun g20=>have h20:=dF g20;⟨({ q:=enF (Lwx.r (Lex.w x1)),now:=Act.now (Lex.a x1):NwX }),
⟨(by(try dsimp only at *);exact(okL_q h2.2).1),
(by(try dsimp only at *);exact(okL_q h2.2).2)⟩,
⟨⟨rfl,rfl⟩,rfl,trivial⟩,
⟨⟨rfl,rfl,trivial,trivial⟩,
(by(try dsimp only at *);exact map_of (add_err ‹¬ addR _ _ _ _=0›)),trivial⟩,
({ a:=orderF (enF (Lwx.r (Lex.w x1))) (Act.now (Lex.a x1)),b:=orderF (Lwx.q (Lex.w x1)) (Act.now (Lex.a x1)),lo:=(0:Nat):LDx }),
⟨(by(try dsimp only at *);(have f:=okL_f h2.2;have e2:=orderF_len x1.w.q x1.a.now;(show(orderF x1.w.q x1.a.now).length<=1000);omega)),
(by(try dsimp only at *);(have f:=okL_f h2.2;have e2:=orderF_len x1.w.q x1.a.now;(show(orderF x1.w.q x1.a.now).length<=1000);omega)),
(by(try dsimp only at *);omega)⟩,
⟨⟨rfl,
(by(try dsimp only at *);exact(orderF_len _ _).symm)⟩,
⟨rfl,
(by(try dsimp only at *);exact(orderF_len _ _).symm)⟩,trivial⟩,
⟨⟨⟨(by(try dsimp only at *);exact Nat.le_of_eq (orderF_len _ _))⟩,rr⟩,
⟨⟨(by(try dsimp only at *);exact Nat.le_of_eq (orderF_len _ _))⟩,rr⟩,trivial⟩,
(by(try dsimp only at *);grind),trivial⟩,
fun g23=>have h23:=dT g23;⟨rfl,trivial⟩⟩,
fun g24=>have h24:=dF g24;⟨fun g25=>have h25:=dT g25;⟨({ q:=enF (Lwx.r (Lex.w x1)),k:=Act.call (Lex.a x1),u:=Act.urg (Lex.a x1),s:=default:Ax }),
(by(try dsimp only at *);exact(okL_q h2.2).1.n),
⟨⟨rfl,rfl⟩,rfl,rfl,trivial⟩,
⟨⟨rfl,rfl,trivial,trivial⟩,
(by(try dsimp only at *);exact MapEq.rfl'),trivial⟩,
fun g27=>have h27:=dF g27;⟨({ q:=enF (Lwx.r (Lex.w x1)),now:=Act.now (Lex.a x1):NwX }),
⟨(by(try dsimp only at *);exact(okL_q h2.2).1),
(by(try dsimp only at *);exact(okL_q h2.2).2)⟩,
⟨⟨rfl,rfl⟩,rfl,trivial⟩,
⟨⟨rfl,rfl,trivial,trivial⟩,
(by(try dsimp only at *);exact map_of (set_err ‹¬ setR _ _ _=0›)),trivial⟩,
({ a:=orderF (enF (Lwx.r (Lex.w x1))) (Act.now (Lex.a x1)),b:=orderF (Lwx.q (Lex.w x1)) (Act.now (Lex.a x1)),lo:=(0:Nat):LDx }),
⟨(by(try dsimp only at *);(have f:=okL_f h2.2;have e2:=orderF_len x1.w.q x1.a.now;(show(orderF x1.w.q x1.a.now).length<=1000);omega)),
(by(try dsimp only at *);(have f:=okL_f h2.2;have e2:=orderF_len x1.w.q x1.a.now;(show(orderF x1.w.q x1.a.now).length<=1000);omega)),
(by(try dsimp only at *);omega)⟩,
⟨⟨rfl,
(by(try dsimp only at *);exact(orderF_len _ _).symm)⟩,
⟨rfl,
(by(try dsimp only at *);exact(orderF_len _ _).symm)⟩,trivial⟩,
⟨⟨⟨(by(try dsimp only at *);exact Nat.le_of_eq (orderF_len _ _))⟩,rr⟩,
⟨⟨(by(try dsimp only at *);exact Nat.le_of_eq (orderF_len _ _))⟩,rr⟩,trivial⟩,
(by(try dsimp only at *);grind),trivial⟩,
fun g30=>have h30:=dT g30;⟨rfl,trivial⟩⟩,
fun g31=>have h31:=dF g31;⟨fun g32=>have h32:=dF g32;⟨({ q:=enF (Lwx.r (Lex.w x1)),now:=Act.now (Lex.a x1):NwX }),
⟨(by(try dsimp only at *);omega),
(by(try dsimp only at *);omega)⟩,
⟨⟨rfl,rfl⟩,rfl,trivial⟩,
⟨⟨rfl,rfl,trivial,trivial⟩,
(by(try dsimp only at *);omega),trivial⟩,
({ a:=orderF (enF (Lwx.r (Lex.w x1))) (Act.now (Lex.a x1)),b:=orderF (Lwx.q (Lex.w x1)) (Act.now (Lex.a x1)),lo:=(0:Nat):LDx }),
⟨(by(try dsimp only at *);omega),
(by(try dsimp only at *);omega),
(by(try dsimp only at *);omega)⟩,
⟨⟨rfl,
(by(try dsimp only at *);omega)⟩,
⟨rfl,
(by(try dsimp only at *);omega)⟩,trivial⟩,
⟨⟨⟨(by(try dsimp only at *);omega)⟩,rr⟩,
⟨⟨(by(try dsimp only at *);omega)⟩,rr⟩,trivial⟩,
(by(try dsimp only at *);omega),trivial⟩,
fun g35=>have h35:=dT g35;⟨rfl,trivial⟩⟩⟩⟩⟩⟩⟩,
fun h36=>⟨(default),trivial,trivial,trivial,rfl,trivial⟩⟩)
theorem w9_good:Good Try.prog 9 lawEC:=both_b (t:=fun x=>okL x.w)
 (good_of tok conEry (fn:=Try.f9) rfl (by decide+kernel) (fun _=>rfl) w9y).1 (good_of tok conErn (fn:=Try.f9) rfl (by decide+kernel) (fun _=>rfl) w9n).1
end Go.Sym