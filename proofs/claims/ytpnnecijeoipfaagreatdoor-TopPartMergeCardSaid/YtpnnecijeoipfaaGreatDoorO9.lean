import Derived.Test.YtpnnecijeoipfaaGreatDoorO8
import Derived.Test.YtpnnecijeoipfaaGreatDoorXD
namespace Go.Sym
set_option linter.unusedVariables false
set_option linter.unusedSimpArgs false
open Go.Proofs
set_option maxRecDepth 100000
set_option maxHeartbeats 4000000
structure GTx where
 r:Rg
 k:Int
def getC (r:Rg) (k:Int):CR:=if k∈r.ck then r.c k else default
def getI (r:Rg) (k:Int):Ic:=if k∈r.ik then r.i k else default
theorem getC_in {r:Rg} {k:Int} (h:k∈r.ck):getC r k=r.c k:=if_pos h
theorem getI_in {r:Rg} {k:Int} (h:k∈r.ik):getI r k=r.i k:=if_pos h
def gcC:CT where
 X:=GTx
 pre:=fun q=>(getC q.r q.k).nodes.length<=4096
 args:=fun q=>[.p 100000 0 0,.i .i64 q.k]
 g0:=fun q=>rgH 100000 .bor q.r
 res:=fun q=>.tup [crV (getC q.r q.k) 1,.b (decide (q.k∈q.r.ck))]
 g1:=fun q=>crH (getC q.r q.k) .own 1
section
variable {r:Rg} {k:Int}
theorem gcI {f:CR->Int}:(if k∈r.ck then D.i (f (r.c k))else D.i (f default)).toI=f (getC r k):=by unfold getC;split <;>rfl
theorem gcS:(if k∈r.ck then D.s (r.c k).code else D.s ByteArray.empty).toS=(getC r k).code:=by unfold getC;split <;>rfl
theorem gcB:(if k∈r.ck then D.b (r.c k).closed else D.b false).toB=(getC r k).closed:=by unfold getC;split <;>rfl
theorem gcN {g:Nat->Nat->D}:(if k∈r.ck then D.l (r.c k).nodes.length (encL encI (r.c k).nodes)else D.l 0 g).toN=(getC r k).nodes.length:=by unfold getC;split <;>rfl
theorem gcR {g:Nat->Nat->D}:RowsEq [.int .i64] (getC r k).nodes.length (if k∈r.ck then D.l (r.c k).nodes.length (encL encI (r.c k).nodes)else D.l 0 g).toF (encL encI (getC r k).nodes):=by
 unfold getC;split
 ·exact RowsEq.rfl'
 ·exact rowsEq0
theorem giI {f:Ic->Int}:(if k∈r.ik then D.i (f (r.i k))else D.i (f default)).toI=f (getI r k):=by unfold getI;split <;>rfl
theorem giS:(if k∈r.ik then D.s (r.i k).code else D.s ByteArray.empty).toS=(getI r k).code:=by unfold getI;split <;>rfl
theorem giB:(if k∈r.ik then D.b (r.i k).closed else D.b false).toB=(getI r k).closed:=by unfold getI;split <;>rfl
theorem giN {f:Ic->List Int} {g:Nat->Nat->D} (h0:f default=[]):(if k∈r.ik then D.l (f (r.i k)).length (encL encI (f (r.i k)))else D.l 0 g).toN=(f (getI r k)).length:=by unfold getI;split <;>first|rfl|(rw[h0];rfl)
theorem giR {f:Ic->List Int} {g:Nat->Nat->D} (h0:f default=[]):RowsEq [.int .i64] (f (getI r k)).length (if k∈r.ik then D.l (f (r.i k)).length (encL encI (f (r.i k)))else D.l 0 g).toF (encL encI (f (getI r k))):=by
 unfold getI;split
 ·exact RowsEq.rfl'
 ·rw[h0];exact rowsEq0
theorem zz {p:Prop} [Decidable p]:(if p then D.i 0 else D.i 0).toI=0:=by split <;>rfl
end
def cfgGc:Cfg:=⟨T,[],[(30,.one (cloneC k1))],noInv,12,{}⟩
theorem conGc:ConOk Tryz.prog cfgGc:=ConL.ok (.cons (ConL.one cloneI_good) .nil)
set_option maxRecDepth 100000 in
theorem gc_keeps:Keeps cfgGc Tryz.f10 gcC noIv:=Eq.mp (show((∀ x1:GTx,(((getC x1.r x1.k).nodes.length<=(4096:Nat))->(∃ x3:RX,((x3.n<=(1073741824:Nat))/\(((0=0/\(D.toN (if x1.k∈x1.r.ck then D.l (x1.r.c x1.k).nodes.length (encL encI (x1.r.c x1.k).nodes)else D.l 0 fun(x x_1:Nat)=>D.i 0)=x3.n))/\True)/\((((RLe x3.n (D.toN (if x1.k∈x1.r.ck then D.l (x1.r.c x1.k).nodes.length (encL encI (x1.r.c x1.k).nodes)else D.l 0 fun(x x_1:Nat)=>D.i 0)))/\(RowsEq [.int .i64] x3.n (D.toF (if x1.k∈x1.r.ck then D.l (x1.r.c x1.k).nodes.length (encL encI (x1.r.c x1.k).nodes)else D.l 0 fun(x x_1:Nat)=>D.i 0)) x3.f))/\True)/\((((D.toI (if x1.k∈x1.r.ck then D.i (x1.r.c x1.k).call else D.i 0)=(getC x1.r x1.k).call)/\((D.toI (if x1.k∈x1.r.ck then D.i (x1.r.c x1.k).inc else D.i 0)=(getC x1.r x1.k).inc)/\((D.toI (if x1.k∈x1.r.ck then D.i (x1.r.c x1.k).urg else D.i 0)=(getC x1.r x1.k).urg)/\((D.toS (if x1.k∈x1.r.ck then D.s (x1.r.c x1.k).code else D.s ByteArray.empty)=(getC x1.r x1.k).code)/\((0=0/\(x3.n=(getC x1.r x1.k).nodes.length))/\((D.toI (if x1.k∈x1.r.ck then D.i 0 else D.i 0)=(0:Int))/\((D.toI (if x1.k∈x1.r.ck then D.i 0 else D.i 0)=(0:Int))/\((D.toB (if x1.k∈x1.r.ck then D.b (x1.r.c x1.k).closed else D.b false)=(getC x1.r x1.k).closed)/\True))))))))/\((decide (x1.k∈x1.r.ck)=decide (x1.k∈x1.r.ck))/\True))/\(((RLe (getC x1.r x1.k).nodes.length x3.n)/\(RowsEq [.int .i64] (getC x1.r x1.k).nodes.length x3.f (encL encI (getC x1.r x1.k).nodes)))/\True)))))))))=(Keeps cfgGc Tryz.f10 gcC noIv) by kernel_rfl) (fun x1=>fun h2=>⟨({ n:=List.length (CR.nodes (getC (GTx.r x1) (GTx.k x1))),f:=encL encI (CR.nodes (getC (GTx.r x1) (GTx.k x1))):RX }),
(by(try dsimp only at *);omega),
⟨⟨rfl,
(by(try dsimp only at *);exact gcN)⟩,trivial⟩,
⟨⟨⟨(by(try dsimp only at *);exact Nat.le_of_eq gcN.symm)⟩,
(by(try dsimp only at *);exact gcR)⟩,trivial⟩,
⟨⟨(by(try dsimp only at *);exact gcI (f:=CR.call)),
(by(try dsimp only at *);exact gcI (f:=CR.inc)),
(by(try dsimp only at *);exact gcI (f:=CR.urg)),
(by(try dsimp only at *);exact gcS),
⟨rfl,rfl⟩,
(by(try dsimp only at *);exact zz),
(by(try dsimp only at *);exact zz),
(by(try dsimp only at *);exact gcB),trivial⟩,rfl,trivial⟩,
⟨rl,rr⟩,trivial⟩)
theorem gc_good:Good Tryz.prog 10 gcC/\FnOk Tryz.prog 10:=good_of tok conGc (fn:=Tryz.f10) rfl (by decide+kernel) (fun _=>rfl) gc_keeps
def giC:CT where
 X:=GTx
 pre:=fun q=>(getI q.r q.k).nodes.length<=4096/\(getI q.r q.k).calls.length<=1000/\(getI q.r q.k).units.length<=1000
 args:=fun q=>[.p 100000 0 0,.i .i64 q.k]
 g0:=fun q=>rgH 100000 .bor q.r
 res:=fun q=>.tup [.agg (icL (getI q.r q.k) 1),.b (decide (q.k∈q.r.ik))]
 g1:=fun q=>icH (getI q.r q.k) .own 1
def cfgGi:Cfg:=⟨T,[],[(31,.one cpC)],noInv,12,{}⟩
theorem conGi:ConOk Tryz.prog cfgGi:=ConL.ok (.cons (ConL.one rcp_good) .nil)
set_option maxRecDepth 100000 in
theorem gi_keeps:Keeps cfgGi Tryz.f11 giC noIv:=Eq.mp (show((∀ x1:GTx,(((getI x1.r x1.k).nodes.length<=(4096:Nat)/\(getI x1.r x1.k).calls.length<=(1000:Nat)/\(getI x1.r x1.k).units.length<=(1000:Nat))->(∃ x3:Ic,(((x3.nodes.length<=(4096:Nat))/\((x3.calls.length<=(1000:Nat))/\(x3.units.length<=(1000:Nat))))/\((((D.toI (if x1.k∈x1.r.ik then D.i (x1.r.i x1.k).id else D.i 0)=x3.id)/\((D.toI (if x1.k∈x1.r.ik then D.i (x1.r.i x1.k).urg else D.i 0)=x3.urg)/\((D.toS (if x1.k∈x1.r.ik then D.s (x1.r.i x1.k).code else D.s ByteArray.empty)=x3.code)/\((0=0/\(D.toN (if x1.k∈x1.r.ik then D.l (x1.r.i x1.k).nodes.length (encL encI (x1.r.i x1.k).nodes)else D.l 0 fun(x x_1:Nat)=>D.i 0)=x3.nodes.length))/\((D.toI (if x1.k∈x1.r.ik then D.i 0 else D.i 0)=(0:Int))/\((D.toI (if x1.k∈x1.r.ik then D.i 0 else D.i 0)=(0:Int))/\((0=0/\(D.toN (if x1.k∈x1.r.ik then D.l (x1.r.i x1.k).calls.length (encL encI (x1.r.i x1.k).calls)else D.l 0 fun(x x_1:Nat)=>D.i 0)=x3.calls.length))/\((0=0/\(D.toN (if x1.k∈x1.r.ik then D.l (x1.r.i x1.k).units.length (encL encI (x1.r.i x1.k).units)else D.l 0 fun(x x_1:Nat)=>D.i 0)=x3.units.length))/\((D.toI (if x1.k∈x1.r.ik then D.i (x1.r.i x1.k).merged else D.i 0)=x3.merged)/\((D.toB (if x1.k∈x1.r.ik then D.b (x1.r.i x1.k).closed else D.b false)=x3.closed)/\True))))))))))/\True)/\((((RLe x3.nodes.length (D.toN (if x1.k∈x1.r.ik then D.l (x1.r.i x1.k).nodes.length (encL encI (x1.r.i x1.k).nodes)else D.l 0 fun(x x_1:Nat)=>D.i 0)))/\(RowsEq [.int .i64] x3.nodes.length (D.toF (if x1.k∈x1.r.ik then D.l (x1.r.i x1.k).nodes.length (encL encI (x1.r.i x1.k).nodes)else D.l 0 fun(x x_1:Nat)=>D.i 0)) (encL encI x3.nodes)))/\(((RLe x3.calls.length (D.toN (if x1.k∈x1.r.ik then D.l (x1.r.i x1.k).calls.length (encL encI (x1.r.i x1.k).calls)else D.l 0 fun(x x_1:Nat)=>D.i 0)))/\(RowsEq [.int .i64] x3.calls.length (D.toF (if x1.k∈x1.r.ik then D.l (x1.r.i x1.k).calls.length (encL encI (x1.r.i x1.k).calls)else D.l 0 fun(x x_1:Nat)=>D.i 0)) (encL encI x3.calls)))/\(((RLe x3.units.length (D.toN (if x1.k∈x1.r.ik then D.l (x1.r.i x1.k).units.length (encL encI (x1.r.i x1.k).units)else D.l 0 fun(x x_1:Nat)=>D.i 0)))/\(RowsEq [.int .i64] x3.units.length (D.toF (if x1.k∈x1.r.ik then D.l (x1.r.i x1.k).units.length (encL encI (x1.r.i x1.k).units)else D.l 0 fun(x x_1:Nat)=>D.i 0)) (encL encI x3.units)))/\True)))/\((((x3.id=(getI x1.r x1.k).id)/\((x3.urg=(getI x1.r x1.k).urg)/\((x3.code=(getI x1.r x1.k).code)/\((0=0/\(x3.nodes.length=(getI x1.r x1.k).nodes.length))/\(((0:Int)=0)/\(((0:Int)=0)/\((0=0/\(x3.calls.length=(getI x1.r x1.k).calls.length))/\((0=0/\(x3.units.length=(getI x1.r x1.k).units.length))/\((x3.merged=(getI x1.r x1.k).merged)/\((x3.closed=(getI x1.r x1.k).closed)/\True))))))))))/\((decide (x1.k∈x1.r.ik)=decide (x1.k∈x1.r.ik))/\True))/\(((RLe (getI x1.r x1.k).nodes.length x3.nodes.length)/\(RowsEq [.int .i64] (getI x1.r x1.k).nodes.length (encL encI x3.nodes) (encL encI (getI x1.r x1.k).nodes)))/\(((RLe (getI x1.r x1.k).calls.length x3.calls.length)/\(RowsEq [.int .i64] (getI x1.r x1.k).calls.length (encL encI x3.calls) (encL encI (getI x1.r x1.k).calls)))/\(((RLe (getI x1.r x1.k).units.length x3.units.length)/\(RowsEq [.int .i64] (getI x1.r x1.k).units.length (encL encI x3.units) (encL encI (getI x1.r x1.k).units)))/\True)))))))))))=(Keeps cfgGi Tryz.f11 giC noIv) by kernel_rfl) (fun x1=>fun h2=>⟨(getI (GTx.r x1) (GTx.k x1)),
⟨(by(try dsimp only at *);omega),
(by(try dsimp only at *);omega),
(by(try dsimp only at *);omega)⟩,
⟨⟨(by(try dsimp only at *);exact giI (f:=Ic.id)),
(by(try dsimp only at *);exact giI (f:=Ic.urg)),
(by(try dsimp only at *);exact giS),
⟨rfl,
(by(try dsimp only at *);exact giN (f:=Ic.nodes) rfl)⟩,
(by(try dsimp only at *);exact zz),
(by(try dsimp only at *);exact zz),
⟨rfl,
(by(try dsimp only at *);exact giN (f:=Ic.calls) rfl)⟩,
⟨rfl,
(by(try dsimp only at *);exact giN (f:=Ic.units) rfl)⟩,
(by(try dsimp only at *);exact giI (f:=Ic.merged)),
(by(try dsimp only at *);exact giB),trivial⟩,trivial⟩,
⟨⟨⟨(by(try dsimp only at *);exact Nat.le_of_eq (giN (f:=Ic.nodes) rfl).symm)⟩,
(by(try dsimp only at *);exact giR (f:=Ic.nodes) rfl)⟩,
⟨⟨(by(try dsimp only at *);exact Nat.le_of_eq (giN (f:=Ic.calls) rfl).symm)⟩,
(by(try dsimp only at *);exact giR (f:=Ic.calls) rfl)⟩,
⟨⟨(by(try dsimp only at *);exact Nat.le_of_eq (giN (f:=Ic.units) rfl).symm)⟩,
(by(try dsimp only at *);exact giR (f:=Ic.units) rfl)⟩,trivial⟩,
⟨⟨rfl,rfl,rfl,
⟨rfl,rfl⟩,rfl,rfl,
⟨rfl,rfl⟩,
⟨rfl,rfl⟩,rfl,rfl,trivial⟩,rfl,trivial⟩,
⟨rl,rr⟩,
⟨rl,rr⟩,
⟨rl,rr⟩,trivial⟩)
theorem gi_good:Good Tryz.prog 11 giC/\FnOk Tryz.prog 11:=good_of tok conGi (fn:=Tryz.f11) rfl (by decide+kernel) (fun _=>rfl) gi_keeps
inductive RootN (r:Rg):Nat->Int->Int->Prop
 |out {id:Int}:¬ id∈r.ik->RootN r 0 id 0
 |here {id:Int}:id∈r.ik->(r.i id).merged=0->RootN r 0 id id
 |up {n:Nat} {id a:Int}:id∈r.ik->(r.i id).merged≠0->RootN r n (r.i id).merged a->RootN r (n+1) id a
structure ROx where
 r:Rg
 n:Nat
 id:Int
 a:Int
structure ROs where
 n:Nat
 id:Int
def roC:CT where
 X:=ROx
 pre:=fun q=>RootN q.r q.n q.id q.a
 args:=fun q=>[.p 100000 0 0,.i .i64 q.id]
 g0:=fun q=>rgH 100000 .bor q.r
 res:=fun q=>.i .i64 q.a
 g1:=fun _=>[]
def roI (q:ROx) (id:Nat):Option Inv:=match id with
 | 0 => some { X := ROs, ok := fun s => RootN q.r s.n s.id q.a, fr := fun s => [(1, .i .i64 s.id), (6, .b (decide (s.id ∈ q.r.ik))), (5, .p 41 0 0)],
               hp:=fun s=>[(41,.one .own [.u,.u,.u,.u,.u,.u,.u,.u,.i .i64 (getI q.r s.id).merged,.u])],me:=fun s=>s.n }
 |_=>none
theorem ro_up {r:Rg} {n:Nat} {id a:Int} (h:RootN r n id a) (h1:id∈r.ik) (h2:(getI r id).merged≠0):1<=n/\RootN r (n-1) (getI r id).merged a:=by
 rw[getI_in h1]at*
 cases h with
 |out q=>exact absurd h1 q
 |here _ q=>exact absurd q h2
 |up _ _ q=>exact⟨by omega,q⟩
theorem ro_here {r:Rg} {n:Nat} {id a:Int} (h:RootN r n id a) (h1:id∈r.ik) (h2:(getI r id).merged=0):id=a:=by
 rw[getI_in h1]at*
 cases h with
 |out q=>exact absurd h1 q
 |here _ q=>rfl
 |up _ q _=>exact absurd h2 q
theorem ro_out {r:Rg} {n:Nat} {id a:Int} (h:RootN r n id a) (h1:¬ id∈r.ik):0=a:=by
 cases h with
 |out q=>rfl
 |here q _=>exact absurd q h1
 |up q _ _=>exact absurd q h1
set_option maxRecDepth 100000 in
theorem ro_keeps:Keeps cfgGi Tryz.f16 roC roI:=Eq.mp (show((∀ x1:ROx,((RootN x1.r x1.n x1.id x1.a)->(∃ x3:ROs,(((RootN x1.r x3.n x3.id x1.a)/\((x1.id=x3.id/\((decide (x1.id∈x1.r.ik)=decide (x3.id∈x1.r.ik))/\((0=0/\0=0)/\((((D.toI (if x1.id∈x1.r.ik then D.i (x1.r.i x1.id).id else D.i 0)=D.toI (if x1.id∈x1.r.ik then D.i (x1.r.i x1.id).id else D.i 0))/\((D.toI (if x1.id∈x1.r.ik then D.i (x1.r.i x1.id).urg else D.i 0)=D.toI (if x1.id∈x1.r.ik then D.i (x1.r.i x1.id).urg else D.i 0))/\((D.toS (if x1.id∈x1.r.ik then D.s (x1.r.i x1.id).code else D.s ByteArray.empty)=D.toS (if x1.id∈x1.r.ik then D.s (x1.r.i x1.id).code else D.s ByteArray.empty))/\((0=0/\(D.toN (if x1.id∈x1.r.ik then D.l (x1.r.i x1.id).nodes.length (encL encI (x1.r.i x1.id).nodes)else D.l 0 fun(x x_1:Nat)=>D.i 0)=D.toN (if x1.id∈x1.r.ik then D.l (x1.r.i x1.id).nodes.length (encL encI (x1.r.i x1.id).nodes)else D.l 0 fun(x x_1:Nat)=>D.i 0)))/\((D.toI (if x1.id∈x1.r.ik then D.i 0 else D.i 0)=D.toI (if x1.id∈x1.r.ik then D.i 0 else D.i 0))/\((D.toI (if x1.id∈x1.r.ik then D.i 0 else D.i 0)=D.toI (if x1.id∈x1.r.ik then D.i 0 else D.i 0))/\((0=0/\(D.toN (if x1.id∈x1.r.ik then D.l (x1.r.i x1.id).calls.length (encL encI (x1.r.i x1.id).calls)else D.l 0 fun(x x_1:Nat)=>D.i 0)=D.toN (if x1.id∈x1.r.ik then D.l (x1.r.i x1.id).calls.length (encL encI (x1.r.i x1.id).calls)else D.l 0 fun(x x_1:Nat)=>D.i 0)))/\((0=0/\(D.toN (if x1.id∈x1.r.ik then D.l (x1.r.i x1.id).units.length (encL encI (x1.r.i x1.id).units)else D.l 0 fun(x x_1:Nat)=>D.i 0)=D.toN (if x1.id∈x1.r.ik then D.l (x1.r.i x1.id).units.length (encL encI (x1.r.i x1.id).units)else D.l 0 fun(x x_1:Nat)=>D.i 0)))/\((D.toI (if x1.id∈x1.r.ik then D.i (x1.r.i x1.id).merged else D.i 0)=D.toI (if x1.id∈x1.r.ik then D.i (x1.r.i x1.id).merged else D.i 0))/\((D.toB (if x1.id∈x1.r.ik then D.b (x1.r.i x1.id).closed else D.b false)=D.toB (if x1.id∈x1.r.ik then D.b (x1.r.i x1.id).closed else D.b false))/\True))))))))))/\((decide (x1.id∈x1.r.ik)=decide (x1.id∈x1.r.ik))/\True))/\(True/\((0=0/\((1:Nat)=(1:Nat)))/\((0=0/\0=0)/\((0=0/\0=0)/\(((0:Int)=0)/\((0=0/\0=0)/\True))))))))))/\((True/\(True/\(True/\(True/\(True/\(True/\(True/\(True/\((D.toI (if x1.id∈x1.r.ik then D.i (x1.r.i x1.id).merged else D.i 0)=(getI x1.r x3.id).merged)/\(True/\True))))))))))/\(((RLe (D.toN (if x1.id∈x1.r.ik then D.l (x1.r.i x1.id).nodes.length (encL encI (x1.r.i x1.id).nodes)else D.l 0 fun(x x_1:Nat)=>D.i 0)) (D.toN (if x1.id∈x1.r.ik then D.l (x1.r.i x1.id).nodes.length (encL encI (x1.r.i x1.id).nodes)else D.l 0 fun(x x_1:Nat)=>D.i 0)))/\(RowsEq [.int .i64] (D.toN (if x1.id∈x1.r.ik then D.l (x1.r.i x1.id).nodes.length (encL encI (x1.r.i x1.id).nodes)else D.l 0 fun(x x_1:Nat)=>D.i 0)) (D.toF (if x1.id∈x1.r.ik then D.l (x1.r.i x1.id).nodes.length (encL encI (x1.r.i x1.id).nodes)else D.l 0 fun(x x_1:Nat)=>D.i 0)) (D.toF (if x1.id∈x1.r.ik then D.l (x1.r.i x1.id).nodes.length (encL encI (x1.r.i x1.id).nodes)else D.l 0 fun(x x_1:Nat)=>D.i 0))))/\(((RLe (D.toN (if x1.id∈x1.r.ik then D.l (x1.r.i x1.id).calls.length (encL encI (x1.r.i x1.id).calls)else D.l 0 fun(x x_1:Nat)=>D.i 0)) (D.toN (if x1.id∈x1.r.ik then D.l (x1.r.i x1.id).calls.length (encL encI (x1.r.i x1.id).calls)else D.l 0 fun(x x_1:Nat)=>D.i 0)))/\(RowsEq [.int .i64] (D.toN (if x1.id∈x1.r.ik then D.l (x1.r.i x1.id).calls.length (encL encI (x1.r.i x1.id).calls)else D.l 0 fun(x x_1:Nat)=>D.i 0)) (D.toF (if x1.id∈x1.r.ik then D.l (x1.r.i x1.id).calls.length (encL encI (x1.r.i x1.id).calls)else D.l 0 fun(x x_1:Nat)=>D.i 0)) (D.toF (if x1.id∈x1.r.ik then D.l (x1.r.i x1.id).calls.length (encL encI (x1.r.i x1.id).calls)else D.l 0 fun(x x_1:Nat)=>D.i 0))))/\(((RLe (D.toN (if x1.id∈x1.r.ik then D.l (x1.r.i x1.id).units.length (encL encI (x1.r.i x1.id).units)else D.l 0 fun(x x_1:Nat)=>D.i 0)) (D.toN (if x1.id∈x1.r.ik then D.l (x1.r.i x1.id).units.length (encL encI (x1.r.i x1.id).units)else D.l 0 fun(x x_1:Nat)=>D.i 0)))/\(RowsEq [.int .i64] (D.toN (if x1.id∈x1.r.ik then D.l (x1.r.i x1.id).units.length (encL encI (x1.r.i x1.id).units)else D.l 0 fun(x x_1:Nat)=>D.i 0)) (D.toF (if x1.id∈x1.r.ik then D.l (x1.r.i x1.id).units.length (encL encI (x1.r.i x1.id).units)else D.l 0 fun(x x_1:Nat)=>D.i 0)) (D.toF (if x1.id∈x1.r.ik then D.l (x1.r.i x1.id).units.length (encL encI (x1.r.i x1.id).units)else D.l 0 fun(x x_1:Nat)=>D.i 0))))/\((True/\(True/\(True/\True)))/\((MapEq (.int .i64:: .int .i64:: .int .i64::Kd.str:: .sl [.int .i64]:: .int .i64:: .int .i64::Kd.bool::[]) x1.r.ck x1.r.ck (encRC x1.r) (encRC x1.r))/\((MapEq (.int .i64:: .int .i64::Kd.str:: .sl [.int .i64]:: .int .i64:: .int .i64:: .sl [.int .i64]:: .sl [.int .i64]:: .int .i64::Kd.bool::[]) x1.r.ik x1.r.ik (encRI x1.r) (encRI x1.r))/\((MapEq [.int .i64] x1.r.hk x1.r.hk (encRH x1.r) (encRH x1.r))/\True))))))))))/\(∀ x4:ROs,((RootN x1.r x4.n x4.id x1.a)->(((decide (x4.id∈x1.r.ik)=true)->(((decide ((getI x1.r x4.id).merged≠(0:Int))=true)->(∃ x8:ROs,((x8.n<x4.n)/\((RootN x1.r x8.n x8.id x1.a)/\((((getI x1.r x4.id).merged=x8.id)/\((decide ((getI x1.r x4.id).merged∈x1.r.ik)=decide (x8.id∈x1.r.ik))/\((0=0/\0=0)/\((((D.toI (if x1.id∈x1.r.ik then D.i (x1.r.i x1.id).id else D.i 0)=D.toI (if x1.id∈x1.r.ik then D.i (x1.r.i x1.id).id else D.i 0))/\((D.toI (if x1.id∈x1.r.ik then D.i (x1.r.i x1.id).urg else D.i 0)=D.toI (if x1.id∈x1.r.ik then D.i (x1.r.i x1.id).urg else D.i 0))/\((D.toS (if x1.id∈x1.r.ik then D.s (x1.r.i x1.id).code else D.s ByteArray.empty)=D.toS (if x1.id∈x1.r.ik then D.s (x1.r.i x1.id).code else D.s ByteArray.empty))/\((0=0/\(D.toN (if x1.id∈x1.r.ik then D.l (x1.r.i x1.id).nodes.length (encL encI (x1.r.i x1.id).nodes)else D.l 0 fun(x x_1:Nat)=>D.i 0)=D.toN (if x1.id∈x1.r.ik then D.l (x1.r.i x1.id).nodes.length (encL encI (x1.r.i x1.id).nodes)else D.l 0 fun(x x_1:Nat)=>D.i 0)))/\((D.toI (if x1.id∈x1.r.ik then D.i 0 else D.i 0)=D.toI (if x1.id∈x1.r.ik then D.i 0 else D.i 0))/\((D.toI (if x1.id∈x1.r.ik then D.i 0 else D.i 0)=D.toI (if x1.id∈x1.r.ik then D.i 0 else D.i 0))/\((0=0/\(D.toN (if x1.id∈x1.r.ik then D.l (x1.r.i x1.id).calls.length (encL encI (x1.r.i x1.id).calls)else D.l 0 fun(x x_1:Nat)=>D.i 0)=D.toN (if x1.id∈x1.r.ik then D.l (x1.r.i x1.id).calls.length (encL encI (x1.r.i x1.id).calls)else D.l 0 fun(x x_1:Nat)=>D.i 0)))/\((0=0/\(D.toN (if x1.id∈x1.r.ik then D.l (x1.r.i x1.id).units.length (encL encI (x1.r.i x1.id).units)else D.l 0 fun(x x_1:Nat)=>D.i 0)=D.toN (if x1.id∈x1.r.ik then D.l (x1.r.i x1.id).units.length (encL encI (x1.r.i x1.id).units)else D.l 0 fun(x x_1:Nat)=>D.i 0)))/\((D.toI (if x1.id∈x1.r.ik then D.i (x1.r.i x1.id).merged else D.i 0)=D.toI (if x1.id∈x1.r.ik then D.i (x1.r.i x1.id).merged else D.i 0))/\((D.toB (if x1.id∈x1.r.ik then D.b (x1.r.i x1.id).closed else D.b false)=D.toB (if x1.id∈x1.r.ik then D.b (x1.r.i x1.id).closed else D.b false))/\True))))))))))/\((decide (x1.id∈x1.r.ik)=decide (x1.id∈x1.r.ik))/\True))/\(True/\((0=0/\((1:Nat)=(1:Nat)))/\((0=0/\0=0)/\((0=0/\0=0)/\(((0:Int)=0)/\((0=0/\0=0)/\True))))))))))/\((True/\(True/\(True/\(True/\(True/\(True/\(True/\(True/\((D.toI (if(getI x1.r x4.id).merged∈x1.r.ik then D.i (x1.r.i (getI x1.r x4.id).merged).merged else D.i 0)=(getI x1.r x8.id).merged)/\(True/\True))))))))))/\(((RLe (D.toN (if x1.id∈x1.r.ik then D.l (x1.r.i x1.id).nodes.length (encL encI (x1.r.i x1.id).nodes)else D.l 0 fun(x x_1:Nat)=>D.i 0)) (D.toN (if x1.id∈x1.r.ik then D.l (x1.r.i x1.id).nodes.length (encL encI (x1.r.i x1.id).nodes)else D.l 0 fun(x x_1:Nat)=>D.i 0)))/\(RowsEq [.int .i64] (D.toN (if x1.id∈x1.r.ik then D.l (x1.r.i x1.id).nodes.length (encL encI (x1.r.i x1.id).nodes)else D.l 0 fun(x x_1:Nat)=>D.i 0)) (D.toF (if x1.id∈x1.r.ik then D.l (x1.r.i x1.id).nodes.length (encL encI (x1.r.i x1.id).nodes)else D.l 0 fun(x x_1:Nat)=>D.i 0)) (D.toF (if x1.id∈x1.r.ik then D.l (x1.r.i x1.id).nodes.length (encL encI (x1.r.i x1.id).nodes)else D.l 0 fun(x x_1:Nat)=>D.i 0))))/\(((RLe (D.toN (if x1.id∈x1.r.ik then D.l (x1.r.i x1.id).calls.length (encL encI (x1.r.i x1.id).calls)else D.l 0 fun(x x_1:Nat)=>D.i 0)) (D.toN (if x1.id∈x1.r.ik then D.l (x1.r.i x1.id).calls.length (encL encI (x1.r.i x1.id).calls)else D.l 0 fun(x x_1:Nat)=>D.i 0)))/\(RowsEq [.int .i64] (D.toN (if x1.id∈x1.r.ik then D.l (x1.r.i x1.id).calls.length (encL encI (x1.r.i x1.id).calls)else D.l 0 fun(x x_1:Nat)=>D.i 0)) (D.toF (if x1.id∈x1.r.ik then D.l (x1.r.i x1.id).calls.length (encL encI (x1.r.i x1.id).calls)else D.l 0 fun(x x_1:Nat)=>D.i 0)) (D.toF (if x1.id∈x1.r.ik then D.l (x1.r.i x1.id).calls.length (encL encI (x1.r.i x1.id).calls)else D.l 0 fun(x x_1:Nat)=>D.i 0))))/\(((RLe (D.toN (if x1.id∈x1.r.ik then D.l (x1.r.i x1.id).units.length (encL encI (x1.r.i x1.id).units)else D.l 0 fun(x x_1:Nat)=>D.i 0)) (D.toN (if x1.id∈x1.r.ik then D.l (x1.r.i x1.id).units.length (encL encI (x1.r.i x1.id).units)else D.l 0 fun(x x_1:Nat)=>D.i 0)))/\(RowsEq [.int .i64] (D.toN (if x1.id∈x1.r.ik then D.l (x1.r.i x1.id).units.length (encL encI (x1.r.i x1.id).units)else D.l 0 fun(x x_1:Nat)=>D.i 0)) (D.toF (if x1.id∈x1.r.ik then D.l (x1.r.i x1.id).units.length (encL encI (x1.r.i x1.id).units)else D.l 0 fun(x x_1:Nat)=>D.i 0)) (D.toF (if x1.id∈x1.r.ik then D.l (x1.r.i x1.id).units.length (encL encI (x1.r.i x1.id).units)else D.l 0 fun(x x_1:Nat)=>D.i 0))))/\((True/\(True/\(True/\True)))/\((MapEq (.int .i64:: .int .i64:: .int .i64::Kd.str:: .sl [.int .i64]:: .int .i64:: .int .i64::Kd.bool::[]) x1.r.ck x1.r.ck (encRC x1.r) (encRC x1.r))/\((MapEq (.int .i64:: .int .i64::Kd.str:: .sl [.int .i64]:: .int .i64:: .int .i64:: .sl [.int .i64]:: .sl [.int .i64]:: .int .i64::Kd.bool::[]) x1.r.ik x1.r.ik (encRI x1.r) (encRI x1.r))/\((MapEq [.int .i64] x1.r.hk x1.r.hk (encRH x1.r) (encRH x1.r))/\True)))))))))))))/\((decide ((getI x1.r x4.id).merged≠(0:Int))=false)->((((!decide (x4.id∈x1.r.ik))=true)->(0=x1.a/\True))/\(((!decide (x4.id∈x1.r.ik))=false)->(x4.id=x1.a/\True))))))/\((decide (x4.id∈x1.r.ik)=false)->((((!decide (x4.id∈x1.r.ik))=true)->(0=x1.a/\True))/\(((!decide (x4.id∈x1.r.ik))=false)->(x4.id=x1.a/\True))))))))))))=(Keeps cfgGi Tryz.f16 roC roI) by kernel_rfl) (fun x1=>fun h2=>⟨({ n:=ROx.n x1,id:=ROx.id x1:ROs }),
⟨(by(try dsimp only at *);omega),
⟨rfl,rfl,
⟨rfl,rfl⟩,
⟨⟨rfl,rfl,rfl,
⟨rfl,rfl⟩,rfl,rfl,
⟨rfl,rfl⟩,
⟨rfl,rfl⟩,rfl,rfl,trivial⟩,rfl,trivial⟩,trivial,
⟨rfl,rfl⟩,
⟨rfl,rfl⟩,
⟨rfl,rfl⟩,rfl,
⟨rfl,rfl⟩,trivial⟩,
⟨trivial,trivial,trivial,trivial,trivial,trivial,trivial,trivial,
(by(try dsimp only at *);exact giI (f:=Ic.merged)),trivial,trivial⟩,
⟨rl,rr⟩,
⟨rl,rr⟩,
⟨rl,rr⟩,
⟨trivial,trivial,trivial,trivial⟩,MapEq.rfl',MapEq.rfl',MapEq.rfl',trivial⟩,
fun x4=>fun h5=>⟨fun g6=>have h6:=dT g6;⟨fun g7=>have h7:=dT g7;⟨({ n:=ROs.n x4-(1:Nat),id:=Ic.merged (getI (ROx.r x1) (ROs.id x4)):ROs }),
(by(try dsimp only at *);(have:=(ro_up h5 ‹_› ‹_›).1;show x4.n-1<x4.n;omega)),
(by(try dsimp only at *);exact(ro_up h5 ‹_› ‹_›).2),
⟨rfl,rfl,
⟨rfl,rfl⟩,
⟨⟨rfl,rfl,rfl,
⟨rfl,rfl⟩,rfl,rfl,
⟨rfl,rfl⟩,
⟨rfl,rfl⟩,rfl,rfl,trivial⟩,rfl,trivial⟩,trivial,
⟨rfl,rfl⟩,
⟨rfl,rfl⟩,
⟨rfl,rfl⟩,rfl,
⟨rfl,rfl⟩,trivial⟩,
⟨trivial,trivial,trivial,trivial,trivial,trivial,trivial,trivial,
(by(try dsimp only at *);exact giI (f:=Ic.merged)),trivial,trivial⟩,
⟨rl,rr⟩,
⟨rl,rr⟩,
⟨rl,rr⟩,
⟨trivial,trivial,trivial,trivial⟩,MapEq.rfl',MapEq.rfl',MapEq.rfl',trivial⟩,
fun g9=>have h9:=dF g9;⟨fun g10=>have h10:=nT g10;⟨(by(try dsimp only at *);grind),trivial⟩,
fun g11=>have h11:=nF g11;⟨(by(try dsimp only at *);exact ro_here h5 ‹_› (Classical.not_not.1 ‹_›)),trivial⟩⟩⟩,
fun g12=>have h12:=dF g12;⟨fun g13=>have h13:=nT g13;⟨(by(try dsimp only at *);exact ro_out h5 ‹_›),trivial⟩,
fun g14=>have h14:=nF g14;⟨(by(try dsimp only at *);grind),trivial⟩⟩⟩⟩)
theorem ro_good:Good Tryz.prog 16 roC/\FnOk Tryz.prog 16:=good_of tok conGi (fn:=Tryz.f16) rfl (by decide+kernel) (fun _=>rfl) ro_keeps
structure DLx where
 l:List Int
 c:Int
def s1C:CT where
 X:=I2x
 pre:=fun _=>True
 args:=fun x=>[.i .i64 x.a,.p 100000 0 0]
 g0:=fun x=>[(100000,.one .bor [.i .i64 x.b,.u,.u,.u,.u,.u,.u,.u])]
 res:=fun x=>.b (decide (x.a=x.b))
 g1:=fun _=>[]
set_option maxRecDepth 100000 in
theorem s1_keeps:Keeps cfgN0 Tryz.f50 s1C noIv:=Eq.mp (show((∀ x1:I2x,(True->((decide (x1.a=x1.b)=decide (x1.a=x1.b))/\True))))=(Keeps cfgN0 Tryz.f50 s1C noIv) by kernel_rfl) (fun x1=>fun h2=>⟨rfl,trivial⟩)
theorem s1_good:Good Tryz.prog 50 s1C/\FnOk Tryz.prog 50:=good_of tok conN0 (fn:=Tryz.f50) rfl (by decide+kernel) (fun _=>rfl) s1_keeps
def ixF (l:List Int) (c:Int):Int:=if c∈l then l.idxOf c else -1
def dlH (q:DLx):List (Nat × Blk):=[(100001,.one .bor [.i .i64 q.c,.u,.u,.u,.u,.u,.u,.u])]
def ixC:CT where
 X:=DLx
 pre:=fun q=>q.l.length<=1000
 args:=fun q=>[.sl 100000 0 q.l.length,.fn 50 [.p 100001 0 0]]
 g0:=fun q=>[(100000,.rows .bor k1 q.l.length (encL encI q.l))]++dlH q
 res:=fun q=>.i .i64 (ixF q.l q.c)
 g1:=fun _=>[]
structure IXok (q:DLx) (k:Nat):Prop where
 le:k<=q.l.length
 no:∀ j,j<k->q.l.getD j default≠q.c
def ixI (q:DLx) (id:Nat):Option Inv:=match id with
 |0=>some { X:=Nat,ok:=fun k=>IXok q k,fr:=fun k=>[(8,.i .i64 k)],hp:=fun _=>[],me:=fun k=>q.l.length-k }
 |_=>none
def cfgIx:Cfg:=⟨T,[],[(50,.one s1C)],noInv,12,{}⟩
theorem conIx:ConOk Tryz.prog cfgIx:=ConL.ok (.cons (ConL.one s1_good) .nil)
theorem gd_eq {l:List Int} {j:Nat} (h:j<l.length):l.getD j default=l[j]:=by rw[List.getD_eq_getElem?_getD,List.getElem?_eq_getElem h];rfl
theorem ix_not {q:DLx} {k:Nat} (h:IXok q k) (hk:¬ (k:Int)<q.l.length):(-1:Int)=ixF q.l q.c:=by
 unfold ixF
 rw[if_neg]
 intro hm
 obtain⟨j,hj,e⟩:=List.mem_iff_getElem.1 hm
 exact h.no j (by omega) (by rw[gd_eq hj];exact e)
theorem ix_yes {q:DLx} {k:Nat} (h:IXok q k) (hk:(k:Int)<q.l.length) (e:q.l.getD k default=q.c):(k:Int)=ixF q.l q.c:=by
 have hk':k<q.l.length:=by omega
 have hm:q.c∈q.l:=by rw[<- e,gd_eq hk'];exact List.getElem_mem _
 unfold ixF
 rw[if_pos hm]
 have e2:q.l.idxOf q.c=k:=by
  unfold List.idxOf
  refine(List.findIdx_eq hk').2 ⟨by rw[<- gd_eq hk',e];simp,fun j hj=>?_⟩
  have:=h.no j hj
  rw[gd_eq (by omega)]at this
  simpa using this
 rw[e2]
set_option maxRecDepth 100000 in
theorem ix_keeps:Keeps cfgIx Tryz.f74 ixC ixI:=Eq.mp (show((∀ x1:DLx,((x1.l.length<=(1000:Nat))->(∃ x3:Nat,(((IXok x1 x3)/\(((0=(x3:Int))/\(((x1.l.length:Int)=(x1.l.length:Int))/\((0=0/\x1.l.length=x1.l.length)/\((0=0/\x1.l.length=x1.l.length)/\(((0=0/\0=0)/\True)/\True)))))/\(((RLe x1.l.length x1.l.length)/\(RI x1.l.length x1.l x1.l))/\((x1.c=x1.c/\(True/\(True/\(True/\(True/\(True/\(True/\(True/\True))))))))/\True))))/\(∀ x4:Nat,((IXok x1 x4)->(((decide ((x4:Int)<(x1.l.length:Int))=true)->((((0:Int)<=(x4:Int))/\((x4:Int)<(x1.l.length:Int)))/\((0+Int.toNat (x4:Int)<x1.l.length)/\(∃ x7:I2x,(True/\(((x1.l.getD (0+Int.toNat (x4:Int)) default=x7.a)/\((0=0/\0=0)/\True))/\(((x1.c=x7.b/\(True/\(True/\(True/\(True/\(True/\(True/\(True/\True))))))))/\True)/\(((decide (x7.a=x7.b)=true)->(((x4:Int)=ixF x1.l x1.c)/\True))/\((decide (x7.a=x7.b)=false)->((((-9223372036854775808:Int)<=(x4:Int)+1)/\((x4:Int)+1<=(9223372036854775807:Int)))/\(∃ x10:Nat,((x1.l.length-x10<x1.l.length-x4)/\((IXok x1 x10)/\((((x4:Int)+1=(x10:Int))/\(((x1.l.length:Int)=(x1.l.length:Int))/\((0=0/\x1.l.length=x1.l.length)/\((0=0/\x1.l.length=x1.l.length)/\(((0=0/\0=0)/\True)/\True)))))/\(((RLe x1.l.length x1.l.length)/\(RI x1.l.length x1.l x1.l))/\((x1.c=x1.c/\(True/\(True/\(True/\(True/\(True/\(True/\(True/\True))))))))/\True))))))))))))))))/\((decide ((x4:Int)<(x1.l.length:Int))=false)->(((-1:Int)=ixF x1.l x1.c)/\True))))))))))=(Keeps cfgIx Tryz.f74 ixC ixI) by kernel_rfl) (fun x1=>fun h2=>⟨((0:Nat)),
⟨(by(try dsimp only at *);exact⟨Nat.zero_le _,fun j hj=>by omega⟩),
⟨(by(try dsimp only at *);omega),rfl,
⟨rfl,rfl⟩,
⟨rfl,rfl⟩,
⟨⟨rfl,rfl⟩,trivial⟩,trivial⟩,
⟨rl,rr⟩,
⟨rfl,trivial,trivial,trivial,trivial,trivial,trivial,trivial,trivial⟩,trivial⟩,
fun x4=>fun h5=>⟨fun g6=>have h6:=dT g6;⟨⟨(by(try dsimp only at *);omega),
(by(try dsimp only at *);omega)⟩,
(by(try dsimp only at *);omega),
({ a:=List.getD (DLx.l x1) x4 default,b:=DLx.c x1:I2x }),trivial,
⟨(by(try dsimp only at *);grind),
⟨rfl,rfl⟩,trivial⟩,
⟨⟨rfl,trivial,trivial,trivial,trivial,trivial,trivial,trivial,trivial⟩,trivial⟩,
fun g8=>have h8:=dT g8;⟨(by(try dsimp only at *);exact ix_yes h5 h6 ‹_›),trivial⟩,
fun g9=>have h9:=dF g9;⟨⟨(by(try dsimp only at *);omega),
(by(try dsimp only at *);omega)⟩,
(x4+(1:Nat)),
(by(try dsimp only at *);omega),
(by(try dsimp only at *);exact⟨by have:=h5.le;omega,fun j hj=>by rcases(show j<x4∨j=x4 by omega)with q|q <;>first|exact h5.no j q|(subst q;assumption)⟩),
⟨(by(try dsimp only at *);omega),rfl,
⟨rfl,rfl⟩,
⟨rfl,rfl⟩,
⟨⟨rfl,rfl⟩,trivial⟩,trivial⟩,
⟨rl,rr⟩,
⟨rfl,trivial,trivial,trivial,trivial,trivial,trivial,trivial,trivial⟩,trivial⟩⟩,
fun g11=>have h11:=dF g11;⟨(by(try dsimp only at *);exact ix_not h5 ‹_›),trivial⟩⟩⟩)
theorem ix_good:Good Tryz.prog 74 ixC/\FnOk Tryz.prog 74:=good_of tok conIx (fn:=Tryz.f74) rfl (by decide+kernel) (fun _=>rfl) ix_keeps
def outL (l:List Int) (c:Int):List Int:=l.filter fun x=>decide (x≠c)
structure DLs where
 i:Nat
 j:Nat
 L:List Int
structure DLok (q:DLx) (s:DLs):Prop where
 j:s.j<=q.l.length
 len:s.L.length=q.l.length
 i:s.i=(outL (q.l.take s.j) q.c).length
 ij:s.i<s.j
 pre:s.L.take s.i=outL (q.l.take s.j) q.c
 suf:∀ k,s.j<=k->s.L.getD k default=q.l.getD k default
def dlC:CT where
 X:=DLx
 pre:=fun q=>q.l.length<=1000
 args:=fun q=>[.sl 100000 0 q.l.length,.fn 50 [.p 100001 0 0]]
 g0:=fun q=>[(100000,.rows .own k1 q.l.length (encL encI q.l))]++dlH q
 res:=fun q=>.sl 100000 0 (outL q.l q.c).length
 g1:=fun q=>[(100000,.rows .own k1 (outL q.l q.c).length (encL encI (outL q.l q.c)))]
def dlI (q:DLx) (id:Nat):Option Inv:=match id with
 |0=>some { X:=DLs,ok:=fun s=>DLok q s,fr:=fun s=>[(5,.i .i64 s.i),(6,.i .i64 s.j)],hp:=fun s=>[(100000,.rows .own k1 q.l.length (encL encI s.L))],me:=fun s=>q.l.length-s.j }
 |_=>none
theorem out_not {l:List Int} {c:Int} (h:¬ c∈l):outL l c=l:=List.filter_eq_self.2 fun x hx=>decide_eq_true fun e=>h (e▸hx)
theorem take_gd {l:List Int} {k:Nat} (h:k<l.length):l.take (k+1)=l.take k++[l.getD k default]:=by rw[List.take_succ_eq_append_getElem h,gd_eq h]
theorem out_yes {l:List Int} {c:Int} {k:Nat} (h:k<l.length) (e:l.getD k default≠c):outL (l.take (k+1)) c=outL (l.take k) c++[l.getD k default]:=by
 rw[take_gd h];unfold outL;rw[List.filter_append];congr 1;simp only[List.filter_cons,List.filter_nil,decide_eq_true e,if_true]
theorem out_no {l:List Int} {c:Int} {k:Nat} (h:k<l.length) (e:l.getD k default=c):outL (l.take (k+1)) c=outL (l.take k) c:=by
 rw[take_gd h];unfold outL;rw[List.filter_append,e];simp
theorem ix_in {l:List Int} {c:Int} (h:ixF l c≠ -1):∃ k:Nat,ixF l c=k/\k<l.length/\l.getD k default=c/\outL (l.take k) c=l.take k:=by
 unfold ixF at*
 by_cases hm:c∈l
 ·rw[if_pos hm]
  have h1:l.idxOf c<l.length:=List.idxOf_lt_length_iff.2 hm
  refine⟨l.idxOf c,rfl,h1,by rw[gd_eq h1];exact List.getElem_idxOf h1,out_not fun q=>?_⟩
  obtain⟨j,hj,e⟩:=List.mem_iff_getElem.1 q
  rw[List.getElem_take]at e
  have hj':j<l.idxOf c:=by simp at hj;omega
  have:=List.not_of_lt_findIdx (p:=(· ==c)) (xs:=l) (i:=j) (by unfold List.idxOf at hj';exact hj')
  simp[e]at this
 ·rw[if_neg hm]at h;exact absurd rfl h
theorem dl_start {q:DLx} (h:ixF q.l q.c≠ -1):∃ k:Nat,ixF q.l q.c=k/\DLok q ⟨k,k+1,q.l⟩:=by
 obtain⟨k,e,h1,h2,h3⟩:=ix_in h
 refine⟨k,e,h1,rfl,?_,Nat.lt_succ_self k,?_,fun _ _=>rfl⟩
 ·show k=(outL (q.l.take (k+1)) q.c).length
  rw[out_no h1 h2,h3];simp;omega
 ·show q.l.take k=outL (q.l.take (k+1)) q.c
  rw[out_no h1 h2,h3]
theorem dl_keep {q:DLx} {s:DLs} (h:DLok q s) (hj:(s.j:Int)<q.l.length) (e:s.L.getD s.j default≠q.c):DLok q ⟨s.i+1,s.j+1,s.L.set s.i (s.L.getD s.j default)⟩:=by
 have hj':s.j<q.l.length:=by omega
 have e1:=h.suf s.j (Nat.le_refl _)
 rw[e1]at e
 have hi:=h.ij
 have hl:=h.len
 refine⟨by show s.j+1<=_;omega,by show(s.L.set _ _).length=_;rw[List.length_set];exact hl,?_,by show s.i+1<s.j+1;omega,?_,fun k hk=>?_⟩
 ·show s.i+1=(outL (q.l.take (s.j+1)) q.c).length
  rw[out_yes hj' e,List.length_append,<- h.i];rfl
 ·show(s.L.set s.i (s.L.getD s.j default)).take (s.i+1)=outL (q.l.take (s.j+1)) q.c
  rw[out_yes hj' e,<- h.pre,e1,List.take_succ_eq_append_getElem (by rw[List.length_set];omega),List.getElem_set_self,List.take_set_of_le (Nat.le_refl _)]
 ·have hk:s.j+1<=k:=hk
  rw[<- h.suf k (by omega),List.getD_eq_getElem?_getD,List.getElem?_set_ne (by omega),<- List.getD_eq_getElem?_getD]
theorem dl_drop {q:DLx} {s:DLs} (h:DLok q s) (hj:(s.j:Int)<q.l.length) (e:s.L.getD s.j default=q.c):DLok q ⟨s.i,s.j+1,s.L⟩:=by
 have hj':s.j<q.l.length:=by omega
 rw[h.suf s.j (Nat.le_refl _)]at e
 have hi:=h.ij
 refine⟨by show s.j+1<=_;omega,h.len,?_,by show s.i<s.j+1;omega,?_,fun k hk=>h.suf k (by have hk:s.j+1<=k:=hk;omega)⟩
 ·show s.i=(outL (q.l.take (s.j+1)) q.c).length
  rw[out_no hj' e];exact h.i
 ·show s.L.take s.i=outL (q.l.take (s.j+1)) q.c
  rw[out_no hj' e];exact h.pre
theorem dl_end {q:DLx} {s:DLs} (h:DLok q s) (hj:¬ (s.j:Int)<q.l.length):s.i=(outL q.l q.c).length/\s.L.take s.i=outL q.l q.c:=by
 have:=h.j
 have e:q.l.take s.j=q.l:=List.take_of_length_le (by omega)
 have a:=h.i
 have b:=h.pre
 rw[e]at a b
 exact⟨a,b⟩
theorem cpy_pre {f g:Nat->Nat->D} {lo m lo2 n:Nat} {ks:List Kd} (h:n<=lo):RowsEq ks n (cpyRows f lo m g lo2) f:=⟨fun r hr=>rowEq_of_eq (by funext j;unfold cpyRows;rw[if_neg (by omega)])⟩
theorem rows_take {l:List Int} {n:Nat} (h:n<=l.length):RowsEq k1 n (encL encI l) (encL encI (l.take n)):=⟨fun r hr=>rowEq_of_eq (by
 unfold encL
 rw[List.getD_eq_getElem?_getD,List.getD_eq_getElem?_getD,List.getElem?_take_of_lt hr])⟩
theorem ix_out {l:List Int} {c:Int} (h:ixF l c= -1):outL l c=l:=out_not fun hm=>by unfold ixF at h;rw[if_pos hm]at h;omega
theorem dl_go {q:DLx} (hl:q.l.length<=1000) (h:¬ ixF q.l q.c= -1):(0<=ixF q.l q.c/\ixF q.l q.c<1000)/\DLok q ⟨(ixF q.l q.c).toNat,(ixF q.l q.c).toNat+1,q.l⟩:=by
 obtain⟨k,e,h1⟩:=dl_start h
 have:k+1<=q.l.length:=h1.j
 rw[e]
 exact⟨by omega,h1⟩
theorem dl_rows {q:DLx} {s:DLs} (h:DLok q s) (hj:¬ (s.j:Int)<q.l.length) {m:Nat} {g:Nat->Nat->D}:RowsEq k1 (outL q.l q.c).length (cpyRows (encL encI s.L) s.i m g 0) (encL encI (outL q.l q.c)):=by
 obtain⟨a,b⟩:=dl_end h hj
 have hi:=h.ij
 have:=h.j
 have:=h.len
 refine RowsEq.trans (cpy_pre (by omega)) ?_
 have t:=rows_take (l:=s.L) (n:=s.i) (by omega)
 rw[b]at t
 rw[<- a]
 exact t
def cfgDl:Cfg:=⟨T,[],[(74,.one ixC),(50,.one s1C)],noInv,12,{}⟩
theorem conDl:ConOk Tryz.prog cfgDl:=ConL.ok (.cons (ConL.one ix_good) (.cons (ConL.one s1_good) .nil))
set_option maxRecDepth 100000 in
theorem dl_keeps:Keeps cfgDl Tryz.f49 dlC dlI:=Eq.mp (show((∀ x1:DLx,((x1.l.length<=(1000:Nat))->(∃ x3:DLx,((x3.l.length<=(1000:Nat))/\(((0=0/\x1.l.length=x3.l.length)/\(((0=0/\0=0)/\True)/\True))/\((((RLe x3.l.length x1.l.length)/\(RI x3.l.length x1.l x3.l))/\((x1.c=x3.c/\(True/\(True/\(True/\(True/\(True/\(True/\(True/\True))))))))/\True))/\(((decide (ixF x3.l x3.c=(-1:Int))=true)->((0=0/\(x1.l.length=(outL x1.l x1.c).length))/\(((RLe (outL x1.l x1.c).length x1.l.length)/\(RowsEq [.int .i64] (outL x1.l x1.c).length (encL encI x1.l) (encL encI (outL x1.l x1.c))))/\True)))/\((decide (ixF x3.l x3.c=(-1:Int))=false)->((((-9223372036854775808:Int)<=ixF x3.l x3.c+1)/\(ixF x3.l x3.c+1<=(9223372036854775807:Int)))/\(∃ x6:DLs,(((DLok x1 x6)/\(((ixF x3.l x3.c=(x6.i:Int))/\((ixF x3.l x3.c+1=(x6.j:Int))/\((ixF x3.l x3.c=ixF x3.l x3.c)/\((ixF x3.l x3.c=ixF x3.l x3.c)/\(((0=0/\0=0)/\True)/\((0=0/\x1.l.length=x1.l.length)/\(True/\((0=0/\x1.l.length=x1.l.length)/\(((0=0/\0=0)/\True)/\True)))))))))/\(((RLe x1.l.length x1.l.length)/\(RI x1.l.length x1.l x6.L))/\((x1.c=x1.c/\(True/\(True/\(True/\(True/\(True/\(True/\(True/\True))))))))/\True))))/\(∀ x7:DLs,((DLok x1 x7)->(((decide ((x7.j:Int)<(x1.l.length:Int))=true)->((((0:Int)<=(x7.j:Int))/\((x7.j:Int)<(x1.l.length:Int)))/\((0+Int.toNat (x7.j:Int)<x1.l.length)/\(∃ x10:I2x,(True/\(((x7.L.getD (0+Int.toNat (x7.j:Int)) default=x10.a)/\((0=0/\0=0)/\True))/\(((x1.c=x10.b/\(True/\(True/\(True/\(True/\(True/\(True/\(True/\True))))))))/\True)/\((((!decide (x10.a=x10.b))=true)->((((0:Int)<=(x7.i:Int))/\((x7.i:Int)<(x1.l.length:Int)))/\(((0+Int.toNat (x7.i:Int)<x1.l.length)/\(True/\True))/\((((-9223372036854775808:Int)<=(x7.i:Int)+1)/\((x7.i:Int)+1<=(9223372036854775807:Int)))/\((((-9223372036854775808:Int)<=(x7.j:Int)+1)/\((x7.j:Int)+1<=(9223372036854775807:Int)))/\(∃ x12:DLs,((x1.l.length-x12.j<x1.l.length-x7.j)/\((DLok x1 x12)/\((((x7.i:Int)+1=(x12.i:Int))/\(((x7.j:Int)+1=(x12.j:Int))/\((ixF x3.l x3.c=ixF x3.l x3.c)/\((ixF x3.l x3.c=ixF x3.l x3.c)/\(((0=0/\0=0)/\True)/\((0=0/\x1.l.length=x1.l.length)/\(True/\((0=0/\x1.l.length=x1.l.length)/\(((0=0/\0=0)/\True)/\True)))))))))/\(((RLe x1.l.length x1.l.length)/\(RowsEq [.int .i64] x1.l.length (setRow (encL encI x7.L) (0+Int.toNat (x7.i:Int)) 0 (D.i (x7.L.getD (0+Int.toNat (x7.j:Int)) default)::@List.nil D)) (encL encI x12.L)))/\((x1.c=x1.c/\(True/\(True/\(True/\(True/\(True/\(True/\(True/\True))))))))/\True)))))))))))/\(((!decide (x10.a=x10.b))=false)->((((-9223372036854775808:Int)<=(x7.j:Int)+1)/\((x7.j:Int)+1<=(9223372036854775807:Int)))/\(∃ x14:DLs,((x1.l.length-x14.j<x1.l.length-x7.j)/\((DLok x1 x14)/\((((x7.i:Int)=(x14.i:Int))/\(((x7.j:Int)+1=(x14.j:Int))/\((ixF x3.l x3.c=ixF x3.l x3.c)/\((ixF x3.l x3.c=ixF x3.l x3.c)/\(((0=0/\0=0)/\True)/\((0=0/\x1.l.length=x1.l.length)/\(True/\((0=0/\x1.l.length=x1.l.length)/\(((0=0/\0=0)/\True)/\True)))))))))/\(((RLe x1.l.length x1.l.length)/\(RI x1.l.length x7.L x14.L))/\((x1.c=x1.c/\(True/\(True/\(True/\(True/\(True/\(True/\(True/\True))))))))/\True))))))))))))))))/\((decide ((x7.j:Int)<(x1.l.length:Int))=false)->((((0:Int)<=(x7.i:Int))/\(((x7.i:Int)<=(x1.l.length:Int))/\((x1.l.length:Int)<=(x1.l.length:Int))))/\((0+Int.toNat (x7.i:Int)+(Int.toNat (x1.l.length:Int)-Int.toNat (x7.i:Int))<=x1.l.length)/\((((0:Int)<=(0:Int))/\(((0:Int)<=(x7.i:Int))/\((x7.i:Int)<=(x1.l.length:Int))))/\(((0+Int.toNat (0:Int)=(0:Nat))/\(Int.toNat (x7.i:Int)-Int.toNat 0=(outL x1.l x1.c).length))/\(((RLe (outL x1.l x1.c).length x1.l.length)/\(RowsEq [.int .i64] (outL x1.l x1.c).length (cpyRows (encL encI x7.L) (0+Int.toNat (x7.i:Int)) (Int.toNat (x1.l.length:Int)-Int.toNat (x7.i:Int)) (fun(x j:Nat)=>zRow [.int .i64] j) 0) (encL encI (outL x1.l x1.c))))/\True)))))))))))))))))))))=(Keeps cfgDl Tryz.f49 dlC dlI) by kernel_rfl) (fun x1=>fun h2=>⟨(x1),
(by(try dsimp only at *);omega),
⟨⟨rfl,rfl⟩,
⟨⟨rfl,rfl⟩,trivial⟩,trivial⟩,
⟨⟨rl,rr⟩,
⟨rfl,trivial,trivial,trivial,trivial,trivial,trivial,trivial,trivial⟩,trivial⟩,
fun g4=>have h4:=dT g4;⟨⟨rfl,
(by(try dsimp only at *);(rw[ix_out h4]))⟩,
⟨⟨(by(try dsimp only at *);(rw[ix_out h4];exact Nat.le_refl _))⟩,
(by(try dsimp only at *);(rw[ix_out h4];exact rr))⟩,trivial⟩,
fun g5=>have h5:=dF g5;⟨⟨(by(try dsimp only at *);(have:=(dl_go h2 h5).1;omega)),
(by(try dsimp only at *);(have:=(dl_go h2 h5).1;omega))⟩,
({ i:=Int.toNat (ixF (DLx.l x1) (DLx.c x1)),j:=Int.toNat (ixF (DLx.l x1) (DLx.c x1))+(1:Nat),L:=DLx.l x1:DLs }),
⟨(by(try dsimp only at *);exact(dl_go h2 h5).2),
⟨(by(try dsimp only at *);(have:=(dl_go h2 h5).1;omega)),
(by(try dsimp only at *);(have:=(dl_go h2 h5).1;omega)),rfl,rfl,
⟨⟨rfl,rfl⟩,trivial⟩,
⟨rfl,rfl⟩,trivial,
⟨rfl,rfl⟩,
⟨⟨rfl,rfl⟩,trivial⟩,trivial⟩,
⟨rl,rr⟩,
⟨rfl,trivial,trivial,trivial,trivial,trivial,trivial,trivial,trivial⟩,trivial⟩,
fun x7=>fun h8=>⟨fun g9=>have h9:=dT g9;⟨⟨(by(try dsimp only at *);omega),
(by(try dsimp only at *);omega)⟩,
(by(try dsimp only at *);omega),
({ a:=List.getD (DLs.L x7) ((0:Nat)+Int.toNat (↑(DLs.j x7):Int)) default,b:=DLx.c x1:I2x }),trivial,
⟨rfl,
⟨rfl,rfl⟩,trivial⟩,
⟨⟨rfl,trivial,trivial,trivial,trivial,trivial,trivial,trivial,trivial⟩,trivial⟩,
fun g11=>have h11:=nT g11;⟨⟨(by(try dsimp only at *);omega),
(by(try dsimp only at *);(have:=h8.ij;have:=h8.j;omega))⟩,
⟨(by(try dsimp only at *);(have:=h8.ij;have:=h8.j;omega)),trivial,trivial⟩,
⟨(by(try dsimp only at *);omega),
(by(try dsimp only at *);(have:=h8.ij;have:=h8.j;omega))⟩,
⟨(by(try dsimp only at *);omega),
(by(try dsimp only at *);omega)⟩,
({ i:=DLs.i x7+(1:Nat),j:=DLs.j x7+(1:Nat),L:=List.set (DLs.L x7) (DLs.i x7) (List.getD (DLs.L x7) (DLs.j x7) default):DLs }),
(by(try dsimp only at *);omega),
(by(try dsimp only at *);(rw[nat0]at h11;exact dl_keep h8 h9 h11)),
⟨(by(try dsimp only at *);omega),
(by(try dsimp only at *);omega),rfl,rfl,
⟨⟨rfl,rfl⟩,trivial⟩,
⟨rfl,rfl⟩,trivial,
⟨rfl,rfl⟩,
⟨⟨rfl,rfl⟩,trivial⟩,trivial⟩,
⟨rl,
(by(try dsimp only at *);(rw[nat0,nat0];exact rowsEq_set (v:=x7.L.getD x7.j default) (by have:=h8.len;have:=h8.ij;omega) ⟨rfl,trivial⟩))⟩,
⟨rfl,trivial,trivial,trivial,trivial,trivial,trivial,trivial,trivial⟩,trivial⟩,
fun g13=>have h13:=nF g13;⟨⟨(by(try dsimp only at *);omega),
(by(try dsimp only at *);omega)⟩,
({ i:=DLs.i x7,j:=DLs.j x7+(1:Nat),L:=DLs.L x7:DLs }),
(by(try dsimp only at *);omega),
(by(try dsimp only at *);(rw[nat0]at h13;exact dl_drop h8 h9 h13)),
⟨rfl,
(by(try dsimp only at *);omega),rfl,rfl,
⟨⟨rfl,rfl⟩,trivial⟩,
⟨rfl,rfl⟩,trivial,
⟨rfl,rfl⟩,
⟨⟨rfl,rfl⟩,trivial⟩,trivial⟩,
⟨rl,rr⟩,
⟨rfl,trivial,trivial,trivial,trivial,trivial,trivial,trivial,trivial⟩,trivial⟩⟩,
fun g15=>have h15:=dF g15;⟨⟨(by(try dsimp only at *);omega),
(by(try dsimp only at *);(have:=h8.ij;have:=h8.j;omega)),
(by(try dsimp only at *);omega)⟩,
(by(try dsimp only at *);(have:=h8.ij;have:=h8.j;omega)),
⟨(by(try dsimp only at *);omega),
(by(try dsimp only at *);omega),
(by(try dsimp only at *);(have:=h8.ij;have:=h8.j;omega))⟩,
⟨(by(try dsimp only at *);omega),
(by(try dsimp only at *);(have:=(dl_end h8 h15).1;have:Int.toNat 0=0:=rfl;omega))⟩,
⟨⟨(by(try dsimp only at *);(have:=(dl_end h8 h15).1;have:=h8.ij;have:=h8.j;omega))⟩,
(by(try dsimp only at *);(rw[nat0];exact dl_rows h8 h15))⟩,trivial⟩⟩⟩⟩)
theorem dl_good:Good Tryz.prog 49 dlC/\FnOk Tryz.prog 49:=good_of tok conDl (fn:=Tryz.f49) rfl (by decide+kernel) (fun _=>rfl) dl_keeps
end Go.Sym