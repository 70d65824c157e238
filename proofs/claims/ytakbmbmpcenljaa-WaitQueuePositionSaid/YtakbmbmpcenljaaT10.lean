import Derived.Test.YtakbmbmpcenljaaT01
import Derived.Test.YtakbmbmpcenljaaXD
namespace Go.Sym
set_option linter.unusedVariables false
set_option linter.unusedSimpArgs false
open Go.Proofs
set_option maxRecDepth 100000
set_option maxHeartbeats 4000000
def clF (n:Int):Int:=min (max n 0) 4611686018427387904
def elF (now s:Int):Int:=max (clF now-clF s) 0
theorem clF_b (n:Int):0<=clF n/\clF n<=4611686018427387904:=by unfold clF;omega
theorem elF_b (n s:Int):0<=elF n s/\elF n s<=4611686018427387904:=by have:=clF_b n;have:=clF_b s;unfold elF;omega
def clC:CT where
 X:=Int
 pre:=fun _=>True
 args:=fun n=>[.i .i64 n]
 g0:=fun _=>[]
 res:=fun n=>.i .i64 (clF n)
 g1:=fun _=>[]
set_option maxRecDepth 100000 in
theorem cl_keeps:Keeps cfgN0 Try.f45 clC noIv:=Eq.mp (show((∀ x1:Int,(True->((min (max x1 (0:Int)) (4611686018427387904:Int)=clF x1)/\True))))=(Keeps cfgN0 Try.f45 clC noIv) by kernel_rfl) (fun x1=>fun h2=>⟨(by rfl),trivial⟩)
theorem cl_good:Good Try.prog 45 clC/\FnOk Try.prog 45:=good_of tok conN0 (fn:=Try.f45) rfl (by decide+kernel) (fun _=>rfl) cl_keeps
def elC:CT where
 X:=I2x
 pre:=fun _=>True
 args:=fun x=>[.i .i64 x.a,.i .i64 x.b]
 g0:=fun _=>[]
 res:=fun x=>.i .i64 (elF x.a x.b)
 g1:=fun _=>[]
def cfgEl:Cfg:=⟨T,[],[(45,.one clC)],noInv,20,{}⟩
theorem conEl:ConOk Try.prog cfgEl:=ConL.ok (.cons (ConL.one cl_good) .nil)
set_option maxRecDepth 100000 in
theorem el_keeps:Keeps cfgEl Try.f37 elC noIv:=Eq.mp (show((∀ x1:I2x,(True->(∃ x3:Int,(True/\((x1.a=x3/\True)/\(True/\(∃ x4:Int,(True/\((x1.b=x4/\True)/\(True/\((((-9223372036854775808:Int)<=clF x3-clF x4)/\(clF x3-clF x4<=(9223372036854775807:Int)))/\((max (clF x3-clF x4) (0:Int)=elF x1.a x1.b)/\True)))))))))))))=(Keeps cfgEl Try.f37 elC noIv) by kernel_rfl) (fun x1=>fun h2=>⟨(I2x.a x1),trivial,
⟨rfl,trivial⟩,trivial,
(I2x.b x1),trivial,
⟨rfl,trivial⟩,trivial,
⟨(by(try dsimp only at *);(have p:=clF_b x1.a;have q:=clF_b x1.b;omega)),
(by(try dsimp only at *);(have p:=clF_b x1.a;have q:=clF_b x1.b;omega))⟩,
(by(try dsimp only at *);rfl),trivial⟩)
theorem el_good:Good Try.prog 37 elC/\FnOk Try.prog 37:=good_of tok conEl (fn:=Try.f37) rfl (by decide+kernel) (fun _=>rfl) el_keeps
def uC (v:Int):CT where
 X:=Unit
 pre:=fun _=>True
 args:=fun _=>[]
 g0:=fun _=>[]
 res:=fun _=>.i .i64 v
 g1:=fun _=>[]
set_option maxRecDepth 100000 in
theorem nv_keeps:Keeps cfgN0 Try.f46 (uC 4611686018427387904) noIv:=Eq.mp (show((∀ x1:Unit,(True->(((4611686018427387904:Int)=4611686018427387904)/\True))))=(Keeps cfgN0 Try.f46 (uC 4611686018427387904) noIv) by kernel_rfl) (fun x1=>fun h2=>⟨rfl,trivial⟩)
theorem nv_good:Good Try.prog 46 (uC 4611686018427387904)/\FnOk Try.prog 46:=good_of tok conN0 (fn:=Try.f46) rfl (by decide+kernel) (fun _=>rfl) nv_keeps
set_option maxRecDepth 100000 in
theorem mo_keeps:Keeps cfgN0 Try.f29 (uC 1099511627776) noIv:=Eq.mp (show((∀ x1:Unit,(True->(((1099511627776:Int)=1099511627776)/\True))))=(Keeps cfgN0 Try.f29 (uC 1099511627776) noIv) by kernel_rfl) (fun x1=>fun h2=>⟨rfl,trivial⟩)
theorem mo_good:Good Try.prog 29 (uC 1099511627776)/\FnOk Try.prog 29:=good_of tok conN0 (fn:=Try.f29) rfl (by decide+kernel) (fun _=>rfl) mo_keeps
def cfgHo:Cfg:=⟨T,[],[(46,.one (uC 4611686018427387904))],noInv,20,{}⟩
theorem conHo:ConOk Try.prog cfgHo:=ConL.ok (.cons (ConL.one nv_good) .nil)
set_option maxRecDepth 100000 in
theorem ho_keeps:Keeps cfgHo Try.f39 clC noIv:=Eq.mp (show((∀ x1:Int,(True->(((decide (x1<0)=true)->(((0:Int)=clF x1)/\True))/\((decide (x1<0)=false)->(∃ x5:Unit,(True/\(True/\(True/\(((decide (4611686018427387904<x1)=true)->(∃ x7:Unit,(True/\(True/\(True/\(((4611686018427387904:Int)=clF x1)/\True))))))/\((decide (4611686018427387904<x1)=false)->((x1=clF x1)/\True))))))))))))=(Keeps cfgHo Try.f39 clC noIv) by kernel_rfl) (fun x1=>fun h2=>⟨fun g3=>have h3:=dT g3;⟨(by(unfold clF;omega)),trivial⟩,
fun g4=>have h4:=dF g4;⟨(()),trivial,trivial,trivial,
fun g6=>have h6:=dT g6;⟨(()),trivial,trivial,trivial,
(by(try dsimp only at *);(unfold clF;omega)),trivial⟩,
fun g8=>have h8:=dF g8;⟨(by(try dsimp only at *);(unfold clF;omega)),trivial⟩⟩⟩)
theorem ho_good:Good Try.prog 39 clC/\FnOk Try.prog 39:=good_of tok conHo (fn:=Try.f39) rfl (by decide+kernel) (fun _=>rfl) ho_keeps
def cfgAg:Cfg:=⟨T,[],[(39,.one clC)],noInv,20,{}⟩
theorem conAg:ConOk Try.prog cfgAg:=ConL.ok (.cons (ConL.one ho_good) .nil)
theorem ago_el (a b:Int):clF (clF a-clF b)=elF a b:=by have p:=clF_b a;have q:=clF_b b;unfold elF;generalize clF a=u at *;generalize clF b=v at *;unfold clF;omega
set_option maxRecDepth 100000 in
theorem ag_keeps:Keeps cfgAg Try.f24 elC noIv:=Eq.mp (show((∀ x1:I2x,(True->(∃ x3:Int,(True/\((x1.a=x3/\True)/\(True/\(∃ x4:Int,(True/\((x1.b=x4/\True)/\(True/\((((-9223372036854775808:Int)<=clF x3-clF x4)/\(clF x3-clF x4<=(9223372036854775807:Int)))/\(∃ x5:Int,(True/\(((clF x3-clF x4=x5)/\True)/\(True/\((clF x5=elF x1.a x1.b)/\True)))))))))))))))))=(Keeps cfgAg Try.f24 elC noIv) by kernel_rfl) (fun x1=>fun h2=>⟨(I2x.a x1),trivial,
⟨rfl,trivial⟩,trivial,
(I2x.b x1),trivial,
⟨rfl,trivial⟩,trivial,
⟨(by(try dsimp only at *);(have p:=clF_b x1.a;have q:=clF_b x1.b;omega)),
(by(try dsimp only at *);(have p:=clF_b x1.a;have q:=clF_b x1.b;omega))⟩,
(clF (I2x.a x1)-clF (I2x.b x1)),trivial,
⟨rfl,trivial⟩,trivial,
(by(try dsimp only at *);exact ago_el _ _),trivial⟩)
theorem ag_good:Good Try.prog 24 elC/\FnOk Try.prog 24:=good_of tok conAg (fn:=Try.f24) rfl (by decide+kernel) (fun _=>rfl) ag_keeps
structure Cl where
 id:Int
 urg:Int
 since:Int
deriving Inhabited
def idsC (l:List Cl):List Int:=l.map Cl.id
def posC (l:List Cl) (k:Int):Nat:=l.findIdx fun e=>decide (e.id=k)
def valC (l:List Cl) (k:Int):Nat->D:=encN [.i (l.getD (posC l k) default).urg,.i (l.getD (posC l k) default).since]
structure Qs where
 most:Int
 ages:Int
 l:List Cl
def kW:List Kd:=[.int .i64,.int .i64]
def qH (a:Nat) (m:Md) (q:Qs):List (Nat × Blk):=[(a,.one m [.i .i64 q.most,.i .i64 q.ages,.mp (a+1)]),(a+1,.map m .i64 kW true (idsC q.l) (valC q.l))]
def clV (c:Cl):SV:=.agg [.i .i64 c.id,.i .i64 c.urg,.i .i64 c.since]
def kC:List Kd:=[.int .i64,.int .i64,.int .i64]
def encC (c:Cl):Nat->D:=encN [.i c.id,.i c.urg,.i c.since]
def rmH (a:Nat) (m m':Md) (q:Qs):List (Nat × Blk):=[(a,.one m [.i .i64 q.most,.i .i64 q.ages,.sl (a+1) 0 q.l.length]),(a+1,.rows m' kC q.l.length (encL encC q.l))]
structure ClOk (c:Cl):Prop where
 i:1<=c.id
 u:1<=c.urg/\c.urg<=5
 s:0<=c.since/\c.since<=1099511627776
def rkF (ages now:Int) (c:Cl):Int:=max (c.urg-elF now c.since / ages) 1
def plF (ages now:Int) (c:Cl):Pl:=⟨rkF ages now c,c.since,c.id⟩
structure Px where
 q:Qs
 c:Cl
 now:Int
structure Pok (x:Px):Prop where
 a:1<=x.q.ages
 u:1<=x.c.urg/\x.c.urg<=5
theorem el_div {n s a:Int} (h:1<=a):0<=elF n s/\0<=elF n s / a/\elF n s / a<=4611686018427387904:=by
 have e:=elF_b n s
 exact⟨e.1,Int.ediv_nonneg e.1 (by omega),Int.le_trans (Int.ediv_le_self _ e.1) e.2⟩
def qpC:CT where
 X:=Px
 pre:=Pok
 args:=fun x=>[.p 100000 0 0,.i .i64 x.c.id,.agg [.i .i64 x.c.urg,.i .i64 x.c.since],.i .i64 x.now]
 g0:=fun x=>qH 100000 .bor x.q
 res:=fun x=>plV (plF x.q.ages x.now x.c)
 g1:=fun _=>[]
def cfgQp:Cfg:=⟨T,[],[(37,.one elC)],noInv,20,{}⟩
theorem conQp:ConOk Try.prog cfgQp:=ConL.ok (.cons (ConL.one el_good) .nil)
set_option maxRecDepth 100000 in
theorem qp_keeps:Keeps cfgQp Try.f33 qpC noIv:=Eq.mp (show((∀ x1:Px,((Pok x1)->(∃ x3:I2x,(True/\((x1.now=x3.a/\(x1.c.since=x3.b/\True))/\(True/\((((0:Int)<=elF x3.a x3.b)/\((0<x1.q.ages)/\(((-9223372036854775808:Int)<=elF x3.a x3.b / x1.q.ages)/\(elF x3.a x3.b / x1.q.ages<=(9223372036854775807:Int)))))/\((((-9223372036854775808:Int)<=x1.c.urg-elF x3.a x3.b / x1.q.ages)/\(x1.c.urg-elF x3.a x3.b / x1.q.ages<=(9223372036854775807:Int)))/\(((max (x1.c.urg-elF x3.a x3.b / x1.q.ages) 1=(plF x1.q.ages x1.now x1.c).rk)/\((x1.c.since=(plF x1.q.ages x1.now x1.c).si)/\((x1.c.id=(plF x1.q.ages x1.now x1.c).ca)/\True)))/\True))))))))))=(Keeps cfgQp Try.f33 qpC noIv) by kernel_rfl) (fun x1=>fun h2=>⟨({ a:=Px.now x1,b:=Cl.since (Px.c x1):I2x }),trivial,
⟨rfl,rfl,trivial⟩,trivial,
⟨(by(try dsimp only at *);(have p:=el_div (n:=x1.now) (s:=x1.c.since) h2.a;have q:=h2.u;have r:=h2.a;(try simp only[]);omega)),
(by(try dsimp only at *);(have p:=el_div (n:=x1.now) (s:=x1.c.since) h2.a;have q:=h2.u;have r:=h2.a;(try simp only[]);omega)),
(by(try dsimp only at *);(have p:=el_div (n:=x1.now) (s:=x1.c.since) h2.a;have q:=h2.u;have r:=h2.a;(try simp only[]);omega)),
(by(try dsimp only at *);(have p:=el_div (n:=x1.now) (s:=x1.c.since) h2.a;have q:=h2.u;have r:=h2.a;(try simp only[]);omega))⟩,
⟨(by(try dsimp only at *);(have p:=el_div (n:=x1.now) (s:=x1.c.since) h2.a;have q:=h2.u;have r:=h2.a;(try simp only[]);omega)),
(by(try dsimp only at *);(have p:=el_div (n:=x1.now) (s:=x1.c.since) h2.a;have q:=h2.u;have r:=h2.a;(try simp only[]);omega))⟩,
⟨(by(try dsimp only at *);rfl),
(by(try dsimp only at *);rfl),
(by(try dsimp only at *);rfl),trivial⟩,trivial⟩)
theorem qp_good:Good Try.prog 33 qpC/\FnOk Try.prog 33:=good_of tok conQp (fn:=Try.f33) rfl (by decide+kernel) (fun _=>rfl) qp_keeps
def wrC:CT where
 X:=Px
 pre:=Pok
 args:=fun x=>[.p 100000 0 0,clV x.c,.i .i64 x.now]
 g0:=fun x=>rmH 100000 .bor .bor x.q
 res:=fun x=>.i .i64 (rkF x.q.ages x.now x.c)
 g1:=fun _=>[]
def cfgWr:Cfg:=⟨T,[],[(24,.one elC)],noInv,20,{}⟩
set_option maxRecDepth 100000 in
theorem wr_keeps:Keeps cfgWr Try.f44 wrC noIv:=Eq.mp (show((∀ x1:Px,((Pok x1)->(∃ x3:I2x,(True/\((x1.now=x3.a/\(x1.c.since=x3.b/\True))/\(True/\((((0:Int)<=elF x3.a x3.b)/\((0<x1.q.ages)/\(((-9223372036854775808:Int)<=elF x3.a x3.b / x1.q.ages)/\(elF x3.a x3.b / x1.q.ages<=(9223372036854775807:Int)))))/\((((-9223372036854775808:Int)<=x1.c.urg-elF x3.a x3.b / x1.q.ages)/\(x1.c.urg-elF x3.a x3.b / x1.q.ages<=(9223372036854775807:Int)))/\(((decide (x1.c.urg-elF x3.a x3.b / x1.q.ages<(1:Int))=true)->(((1:Int)=rkF x1.q.ages x1.now x1.c)/\True))/\((decide (x1.c.urg-elF x3.a x3.b / x1.q.ages<(1:Int))=false)->((x1.c.urg-elF x3.a x3.b / x1.q.ages=rkF x1.q.ages x1.now x1.c)/\True))))))))))))=(Keeps cfgWr Try.f44 wrC noIv) by kernel_rfl) (fun x1=>fun h2=>⟨({ a:=Px.now x1,b:=Cl.since (Px.c x1):I2x }),trivial,
⟨rfl,rfl,trivial⟩,trivial,
⟨(by(try dsimp only at *);(have p:=el_div (n:=x1.now) (s:=x1.c.since) h2.a;have q:=h2.u;have r:=h2.a;(try simp only[]);omega)),
(by(try dsimp only at *);(have p:=el_div (n:=x1.now) (s:=x1.c.since) h2.a;have q:=h2.u;have r:=h2.a;(try simp only[]);omega)),
(by(try dsimp only at *);(have p:=el_div (n:=x1.now) (s:=x1.c.since) h2.a;have q:=h2.u;have r:=h2.a;(try simp only[]);omega)),
(by(try dsimp only at *);(have p:=el_div (n:=x1.now) (s:=x1.c.since) h2.a;have q:=h2.u;have r:=h2.a;(try simp only[]);omega))⟩,
⟨(by(try dsimp only at *);(have p:=el_div (n:=x1.now) (s:=x1.c.since) h2.a;have q:=h2.u;have r:=h2.a;(try simp only[]);omega)),
(by(try dsimp only at *);(have p:=el_div (n:=x1.now) (s:=x1.c.since) h2.a;have q:=h2.u;have r:=h2.a;(try simp only[]);omega))⟩,
fun g4=>have h4:=dT g4;⟨(by(try dsimp only at *);(have p:=el_div (n:=x1.now) (s:=x1.c.since) h2.a;have q:=h2.u;have r:=h2.a;simp only[rkF]at *;omega)),trivial⟩,
fun g5=>have h5:=dF g5;⟨(by(try dsimp only at *);(have p:=el_div (n:=x1.now) (s:=x1.c.since) h2.a;have q:=h2.u;have r:=h2.a;simp only[rkF]at *;omega)),trivial⟩⟩)
structure Bfx where
 q:Qs
 a:Cl
 b:Cl
 now:Int
def befF (ages now:Int) (a b:Cl):Bool:=ltP (plF ages now a) (plF ages now b)
theorem bef_iff (ages now:Int) (a b:Cl):befF ages now a b=true↔rkF ages now a<rkF ages now b∨(rkF ages now a=rkF ages now b/\(a.since<b.since∨(a.since=b.since/\a.id<b.id))):=ltP_iff _ _
theorem bef_dec {ages now:Int} {a b:Cl} {p:Prop} [Decidable p] (h:p↔(rkF ages now a<rkF ages now b∨(rkF ages now a=rkF ages now b/\(a.since<b.since∨(a.since=b.since/\a.id<b.id))))):decide p=befF ages now a b:=by
 rw[Bool.eq_iff_iff,decide_eq_true_iff,bef_iff];exact h
def wbC:CT where
 X:=Bfx
 pre:=fun x=>Pok ⟨x.q,x.a,0⟩/\Pok ⟨x.q,x.b,0⟩
 args:=fun x=>[.p 100000 0 0,clV x.a,clV x.b,.i .i64 x.now]
 g0:=fun x=>rmH 100000 .bor .bor x.q
 res:=fun x=>.b (befF x.q.ages x.now x.a x.b)
 g1:=fun _=>[]
def cfgWb:Cfg:=⟨T,[],[(44,.one wrC)],noInv,20,{}⟩
set_option maxRecDepth 100000 in
theorem wb_keeps:Keeps cfgWb Try.f36 wbC noIv:=Eq.mp (show((∀ x1:Bfx,((Pok (Px.mk x1.q x1.a (0:Int))/\Pok (Px.mk x1.q x1.b (0:Int)))->(∃ x3:Px,((Pok x3)/\(((0=0/\0=0)/\((x1.a.id=x3.c.id/\(x1.a.urg=x3.c.urg/\(x1.a.since=x3.c.since/\True)))/\(x1.now=x3.now/\True)))/\(((x1.q.most=x3.q.most/\(x1.q.ages=x3.q.ages/\((0=0/\x1.q.l.length=x3.q.l.length)/\True)))/\(((RLe x3.q.l.length x1.q.l.length)/\(RowsEq [.int .i64,.int .i64,.int .i64] x3.q.l.length (encL encC x1.q.l) (encL encC x3.q.l)))/\True))/\(∃ x4:Px,((Pok x4)/\(((0=0/\0=0)/\((x1.b.id=x4.c.id/\(x1.b.urg=x4.c.urg/\(x1.b.since=x4.c.since/\True)))/\(x1.now=x4.now/\True)))/\(((x1.q.most=x4.q.most/\(x1.q.ages=x4.q.ages/\((0=0/\x1.q.l.length=x4.q.l.length)/\True)))/\(((RLe x4.q.l.length x1.q.l.length)/\(RowsEq [.int .i64,.int .i64,.int .i64] x4.q.l.length (encL encC x1.q.l) (encL encC x4.q.l)))/\True))/\(((decide (rkF x3.q.ages x3.now x3.c≠rkF x4.q.ages x4.now x4.c)=true)->((decide (rkF x3.q.ages x3.now x3.c<rkF x4.q.ages x4.now x4.c)=befF x1.q.ages x1.now x1.a x1.b)/\True))/\((decide (rkF x3.q.ages x3.now x3.c≠rkF x4.q.ages x4.now x4.c)=false)->(((decide (x1.a.since≠x1.b.since)=true)->((decide (x1.a.since<x1.b.since)=befF x1.q.ages x1.now x1.a x1.b)/\True))/\((decide (x1.a.since≠x1.b.since)=false)->((decide (x1.a.id<x1.b.id)=befF x1.q.ages x1.now x1.a x1.b)/\True))))))))))))))))=(Keeps cfgWb Try.f36 wbC noIv) by kernel_rfl) (fun x1=>fun h2=>⟨({ q:=Bfx.q x1,c:=Bfx.a x1,now:=Bfx.now x1:Px }),
(by(try dsimp only at *);exact⟨h2.1.1,h2.1.2⟩),
⟨⟨rfl,rfl⟩,
⟨rfl,rfl,rfl,trivial⟩,rfl,trivial⟩,
⟨⟨rfl,rfl,
⟨rfl,rfl⟩,trivial⟩,
⟨rl,rr⟩,trivial⟩,
({ q:=Bfx.q x1,c:=Bfx.b x1,now:=Bfx.now x1:Px }),
(by(try dsimp only at *);exact⟨h2.2.1,h2.2.2⟩),
⟨⟨rfl,rfl⟩,
⟨rfl,rfl,rfl,trivial⟩,rfl,trivial⟩,
⟨⟨rfl,rfl,
⟨rfl,rfl⟩,trivial⟩,
⟨rl,rr⟩,trivial⟩,
fun g5=>have h5:=dT g5;⟨(by(try dsimp only at *);(refine bef_dec ?_;omega)),trivial⟩,
fun g6=>have h6:=dF g6;⟨fun g7=>have h7:=dT g7;⟨(by(try dsimp only at *);(refine bef_dec ?_;omega)),trivial⟩,
fun g8=>have h8:=dF g8;⟨(by(try dsimp only at *);(refine bef_dec ?_;omega)),trivial⟩⟩⟩)
end Go.Sym