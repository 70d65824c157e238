import Derived.Test.YtcghhlodddpmaaaDoorX4
import Derived.Test.YtcghhlodddpmaaaDoorV12
import Derived.Test.YtcghhlodddpmaaaDoorXD
namespace Go.Sym
set_option linter.unusedVariables false
set_option linter.unusedSimpArgs false
open Go.Proofs
set_option maxRecDepth 100000
set_option maxHeartbeats 4000000
theorem good_say [Glob] {P:Program} {f:Nat} {ct ct':CT} (φ:ct'.X->ct.X) (h:Good P f ct) (hp:∀ x,ct'.pre x->ct.pre (φ x)) (ha:∀ x,ct'.args x=ct.args (φ x)) (h0:∀ x,ct'.g0 x=ct.g0 (φ x))
  (h1:∀ x,ct'.pre x->ct.g1 (φ x)=ct'.g1 x) (hr:∀ x,ct'.pre x->∀ ρ v,Den ρ (ct.res (φ x)) v->Den ρ (ct'.res x) v) (hs:∀ x,ctSt ct' x=true):Good P f ct':=by
 intro x hx
 obtain⟨_,h2⟩:=h (φ x) (hp x hx)
 refine⟨hs x,fun ρ w vals a b c=>?_⟩
 rw[ha]at b
 rw[h0]at c ⊢
 refine(h2 ρ w vals a b c).mono ?_
 rw[h1 x hx]
 rintro e w' ⟨v,ρ',e1,e2,e3⟩
 exact⟨v,ρ',e1,hr x hx ρ' v e2,e3⟩
def yesC (ct:CT):CT:={ ct with res:=fun _=>.bt true }
theorem good_yes [Glob] {P:Program} {f:Nat} {ct:CT} (h:Good P f ct/\FnOk P f) (hr:∀ x,ct.res x= .b true) (hs:∀ x,ctSt (yesC ct) x=true):Good P f (yesC ct)/\FnOk P f:=
 ⟨good_say (ct:=ct) (ct':=yesC ct) (fun x=>x) h.1 (fun _ h=>h) (fun _=>rfl) (fun _=>rfl) (fun _ _=>rfl) (fun x _ ρ v hd=>by
  rw[hr x]at hd
  simp only[Den]at hd
  show Den ρ (.bt true) v
  simp only[Den]
  exact hd) hs,h.2⟩
theorem wk_good:Good Tryd.prog 10 (yesC wkC)/\FnOk Tryd.prog 10:=good_yes wk_good0 (fun _=>rfl) (fun _=>rfl)
def lw1:CT:=⟨Cmd,fun _=>True,fun x=>[.agg (cl x 100001)],fun x=>[nB 100001 x],fun _=>.b true,fun _=>[]⟩
theorem small_b {c:Cmd} (h:smallF c=true):c.nodes.length<=1000000/\c.code.size<=1000000:=by
 unfold smallF at h
 have h:=of_decide_eq_true h
 omega
def cfgL1:Cfg:=⟨T,[],[(10,.one (yesC wkC)),(11,.one slC),(12,.one vdC),(13,.one rgC)],noInv,60,{}⟩
theorem l1_s {c:Cmd} (h:(!smallF c)=false):c.nodes.length<=1000000/\c.code.size<=1000000:=small_b (by simpa using h)
theorem l1_e (c:Cmd):(vC c==rightF c)=true:=by rw[valid_right];exact beq_self_eq_true _
set_option maxRecDepth 100000 in
theorem l1_keeps:Keeps cfgL1 Tryd.f3 lw1 noIv:=Eq.mp (show((∀ x1:Cmd,(True->(∃ x3:Unit,(True/\(True/\(True/\(∃ x4:Cmd,(True/\(((x1.kind=x4.kind/\(x1.call=x4.call/\(x1.inc=x4.inc/\(x1.oth=x4.oth/\(x1.urg=x4.urg/\(x1.code=x4.code/\((0=0/\x1.nodes.length=x4.nodes.length)/\(x1.dist=x4.dist/\(x1.cen=x4.cen/\(x1.ep=x4.ep/\(x1.tick=x4.tick/\(x1.su=x4.su/\(x1.sq=x4.sq/\(x1.ss=x4.ss/\(x1.sn=x4.sn/\(x1.se=x4.se/\(x1.edge=x4.edge/\(x1.time=x4.time/\(x1.node=x4.node/\True)))))))))))))))))))/\True)/\((((RLe x4.nodes.length x1.nodes.length)/\(RI x4.nodes.length x1.nodes x4.nodes))/\True)/\((((!smallF x4)=false)->(∃ x6:Cmd,((x6.nodes.length<=(1000000:Nat))/\(((x1.kind=x6.kind/\(x1.call=x6.call/\(x1.inc=x6.inc/\(x1.oth=x6.oth/\(x1.urg=x6.urg/\(x1.code=x6.code/\((0=0/\x1.nodes.length=x6.nodes.length)/\(x1.dist=x6.dist/\(x1.cen=x6.cen/\(x1.ep=x6.ep/\(x1.tick=x6.tick/\(x1.su=x6.su/\(x1.sq=x6.sq/\(x1.ss=x6.ss/\(x1.sn=x6.sn/\(x1.se=x6.se/\(x1.edge=x6.edge/\(x1.time=x6.time/\(x1.node=x6.node/\True)))))))))))))))))))/\True)/\((((RLe x6.nodes.length x1.nodes.length)/\(RI x6.nodes.length x1.nodes x6.nodes))/\True)/\(∃ x7:Cmd,(((x7.nodes.length<=(1000000:Nat))/\(ByteArray.size x7.code<=(1000000:Nat)))/\(((x1.kind=x7.kind/\(x1.call=x7.call/\(x1.inc=x7.inc/\(x1.oth=x7.oth/\(x1.urg=x7.urg/\(x1.code=x7.code/\((0=0/\x1.nodes.length=x7.nodes.length)/\(x1.dist=x7.dist/\(x1.cen=x7.cen/\(x1.ep=x7.ep/\(x1.tick=x7.tick/\(x1.su=x7.su/\(x1.sq=x7.sq/\(x1.ss=x7.ss/\(x1.sn=x7.sn/\(x1.se=x7.se/\(x1.edge=x7.edge/\(x1.time=x7.time/\(x1.node=x7.node/\True)))))))))))))))))))/\True)/\((((RLe x7.nodes.length x1.nodes.length)/\(RI x7.nodes.length x1.nodes x7.nodes))/\True)/\(((vC x6==rightF x7)=true)/\True))))))))))/\(((!smallF x4)=true)->(true=true/\True))))))))))))))=(Keeps cfgL1 Tryd.f3 lw1 noIv) by kernel_rfl) (fun x1=>fun h2=>⟨(default),trivial,trivial,trivial,
(x1),trivial,
⟨⟨rfl,rfl,rfl,rfl,rfl,rfl,
⟨rfl,rfl⟩,rfl,rfl,rfl,rfl,rfl,rfl,rfl,rfl,rfl,rfl,rfl,rfl,trivial⟩,trivial⟩,
⟨⟨rl,rr⟩,trivial⟩,
fun h5=>⟨(x1),
(by(try dsimp only at *);exact(l1_s ‹_›).1),
⟨⟨rfl,rfl,rfl,rfl,rfl,rfl,
⟨rfl,rfl⟩,rfl,rfl,rfl,rfl,rfl,rfl,rfl,rfl,rfl,rfl,rfl,rfl,trivial⟩,trivial⟩,
⟨⟨rl,rr⟩,trivial⟩,
(x1),
⟨(by(try dsimp only at *);exact(l1_s ‹_›).1),
(by(try dsimp only at *);exact(l1_s ‹_›).2)⟩,
⟨⟨rfl,rfl,rfl,rfl,rfl,rfl,
⟨rfl,rfl⟩,rfl,rfl,rfl,rfl,rfl,rfl,rfl,rfl,rfl,rfl,rfl,rfl,trivial⟩,trivial⟩,
⟨⟨rl,rr⟩,trivial⟩,
(by(try dsimp only at *);exact l1_e x1),trivial⟩,
fun h8=>⟨rfl,trivial⟩⟩)
end Go.Sym