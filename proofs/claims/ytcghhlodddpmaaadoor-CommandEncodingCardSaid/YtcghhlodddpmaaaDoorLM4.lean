import Derived.Test.YtcghhlodddpmaaaDoorX8
import Derived.Test.YtcghhlodddpmaaaDoorTG
import Derived.Test.YtcghhlodddpmaaaDoorXD
namespace Go.Sym
set_option linter.unusedVariables false
set_option linter.unusedSimpArgs false
open Go.Proofs
set_option maxRecDepth 100000
set_option maxHeartbeats 4000000
theorem byR_in (c:Cmd):inB (byR c):=by
 unfold byR
 cases hv:vC c with
 |true=>exact⟨byC_isB,Nat.le_trans (byC_len hv) (by decide)⟩
 |false=>exact⟨fun b hb=>(by cases hb),Nat.zero_le _⟩
theorem e_y {c:Cmd} (h:(!rightF c)=false):decC (byR c)=c/\decE (byR c)=0:=by
 have hv:=pu_v h
 have h1:=byR_in c
 have e:byR c=byC c++[]:=by unfold byR;rw[if_pos hv,List.append_nil]
 rw[e]at h1 ⊢
 exact dec_app hv [] h1
theorem e_n {c:Cmd} (h:(!rightF c)=true):byR c=[]:=List.eq_nil_of_length_eq_zero (pu_n h)
theorem e_n0 {c:Cmd} {p:Prop} (h:(!rightF c)=true) (h1:¬ ((byR c).length:Int)=0):p:=absurd (by rw[e_n h];rfl) h1
theorem e_11 {c:Cmd} (h:(!rightF c)=true):decide (decE (byR c)=11)=true:=by
 rw[e_n h]
 exact decide_eq_true (by rfl)
theorem e_s {c:Cmd} (h:(!smallF c)=false):(c.nodes.length<=60/\c.code.size<=1000)/\(c.nodes.length<=1000000/\c.code.size<=1000000):=by
 have h:smallF c=true:=by simpa using h
 unfold smallF at h
 have h:=of_decide_eq_true h
 omega
theorem e_no {c:Cmd} {p:Prop} (h:(!rightF c)=false) (h1:¬ decE (byR c)=0):p:=absurd (e_y h).2 h1
theorem e_ne {c:Cmd} {p:Prop} (h:(!rightF c)=false) (h1:¬ decC (byR c)=c):p:=absurd (e_y h).1 h1
def cfgL4:Cfg:=⟨T,[],[(10,.one (yesC wkC)),(11,.one slC),(14,.one enC),(15,.one puC),(16,.one fgC),(17,.one fgC),(18,.one dcC),(13,.one rgC),(19,.one eqCt),(20,.one eqCt)],noInv,60,{ kn:=true }⟩
theorem conL4:ConOk Tryd.prog cfgL4:=ConL.ok (.cons (ConL.one wk_good) (.cons (ConL.one sl_good) (.cons (ConL.one en_good) (.cons (ConL.one pu_good) (.cons (ConL.one fg_good) (.cons (ConL.one tg_good) (.cons (ConL.one dc_good) (.cons (ConL.one rg_good) (.cons (ConL.one sm_good) (.cons (ConL.one eq_good) .nil))))))))))
set_option maxRecDepth 100000 in
theorem l4_keeps:Keeps cfgL4 Tryd.f4 lw1 noIv:=Eq.mp (show((∀ x1:Cmd,(True->(∃ x3:Unit,(True/\(True/\(True/\(∃ x4:Cmd,(True/\(((x1.kind=x4.kind/\(x1.call=x4.call/\(x1.inc=x4.inc/\(x1.oth=x4.oth/\(x1.urg=x4.urg/\(x1.code=x4.code/\((0=0/\x1.nodes.length=x4.nodes.length)/\(x1.dist=x4.dist/\(x1.cen=x4.cen/\(x1.ep=x4.ep/\(x1.tick=x4.tick/\(x1.su=x4.su/\(x1.sq=x4.sq/\(x1.ss=x4.ss/\(x1.sn=x4.sn/\(x1.se=x4.se/\(x1.edge=x4.edge/\(x1.time=x4.time/\(x1.node=x4.node/\True)))))))))))))))))))/\True)/\((((RLe x4.nodes.length x1.nodes.length)/\(RI x4.nodes.length x1.nodes x4.nodes))/\True)/\((((!smallF x4)=true)->(true=true/\True))/\(((!smallF x4)=false)->(∃ x7:Cmd,((x7.nodes.length<=(1000000:Nat))/\(((x1.kind=x7.kind/\(x1.call=x7.call/\(x1.inc=x7.inc/\(x1.oth=x7.oth/\(x1.urg=x7.urg/\(x1.code=x7.code/\((0=0/\x1.nodes.length=x7.nodes.length)/\(x1.dist=x7.dist/\(x1.cen=x7.cen/\(x1.ep=x7.ep/\(x1.tick=x7.tick/\(x1.su=x7.su/\(x1.sq=x7.sq/\(x1.ss=x7.ss/\(x1.sn=x7.sn/\(x1.se=x7.se/\(x1.edge=x7.edge/\(x1.time=x7.time/\(x1.node=x7.node/\True)))))))))))))))))))/\True)/\((((RLe x7.nodes.length x1.nodes.length)/\(RI x7.nodes.length x1.nodes x7.nodes))/\True)/\(((0:Nat)+(byR x7).length<=(byR x7).length)/\(∃ x8:Cmd,(((x8.nodes.length<=(1000000:Nat))/\(ByteArray.size x8.code<=(1000000:Nat)))/\(((x1.kind=x8.kind/\(x1.call=x8.call/\(x1.inc=x8.inc/\(x1.oth=x8.oth/\(x1.urg=x8.urg/\(x1.code=x8.code/\((0=0/\x1.nodes.length=x8.nodes.length)/\(x1.dist=x8.dist/\(x1.cen=x8.cen/\(x1.ep=x8.ep/\(x1.tick=x8.tick/\(x1.su=x8.su/\(x1.sq=x8.sq/\(x1.ss=x8.ss/\(x1.sn=x8.sn/\(x1.se=x8.se/\(x1.edge=x8.edge/\(x1.time=x8.time/\(x1.node=x8.node/\True)))))))))))))))))))/\True)/\((((RLe x8.nodes.length x1.nodes.length)/\(RI x8.nodes.length x1.nodes x8.nodes))/\True)/\(((0:Nat)+(byR x8).length<=(byR x8).length)/\((((!ByteArray.toList (ByteArray.mk (List.toArray (List.map (fun(r:Nat)=>UInt8.ofNat (Int.toNat ((byR x7).getD ((0:Nat)+r) default))) (List.range (byR x7).length))))==ByteArray.toList (ByteArray.mk (List.toArray (List.map (fun(r:Nat)=>UInt8.ofNat (Int.toNat ((byR x8).getD ((0:Nat)+r) default))) (List.range (byR x8).length)))))=false)->(∃ x10:Cmd,(((x10.nodes.length<=(60:Nat))/\(ByteArray.size x10.code<=(1000:Nat)))/\(((x1.kind=x10.kind/\(x1.call=x10.call/\(x1.inc=x10.inc/\(x1.oth=x10.oth/\(x1.urg=x10.urg/\(x1.code=x10.code/\((0=0/\x1.nodes.length=x10.nodes.length)/\(x1.dist=x10.dist/\(x1.cen=x10.cen/\(x1.ep=x10.ep/\(x1.tick=x10.tick/\(x1.su=x10.su/\(x1.sq=x10.sq/\(x1.ss=x10.ss/\(x1.sn=x10.sn/\(x1.se=x10.se/\(x1.edge=x10.edge/\(x1.time=x10.time/\(x1.node=x10.node/\True)))))))))))))))))))/\True)/\((((RLe x10.nodes.length x1.nodes.length)/\(RI x10.nodes.length x1.nodes x10.nodes))/\True)/\(∃ x11:Cmd,(((x11.nodes.length<=(60:Nat))/\(ByteArray.size x11.code<=(1000:Nat)))/\(((x1.kind=x11.kind/\(x1.call=x11.call/\(x1.inc=x11.inc/\(x1.oth=x11.oth/\(x1.urg=x11.urg/\(x1.code=x11.code/\((0=0/\x1.nodes.length=x11.nodes.length)/\(x1.dist=x11.dist/\(x1.cen=x11.cen/\(x1.ep=x11.ep/\(x1.tick=x11.tick/\(x1.su=x11.su/\(x1.sq=x11.sq/\(x1.ss=x11.ss/\(x1.sn=x11.sn/\(x1.se=x11.se/\(x1.edge=x11.edge/\(x1.time=x11.time/\(x1.node=x11.node/\True)))))))))))))))))))/\True)/\((((RLe x11.nodes.length x1.nodes.length)/\(RI x11.nodes.length x1.nodes x11.nodes))/\True)/\((((!ByteArray.toList (fmtF x10)==ByteArray.toList (fmtF x11))=true)->(false=true/\True))/\(((!ByteArray.toList (fmtF x10)==ByteArray.toList (fmtF x11))=false)->(∃ x14:List Int,((inB x14)/\(((0=0/\((byR x7).length=x14.length))/\True)/\((((RLe x14.length (byR x7).length)/\(RowsEq (.int IntKind.u8::[]) x14.length (encL encI (byR x7)) (encL encI x14)))/\True)/\(∃ x15:Cmd,(((x15.nodes.length<=(1000000:Nat))/\(ByteArray.size x15.code<=(1000000:Nat)))/\(((x1.kind=x15.kind/\(x1.call=x15.call/\(x1.inc=x15.inc/\(x1.oth=x15.oth/\(x1.urg=x15.urg/\(x1.code=x15.code/\((0=0/\x1.nodes.length=x15.nodes.length)/\(x1.dist=x15.dist/\(x1.cen=x15.cen/\(x1.ep=x15.ep/\(x1.tick=x15.tick/\(x1.su=x15.su/\(x1.sq=x15.sq/\(x1.ss=x15.ss/\(x1.sn=x15.sn/\(x1.se=x15.se/\(x1.edge=x15.edge/\(x1.time=x15.time/\(x1.node=x15.node/\True)))))))))))))))))))/\True)/\((((RLe x15.nodes.length x1.nodes.length)/\(RI x15.nodes.length x1.nodes x15.nodes))/\True)/\((((!rightF x15)=true)->(((decide ((↑(byR x7).length:Int)=0)=true)->((decide (decE x14=11)=true)/\True))/\((decide ((↑(byR x7).length:Int)=0)=false)->(false=true/\True))))/\(((!rightF x15)=false)->(((decide (decE x14=0)=true)->(∃ x21:Cmd × Cmd,(((Prod.fst x21).nodes.length<=(1000000:Nat))/\(((((decC x14).kind=(Prod.fst x21).kind)/\(((decC x14).call=(Prod.fst x21).call)/\(((decC x14).inc=(Prod.fst x21).inc)/\(((decC x14).oth=(Prod.fst x21).oth)/\(((decC x14).urg=(Prod.fst x21).urg)/\(((decC x14).code=(Prod.fst x21).code)/\((0=0/\((decC x14).nodes.length=(Prod.fst x21).nodes.length))/\(((decC x14).dist=(Prod.fst x21).dist)/\(((decC x14).cen=(Prod.fst x21).cen)/\(((decC x14).ep=(Prod.fst x21).ep)/\(((decC x14).tick=(Prod.fst x21).tick)/\(((decC x14).su=(Prod.fst x21).su)/\(((decC x14).sq=(Prod.fst x21).sq)/\(((decC x14).ss=(Prod.fst x21).ss)/\(((decC x14).sn=(Prod.fst x21).sn)/\(((decC x14).se=(Prod.fst x21).se)/\(((decC x14).edge=(Prod.fst x21).edge)/\(((decC x14).time=(Prod.fst x21).time)/\(((decC x14).node=(Prod.fst x21).node)/\True)))))))))))))))))))/\(((x1.kind=(Prod.snd x21).kind)/\((x1.call=(Prod.snd x21).call)/\((x1.inc=(Prod.snd x21).inc)/\((x1.oth=(Prod.snd x21).oth)/\((x1.urg=(Prod.snd x21).urg)/\((x1.code=(Prod.snd x21).code)/\((0=0/\(x1.nodes.length=(Prod.snd x21).nodes.length))/\((x1.dist=(Prod.snd x21).dist)/\((x1.cen=(Prod.snd x21).cen)/\((x1.ep=(Prod.snd x21).ep)/\((x1.tick=(Prod.snd x21).tick)/\((x1.su=(Prod.snd x21).su)/\((x1.sq=(Prod.snd x21).sq)/\((x1.ss=(Prod.snd x21).ss)/\((x1.sn=(Prod.snd x21).sn)/\((x1.se=(Prod.snd x21).se)/\((x1.edge=(Prod.snd x21).edge)/\((x1.time=(Prod.snd x21).time)/\((x1.node=(Prod.snd x21).node)/\True)))))))))))))))))))/\True))/\((((RLe (Prod.fst x21).nodes.length (decC x14).nodes.length)/\(RowsEq [.int .i64] (Prod.fst x21).nodes.length (encL encI (decC x14).nodes) (encL encI (Prod.fst x21).nodes)))/\(((RLe (Prod.snd x21).nodes.length x1.nodes.length)/\(RowsEq [.int .i64] (Prod.snd x21).nodes.length (encL encI x1.nodes) (encL encI (Prod.snd x21).nodes)))/\True))/\(((decide (Prod.fst x21=Prod.snd x21)=true)->(∃ x23:Cmd × Cmd,(((Prod.fst x23).nodes.length<=(1000000:Nat))/\(((((decC x14).kind=(Prod.fst x23).kind)/\(((decC x14).call=(Prod.fst x23).call)/\(((decC x14).inc=(Prod.fst x23).inc)/\(((decC x14).oth=(Prod.fst x23).oth)/\(((decC x14).urg=(Prod.fst x23).urg)/\(((decC x14).code=(Prod.fst x23).code)/\((0=0/\((decC x14).nodes.length=(Prod.fst x23).nodes.length))/\(((decC x14).dist=(Prod.fst x23).dist)/\(((decC x14).cen=(Prod.fst x23).cen)/\(((decC x14).ep=(Prod.fst x23).ep)/\(((decC x14).tick=(Prod.fst x23).tick)/\(((decC x14).su=(Prod.fst x23).su)/\(((decC x14).sq=(Prod.fst x23).sq)/\(((decC x14).ss=(Prod.fst x23).ss)/\(((decC x14).sn=(Prod.fst x23).sn)/\(((decC x14).se=(Prod.fst x23).se)/\(((decC x14).edge=(Prod.fst x23).edge)/\(((decC x14).time=(Prod.fst x23).time)/\(((decC x14).node=(Prod.fst x23).node)/\True)))))))))))))))))))/\(((x1.kind=(Prod.snd x23).kind)/\((x1.call=(Prod.snd x23).call)/\((x1.inc=(Prod.snd x23).inc)/\((x1.oth=(Prod.snd x23).oth)/\((x1.urg=(Prod.snd x23).urg)/\((x1.code=(Prod.snd x23).code)/\((0=0/\(x1.nodes.length=(Prod.snd x23).nodes.length))/\((x1.dist=(Prod.snd x23).dist)/\((x1.cen=(Prod.snd x23).cen)/\((x1.ep=(Prod.snd x23).ep)/\((x1.tick=(Prod.snd x23).tick)/\((x1.su=(Prod.snd x23).su)/\((x1.sq=(Prod.snd x23).sq)/\((x1.ss=(Prod.snd x23).ss)/\((x1.sn=(Prod.snd x23).sn)/\((x1.se=(Prod.snd x23).se)/\((x1.edge=(Prod.snd x23).edge)/\((x1.time=(Prod.snd x23).time)/\((x1.node=(Prod.snd x23).node)/\True)))))))))))))))))))/\True))/\((((RLe (Prod.fst x23).nodes.length (decC x14).nodes.length)/\(RowsEq [.int .i64] (Prod.fst x23).nodes.length (encL encI (decC x14).nodes) (encL encI (Prod.fst x23).nodes)))/\(((RLe (Prod.snd x23).nodes.length x1.nodes.length)/\(RowsEq [.int .i64] (Prod.snd x23).nodes.length (encL encI x1.nodes) (encL encI (Prod.snd x23).nodes)))/\True))/\((decide (Prod.fst x23=Prod.snd x23)=true)/\True))))))/\((decide (Prod.fst x21=Prod.snd x21)=false)->(false=true/\True))))))))/\((decide (decE x14=0)=false)->(false=true/\True))))))))))))))))))))))))/\(((!ByteArray.toList (ByteArray.mk (List.toArray (List.map (fun(r:Nat)=>UInt8.ofNat (Int.toNat ((byR x7).getD ((0:Nat)+r) default))) (List.range (byR x7).length))))==ByteArray.toList (ByteArray.mk (List.toArray (List.map (fun(r:Nat)=>UInt8.ofNat (Int.toNat ((byR x8).getD ((0:Nat)+r) default))) (List.range (byR x8).length)))))=true)->(false=true/\True))))))))))))))))))))))))))=(Keeps cfgL4 Tryd.f4 lw1 noIv) by kernel_rfl) (fun x1=>fun h2=>⟨(default),
 trivial,trivial,trivial,
(x1),trivial,
⟨⟨rfl,rfl,rfl,rfl,rfl,rfl,
⟨rfl,rfl⟩,rfl,rfl,rfl,rfl,rfl,rfl,rfl,rfl,rfl,rfl,rfl,rfl,trivial⟩,trivial⟩,
⟨⟨rl,rr⟩,trivial⟩,
fun h5=>⟨rfl,trivial⟩,
fun h6=>⟨(x1),
(by(try dsimp only at *);exact(e_s ‹_›).2.1),
⟨⟨rfl,rfl,rfl,rfl,rfl,rfl,
⟨rfl,rfl⟩,rfl,rfl,rfl,rfl,rfl,rfl,rfl,rfl,rfl,rfl,rfl,rfl,trivial⟩,trivial⟩,
⟨⟨rl,rr⟩,trivial⟩,
(by(try dsimp only at *);omega),
(x1),
⟨(by(try dsimp only at *);exact(e_s ‹_›).2.1),
(by(try dsimp only at *);exact(e_s ‹_›).2.2)⟩,
⟨⟨rfl,rfl,rfl,rfl,rfl,rfl,
⟨rfl,rfl⟩,rfl,rfl,rfl,rfl,rfl,rfl,rfl,rfl,rfl,rfl,rfl,rfl,trivial⟩,trivial⟩,
⟨⟨rl,rr⟩,trivial⟩,
(by(try dsimp only at *);omega),
fun h9=>⟨(x1),
⟨(by(try dsimp only at *);exact(e_s ‹_›).1.1),
(by(try dsimp only at *);exact(e_s ‹_›).1.2)⟩,
⟨⟨rfl,rfl,rfl,rfl,rfl,rfl,
⟨rfl,rfl⟩,rfl,rfl,rfl,rfl,rfl,rfl,rfl,rfl,rfl,rfl,rfl,rfl,trivial⟩,trivial⟩,
⟨⟨rl,rr⟩,trivial⟩,
(x1),
⟨(by(try dsimp only at *);exact(e_s ‹_›).1.1),
(by(try dsimp only at *);exact(e_s ‹_›).1.2)⟩,
⟨⟨rfl,rfl,rfl,rfl,rfl,rfl,
⟨rfl,rfl⟩,rfl,rfl,rfl,rfl,rfl,rfl,rfl,rfl,rfl,rfl,rfl,rfl,trivial⟩,trivial⟩,
⟨⟨rl,rr⟩,trivial⟩,
fun h12=>⟨(by(try dsimp only at *);grind),trivial⟩,
fun h13=>⟨(byR x1),
(by(try dsimp only at *);exact byR_in _),
⟨⟨rfl,rfl⟩,trivial⟩,
⟨⟨rl,rr⟩,trivial⟩,
(x1),
⟨(by(try dsimp only at *);exact(e_s ‹_›).2.1),
(by(try dsimp only at *);exact(e_s ‹_›).2.2)⟩,
⟨⟨rfl,rfl,rfl,rfl,rfl,rfl,
⟨rfl,rfl⟩,rfl,rfl,rfl,rfl,rfl,rfl,rfl,rfl,rfl,rfl,rfl,rfl,trivial⟩,trivial⟩,
⟨⟨rl,rr⟩,trivial⟩,
fun h16=>⟨fun g17=>have h17:=dT g17;⟨(by(try dsimp only at *);exact e_11 ‹_›),trivial⟩,
fun g18=>have h18:=dF g18;⟨(by(try dsimp only at *);exact e_n0 ‹_› ‹_›),trivial⟩⟩,
fun h19=>⟨fun g20=>have h20:=dT g20;⟨((decC (byR x1),x1)),
(by(try dsimp only at *);exact dec_n (byR_in _)),
⟨⟨rfl,rfl,rfl,rfl,rfl,rfl,
⟨rfl,rfl⟩,rfl,rfl,rfl,rfl,rfl,rfl,rfl,rfl,rfl,rfl,rfl,rfl,trivial⟩,
⟨rfl,rfl,rfl,rfl,rfl,rfl,
⟨rfl,rfl⟩,rfl,rfl,rfl,rfl,rfl,rfl,rfl,rfl,rfl,rfl,rfl,rfl,trivial⟩,trivial⟩,
⟨⟨rl,rr⟩,
⟨rl,rr⟩,trivial⟩,
fun g22=>have h22:=dT g22;⟨((decC (byR x1),x1)),
(by(try dsimp only at *);exact dec_n (byR_in _)),
⟨⟨rfl,rfl,rfl,rfl,rfl,rfl,
⟨rfl,rfl⟩,rfl,rfl,rfl,rfl,rfl,rfl,rfl,rfl,rfl,rfl,rfl,rfl,trivial⟩,
⟨rfl,rfl,rfl,rfl,rfl,rfl,
⟨rfl,rfl⟩,rfl,rfl,rfl,rfl,rfl,rfl,rfl,rfl,rfl,rfl,rfl,rfl,trivial⟩,trivial⟩,
⟨⟨rl,rr⟩,
⟨rl,rr⟩,trivial⟩,
(by(try dsimp only at *);omega),trivial⟩,
fun g24=>have h24:=dF g24;⟨(by(try dsimp only at *);exact e_ne ‹_› ‹_›),trivial⟩⟩,
fun g25=>have h25:=dF g25;⟨(by(try dsimp only at *);exact e_no ‹_› ‹_›),trivial⟩⟩⟩⟩,
fun h26=>⟨(by(try dsimp only at *);grind),trivial⟩⟩⟩)
theorem l4_good:Good Tryd.prog 4 lw1/\FnOk Tryd.prog 4:=good_of tok conL4 (fn:=Tryd.f4) rfl (by decide+kernel) (fun _=>rfl) l4_keeps
end Go.Sym