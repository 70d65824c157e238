import Derived.Test.YtcghhlodddpmaaaDoorX5
import Derived.Test.YtcghhlodddpmaaaDoorEQ1
import Derived.Test.YtcghhlodddpmaaaDoorXD
namespace Go.Sym
set_option linter.unusedVariables false
set_option linter.unusedSimpArgs false
open Go.Proofs
set_option maxRecDepth 100000
set_option maxHeartbeats 4000000
def lw6:CT:=⟨Cmd × Cmd,fun _=>True,fun x=>[.agg (cl x.1 100001),.agg (cl x.2 100002)],fun x=>[nB 100001 x.1,nB 100002 x.2],fun _=>.b true,fun _=>[]⟩
theorem q_s {c:Cmd} (h:(!smallF c)=false):(c.nodes.length<=60/\c.code.size<=1000)/\(c.nodes.length<=1000000/\c.code.size<=1000000):=by
 have h:smallF c=true:=by simpa using h
 unfold smallF at h
 have h:=of_decide_eq_true h
 omega
theorem q_v {c:Cmd} (h:(!rightF c)=false):vC c=true:=by rw[valid_right];simpa using h
theorem q_in {c:Cmd} (hv:vC c=true):isB (byR c)/\decC (byR c)=c:=by
 have e:byR c=byC c++[]:=by unfold byR;rw[if_pos hv,List.append_nil]
 have h1:inB (byC c++[]):=by rw[List.append_nil];exact⟨byC_isB,Nat.le_trans (byC_len hv) (by decide)⟩
 rw[e]
 exact⟨h1.1,(dec_app hv [] h1).1.trans (if_pos rfl)⟩
theorem q_b {a b:Cmd} (ha:vC a=true) (hb:vC b=true):((strOf (byR a).length fun r=>encL encI (byR a) (0+r)).toList==(strOf (byR b).length fun r=>encL encI (byR b) (0+r)).toList)=decide (a=b):=by
 rw[strB_of rfl,strB_of rfl,seq_eq]
 refine decide_eq_decide.2 ⟨fun h=>?_,fun h=>by rw[h]⟩
 have h1:byR a=byR b:=by rw[<- strL_strB (q_in ha).1,<- strL_strB (q_in hb).1,h]
 rw[<- (q_in ha).2,<- (q_in hb).2,h1]
theorem q_t {a b:Cmd} (ha:vC a=true) (hb:vC b=true):((fmtF a).toList==(fmtF b).toList)=decide (a=b):=by
 rw[seq_eq]
 exact decide_eq_decide.2 ⟨fun h=>fmt_inj ha hb h,fun h=>by rw[h]⟩
theorem q_1 {a b:Cmd} (ha:(!rightF a)=false) (hb:(!rightF b)=false):(decide (a=b)==((strOf (byR a).length fun r=>encL encI (byR a) (0+r)).toList==(strOf (byR b).length fun r=>encL encI (byR b) (0+r)).toList))=true:=by
 rw[q_b (q_v ha) (q_v hb)]
 exact beq_self_eq_true _
theorem q_2 {a b:Cmd} (ha:(!rightF a)=false) (hb:(!rightF b)=false):(decide (a=b)==((fmtF a).toList==(fmtF b).toList))=true:=by
 rw[q_t (q_v ha) (q_v hb)]
 exact beq_self_eq_true _
theorem q_1n {a b:Cmd} {p:Prop} (ha:(!rightF a)=false) (hb:(!rightF b)=false) (h:(decide (a=b)==((strOf (byR a).length fun r=>encL encI (byR a) (0+r)).toList==(strOf (byR b).length fun r=>encL encI (byR b) (0+r)).toList))=false):p:=by
 rw[q_1 ha hb]at h
 cases h
def cfgL6:Cfg:=⟨T,[],[(10,.one (yesC wkC)),(11,.one slC),(14,.one enC),(16,.one fgC),(13,.one rgC),(19,.one eqCt),(20,.one eqCt)],noInv,60,{ kn:=true }⟩
theorem conL6:ConOk Tryd.prog cfgL6:=ConL.ok (.cons (ConL.one wk_good) (.cons (ConL.one sl_good) (.cons (ConL.one en_good) (.cons (ConL.one fg_good) (.cons (ConL.one rg_good) (.cons (ConL.one sm_good) (.cons (ConL.one eq_good) .nil)))))))
set_option maxRecDepth 100000 in
theorem l6_keeps:Keeps cfgL6 Tryd.f6 lw6 noIv:=Eq.mp (show((∀ x1:Cmd × Cmd,(True->(∃ x3:Unit,(True/\(True/\(True/\(∃ x4:Cmd,(True/\(((((Prod.fst x1).kind=x4.kind)/\(((Prod.fst x1).call=x4.call)/\(((Prod.fst x1).inc=x4.inc)/\(((Prod.fst x1).oth=x4.oth)/\(((Prod.fst x1).urg=x4.urg)/\(((Prod.fst x1).code=x4.code)/\((0=0/\((Prod.fst x1).nodes.length=x4.nodes.length))/\(((Prod.fst x1).dist=x4.dist)/\(((Prod.fst x1).cen=x4.cen)/\(((Prod.fst x1).ep=x4.ep)/\(((Prod.fst x1).tick=x4.tick)/\(((Prod.fst x1).su=x4.su)/\(((Prod.fst x1).sq=x4.sq)/\(((Prod.fst x1).ss=x4.ss)/\(((Prod.fst x1).sn=x4.sn)/\(((Prod.fst x1).se=x4.se)/\(((Prod.fst x1).edge=x4.edge)/\(((Prod.fst x1).time=x4.time)/\(((Prod.fst x1).node=x4.node)/\True)))))))))))))))))))/\True)/\((((RLe x4.nodes.length (Prod.fst x1).nodes.length)/\(RI x4.nodes.length (Prod.fst x1).nodes x4.nodes))/\True)/\((((!smallF x4)=false)->(∃ x6:Cmd,(True/\(((((Prod.snd x1).kind=x6.kind)/\(((Prod.snd x1).call=x6.call)/\(((Prod.snd x1).inc=x6.inc)/\(((Prod.snd x1).oth=x6.oth)/\(((Prod.snd x1).urg=x6.urg)/\(((Prod.snd x1).code=x6.code)/\((0=0/\((Prod.snd x1).nodes.length=x6.nodes.length))/\(((Prod.snd x1).dist=x6.dist)/\(((Prod.snd x1).cen=x6.cen)/\(((Prod.snd x1).ep=x6.ep)/\(((Prod.snd x1).tick=x6.tick)/\(((Prod.snd x1).su=x6.su)/\(((Prod.snd x1).sq=x6.sq)/\(((Prod.snd x1).ss=x6.ss)/\(((Prod.snd x1).sn=x6.sn)/\(((Prod.snd x1).se=x6.se)/\(((Prod.snd x1).edge=x6.edge)/\(((Prod.snd x1).time=x6.time)/\(((Prod.snd x1).node=x6.node)/\True)))))))))))))))))))/\True)/\((((RLe x6.nodes.length (Prod.snd x1).nodes.length)/\(RI x6.nodes.length (Prod.snd x1).nodes x6.nodes))/\True)/\((((!smallF x6)=true)->(true=true/\True))/\(((!smallF x6)=false)->(∃ x9:Cmd × Cmd,(((Prod.fst x9).nodes.length<=(1000000:Nat))/\(((((Prod.fst x1).kind=(Prod.fst x9).kind)/\(((Prod.fst x1).call=(Prod.fst x9).call)/\(((Prod.fst x1).inc=(Prod.fst x9).inc)/\(((Prod.fst x1).oth=(Prod.fst x9).oth)/\(((Prod.fst x1).urg=(Prod.fst x9).urg)/\(((Prod.fst x1).code=(Prod.fst x9).code)/\((0=0/\((Prod.fst x1).nodes.length=(Prod.fst x9).nodes.length))/\(((Prod.fst x1).dist=(Prod.fst x9).dist)/\(((Prod.fst x1).cen=(Prod.fst x9).cen)/\(((Prod.fst x1).ep=(Prod.fst x9).ep)/\(((Prod.fst x1).tick=(Prod.fst x9).tick)/\(((Prod.fst x1).su=(Prod.fst x9).su)/\(((Prod.fst x1).sq=(Prod.fst x9).sq)/\(((Prod.fst x1).ss=(Prod.fst x9).ss)/\(((Prod.fst x1).sn=(Prod.fst x9).sn)/\(((Prod.fst x1).se=(Prod.fst x9).se)/\(((Prod.fst x1).edge=(Prod.fst x9).edge)/\(((Prod.fst x1).time=(Prod.fst x9).time)/\(((Prod.fst x1).node=(Prod.fst x9).node)/\True)))))))))))))))))))/\((((Prod.snd x1).kind=(Prod.snd x9).kind)/\(((Prod.snd x1).call=(Prod.snd x9).call)/\(((Prod.snd x1).inc=(Prod.snd x9).inc)/\(((Prod.snd x1).oth=(Prod.snd x9).oth)/\(((Prod.snd x1).urg=(Prod.snd x9).urg)/\(((Prod.snd x1).code=(Prod.snd x9).code)/\((0=0/\((Prod.snd x1).nodes.length=(Prod.snd x9).nodes.length))/\(((Prod.snd x1).dist=(Prod.snd x9).dist)/\(((Prod.snd x1).cen=(Prod.snd x9).cen)/\(((Prod.snd x1).ep=(Prod.snd x9).ep)/\(((Prod.snd x1).tick=(Prod.snd x9).tick)/\(((Prod.snd x1).su=(Prod.snd x9).su)/\(((Prod.snd x1).sq=(Prod.snd x9).sq)/\(((Prod.snd x1).ss=(Prod.snd x9).ss)/\(((Prod.snd x1).sn=(Prod.snd x9).sn)/\(((Prod.snd x1).se=(Prod.snd x9).se)/\(((Prod.snd x1).edge=(Prod.snd x9).edge)/\(((Prod.snd x1).time=(Prod.snd x9).time)/\(((Prod.snd x1).node=(Prod.snd x9).node)/\True)))))))))))))))))))/\True))/\((((RLe (Prod.fst x9).nodes.length (Prod.fst x1).nodes.length)/\(RowsEq [.int .i64] (Prod.fst x9).nodes.length (encL encI (Prod.fst x1).nodes) (encL encI (Prod.fst x9).nodes)))/\(((RLe (Prod.snd x9).nodes.length (Prod.snd x1).nodes.length)/\(RowsEq [.int .i64] (Prod.snd x9).nodes.length (encL encI (Prod.snd x1).nodes) (encL encI (Prod.snd x9).nodes)))/\True))/\(∃ x10:Cmd × Cmd,(((Prod.fst x10).nodes.length<=(1000000:Nat))/\(((((Prod.fst x1).kind=(Prod.fst x10).kind)/\(((Prod.fst x1).call=(Prod.fst x10).call)/\(((Prod.fst x1).inc=(Prod.fst x10).inc)/\(((Prod.fst x1).oth=(Prod.fst x10).oth)/\(((Prod.fst x1).urg=(Prod.fst x10).urg)/\(((Prod.fst x1).code=(Prod.fst x10).code)/\((0=0/\((Prod.fst x1).nodes.length=(Prod.fst x10).nodes.length))/\(((Prod.fst x1).dist=(Prod.fst x10).dist)/\(((Prod.fst x1).cen=(Prod.fst x10).cen)/\(((Prod.fst x1).ep=(Prod.fst x10).ep)/\(((Prod.fst x1).tick=(Prod.fst x10).tick)/\(((Prod.fst x1).su=(Prod.fst x10).su)/\(((Prod.fst x1).sq=(Prod.fst x10).sq)/\(((Prod.fst x1).ss=(Prod.fst x10).ss)/\(((Prod.fst x1).sn=(Prod.fst x10).sn)/\(((Prod.fst x1).se=(Prod.fst x10).se)/\(((Prod.fst x1).edge=(Prod.fst x10).edge)/\(((Prod.fst x1).time=(Prod.fst x10).time)/\(((Prod.fst x1).node=(Prod.fst x10).node)/\True)))))))))))))))))))/\((((Prod.snd x1).kind=(Prod.snd x10).kind)/\(((Prod.snd x1).call=(Prod.snd x10).call)/\(((Prod.snd x1).inc=(Prod.snd x10).inc)/\(((Prod.snd x1).oth=(Prod.snd x10).oth)/\(((Prod.snd x1).urg=(Prod.snd x10).urg)/\(((Prod.snd x1).code=(Prod.snd x10).code)/\((0=0/\((Prod.snd x1).nodes.length=(Prod.snd x10).nodes.length))/\(((Prod.snd x1).dist=(Prod.snd x10).dist)/\(((Prod.snd x1).cen=(Prod.snd x10).cen)/\(((Prod.snd x1).ep=(Prod.snd x10).ep)/\(((Prod.snd x1).tick=(Prod.snd x10).tick)/\(((Prod.snd x1).su=(Prod.snd x10).su)/\(((Prod.snd x1).sq=(Prod.snd x10).sq)/\(((Prod.snd x1).ss=(Prod.snd x10).ss)/\(((Prod.snd x1).sn=(Prod.snd x10).sn)/\(((Prod.snd x1).se=(Prod.snd x10).se)/\(((Prod.snd x1).edge=(Prod.snd x10).edge)/\(((Prod.snd x1).time=(Prod.snd x10).time)/\(((Prod.snd x1).node=(Prod.snd x10).node)/\True)))))))))))))))))))/\True))/\((((RLe (Prod.fst x10).nodes.length (Prod.fst x1).nodes.length)/\(RowsEq [.int .i64] (Prod.fst x10).nodes.length (encL encI (Prod.fst x1).nodes) (encL encI (Prod.fst x10).nodes)))/\(((RLe (Prod.snd x10).nodes.length (Prod.snd x1).nodes.length)/\(RowsEq [.int .i64] (Prod.snd x10).nodes.length (encL encI (Prod.snd x1).nodes) (encL encI (Prod.snd x10).nodes)))/\True))/\((((decide (Prod.fst x9=Prod.snd x9) !=decide (Prod.fst x10=Prod.snd x10))=false)->(∃ x12:Cmd × Cmd,(((Prod.fst x12).nodes.length<=(1000000:Nat))/\(((((Prod.fst x1).kind=(Prod.fst x12).kind)/\(((Prod.fst x1).call=(Prod.fst x12).call)/\(((Prod.fst x1).inc=(Prod.fst x12).inc)/\(((Prod.fst x1).oth=(Prod.fst x12).oth)/\(((Prod.fst x1).urg=(Prod.fst x12).urg)/\(((Prod.fst x1).code=(Prod.fst x12).code)/\((0=0/\((Prod.fst x1).nodes.length=(Prod.fst x12).nodes.length))/\(((Prod.fst x1).dist=(Prod.fst x12).dist)/\(((Prod.fst x1).cen=(Prod.fst x12).cen)/\(((Prod.fst x1).ep=(Prod.fst x12).ep)/\(((Prod.fst x1).tick=(Prod.fst x12).tick)/\(((Prod.fst x1).su=(Prod.fst x12).su)/\(((Prod.fst x1).sq=(Prod.fst x12).sq)/\(((Prod.fst x1).ss=(Prod.fst x12).ss)/\(((Prod.fst x1).sn=(Prod.fst x12).sn)/\(((Prod.fst x1).se=(Prod.fst x12).se)/\(((Prod.fst x1).edge=(Prod.fst x12).edge)/\(((Prod.fst x1).time=(Prod.fst x12).time)/\(((Prod.fst x1).node=(Prod.fst x12).node)/\True)))))))))))))))))))/\((((Prod.fst x1).kind=(Prod.snd x12).kind)/\(((Prod.fst x1).call=(Prod.snd x12).call)/\(((Prod.fst x1).inc=(Prod.snd x12).inc)/\(((Prod.fst x1).oth=(Prod.snd x12).oth)/\(((Prod.fst x1).urg=(Prod.snd x12).urg)/\(((Prod.fst x1).code=(Prod.snd x12).code)/\((0=0/\((Prod.fst x1).nodes.length=(Prod.snd x12).nodes.length))/\(((Prod.fst x1).dist=(Prod.snd x12).dist)/\(((Prod.fst x1).cen=(Prod.snd x12).cen)/\(((Prod.fst x1).ep=(Prod.snd x12).ep)/\(((Prod.fst x1).tick=(Prod.snd x12).tick)/\(((Prod.fst x1).su=(Prod.snd x12).su)/\(((Prod.fst x1).sq=(Prod.snd x12).sq)/\(((Prod.fst x1).ss=(Prod.snd x12).ss)/\(((Prod.fst x1).sn=(Prod.snd x12).sn)/\(((Prod.fst x1).se=(Prod.snd x12).se)/\(((Prod.fst x1).edge=(Prod.snd x12).edge)/\(((Prod.fst x1).time=(Prod.snd x12).time)/\(((Prod.fst x1).node=(Prod.snd x12).node)/\True)))))))))))))))))))/\True))/\((((RLe (Prod.fst x12).nodes.length (Prod.fst x1).nodes.length)/\(RowsEq [.int .i64] (Prod.fst x12).nodes.length (encL encI (Prod.fst x1).nodes) (encL encI (Prod.fst x12).nodes)))/\(((RLe (Prod.snd x12).nodes.length (Prod.fst x1).nodes.length)/\(RowsEq [.int .i64] (Prod.snd x12).nodes.length (encL encI (Prod.fst x1).nodes) (encL encI (Prod.snd x12).nodes)))/\True))/\((((!decide (Prod.fst x12=Prod.snd x12))=true)->(false=true/\True))/\(((!decide (Prod.fst x12=Prod.snd x12))=false)->(∃ x15:Cmd,(((x15.nodes.length<=(1000000:Nat))/\(ByteArray.size x15.code<=(1000000:Nat)))/\(((((Prod.fst x1).kind=x15.kind)/\(((Prod.fst x1).call=x15.call)/\(((Prod.fst x1).inc=x15.inc)/\(((Prod.fst x1).oth=x15.oth)/\(((Prod.fst x1).urg=x15.urg)/\(((Prod.fst x1).code=x15.code)/\((0=0/\((Prod.fst x1).nodes.length=x15.nodes.length))/\(((Prod.fst x1).dist=x15.dist)/\(((Prod.fst x1).cen=x15.cen)/\(((Prod.fst x1).ep=x15.ep)/\(((Prod.fst x1).tick=x15.tick)/\(((Prod.fst x1).su=x15.su)/\(((Prod.fst x1).sq=x15.sq)/\(((Prod.fst x1).ss=x15.ss)/\(((Prod.fst x1).sn=x15.sn)/\(((Prod.fst x1).se=x15.se)/\(((Prod.fst x1).edge=x15.edge)/\(((Prod.fst x1).time=x15.time)/\(((Prod.fst x1).node=x15.node)/\True)))))))))))))))))))/\True)/\((((RLe x15.nodes.length (Prod.fst x1).nodes.length)/\(RI x15.nodes.length (Prod.fst x1).nodes x15.nodes))/\True)/\((((!rightF x15)=false)->(∃ x17:Cmd,(((x17.nodes.length<=(1000000:Nat))/\(ByteArray.size x17.code<=(1000000:Nat)))/\(((((Prod.snd x1).kind=x17.kind)/\(((Prod.snd x1).call=x17.call)/\(((Prod.snd x1).inc=x17.inc)/\(((Prod.snd x1).oth=x17.oth)/\(((Prod.snd x1).urg=x17.urg)/\(((Prod.snd x1).code=x17.code)/\((0=0/\((Prod.snd x1).nodes.length=x17.nodes.length))/\(((Prod.snd x1).dist=x17.dist)/\(((Prod.snd x1).cen=x17.cen)/\(((Prod.snd x1).ep=x17.ep)/\(((Prod.snd x1).tick=x17.tick)/\(((Prod.snd x1).su=x17.su)/\(((Prod.snd x1).sq=x17.sq)/\(((Prod.snd x1).ss=x17.ss)/\(((Prod.snd x1).sn=x17.sn)/\(((Prod.snd x1).se=x17.se)/\(((Prod.snd x1).edge=x17.edge)/\(((Prod.snd x1).time=x17.time)/\(((Prod.snd x1).node=x17.node)/\True)))))))))))))))))))/\True)/\((((RLe x17.nodes.length (Prod.snd x1).nodes.length)/\(RI x17.nodes.length (Prod.snd x1).nodes x17.nodes))/\True)/\((((!rightF x17)=true)->(true=true/\True))/\(((!rightF x17)=false)->(∃ x20:Cmd,((x20.nodes.length<=(1000000:Nat))/\(((((Prod.fst x1).kind=x20.kind)/\(((Prod.fst x1).call=x20.call)/\(((Prod.fst x1).inc=x20.inc)/\(((Prod.fst x1).oth=x20.oth)/\(((Prod.fst x1).urg=x20.urg)/\(((Prod.fst x1).code=x20.code)/\((0=0/\((Prod.fst x1).nodes.length=x20.nodes.length))/\(((Prod.fst x1).dist=x20.dist)/\(((Prod.fst x1).cen=x20.cen)/\(((Prod.fst x1).ep=x20.ep)/\(((Prod.fst x1).tick=x20.tick)/\(((Prod.fst x1).su=x20.su)/\(((Prod.fst x1).sq=x20.sq)/\(((Prod.fst x1).ss=x20.ss)/\(((Prod.fst x1).sn=x20.sn)/\(((Prod.fst x1).se=x20.se)/\(((Prod.fst x1).edge=x20.edge)/\(((Prod.fst x1).time=x20.time)/\(((Prod.fst x1).node=x20.node)/\True)))))))))))))))))))/\True)/\((((RLe x20.nodes.length (Prod.fst x1).nodes.length)/\(RI x20.nodes.length (Prod.fst x1).nodes x20.nodes))/\True)/\(((0:Nat)+(byR x20).length<=(byR x20).length)/\(∃ x21:Cmd,((x21.nodes.length<=(1000000:Nat))/\(((((Prod.snd x1).kind=x21.kind)/\(((Prod.snd x1).call=x21.call)/\(((Prod.snd x1).inc=x21.inc)/\(((Prod.snd x1).oth=x21.oth)/\(((Prod.snd x1).urg=x21.urg)/\(((Prod.snd x1).code=x21.code)/\((0=0/\((Prod.snd x1).nodes.length=x21.nodes.length))/\(((Prod.snd x1).dist=x21.dist)/\(((Prod.snd x1).cen=x21.cen)/\(((Prod.snd x1).ep=x21.ep)/\(((Prod.snd x1).tick=x21.tick)/\(((Prod.snd x1).su=x21.su)/\(((Prod.snd x1).sq=x21.sq)/\(((Prod.snd x1).ss=x21.ss)/\(((Prod.snd x1).sn=x21.sn)/\(((Prod.snd x1).se=x21.se)/\(((Prod.snd x1).edge=x21.edge)/\(((Prod.snd x1).time=x21.time)/\(((Prod.snd x1).node=x21.node)/\True)))))))))))))))))))/\True)/\((((RLe x21.nodes.length (Prod.snd x1).nodes.length)/\(RI x21.nodes.length (Prod.snd x1).nodes x21.nodes))/\True)/\(((0:Nat)+(byR x21).length<=(byR x21).length)/\((((decide (Prod.fst x9=Prod.snd x9)==(ByteArray.toList (ByteArray.mk (List.toArray (List.map (fun(r:Nat)=>UInt8.ofNat (Int.toNat ((byR x20).getD ((0:Nat)+r) default))) (List.range (byR x20).length))))==ByteArray.toList (ByteArray.mk (List.toArray (List.map (fun(r:Nat)=>UInt8.ofNat (Int.toNat ((byR x21).getD ((0:Nat)+r) default))) (List.range (byR x21).length))))))=true)->(∃ x23:Cmd,(((x23.nodes.length<=(60:Nat))/\(ByteArray.size x23.code<=(1000:Nat)))/\(((((Prod.fst x1).kind=x23.kind)/\(((Prod.fst x1).call=x23.call)/\(((Prod.fst x1).inc=x23.inc)/\(((Prod.fst x1).oth=x23.oth)/\(((Prod.fst x1).urg=x23.urg)/\(((Prod.fst x1).code=x23.code)/\((0=0/\((Prod.fst x1).nodes.length=x23.nodes.length))/\(((Prod.fst x1).dist=x23.dist)/\(((Prod.fst x1).cen=x23.cen)/\(((Prod.fst x1).ep=x23.ep)/\(((Prod.fst x1).tick=x23.tick)/\(((Prod.fst x1).su=x23.su)/\(((Prod.fst x1).sq=x23.sq)/\(((Prod.fst x1).ss=x23.ss)/\(((Prod.fst x1).sn=x23.sn)/\(((Prod.fst x1).se=x23.se)/\(((Prod.fst x1).edge=x23.edge)/\(((Prod.fst x1).time=x23.time)/\(((Prod.fst x1).node=x23.node)/\True)))))))))))))))))))/\True)/\((((RLe x23.nodes.length (Prod.fst x1).nodes.length)/\(RI x23.nodes.length (Prod.fst x1).nodes x23.nodes))/\True)/\(∃ x24:Cmd,(((x24.nodes.length<=(60:Nat))/\(ByteArray.size x24.code<=(1000:Nat)))/\(((((Prod.snd x1).kind=x24.kind)/\(((Prod.snd x1).call=x24.call)/\(((Prod.snd x1).inc=x24.inc)/\(((Prod.snd x1).oth=x24.oth)/\(((Prod.snd x1).urg=x24.urg)/\(((Prod.snd x1).code=x24.code)/\((0=0/\((Prod.snd x1).nodes.length=x24.nodes.length))/\(((Prod.snd x1).dist=x24.dist)/\(((Prod.snd x1).cen=x24.cen)/\(((Prod.snd x1).ep=x24.ep)/\(((Prod.snd x1).tick=x24.tick)/\(((Prod.snd x1).su=x24.su)/\(((Prod.snd x1).sq=x24.sq)/\(((Prod.snd x1).ss=x24.ss)/\(((Prod.snd x1).sn=x24.sn)/\(((Prod.snd x1).se=x24.se)/\(((Prod.snd x1).edge=x24.edge)/\(((Prod.snd x1).time=x24.time)/\(((Prod.snd x1).node=x24.node)/\True)))))))))))))))))))/\True)/\((((RLe x24.nodes.length (Prod.snd x1).nodes.length)/\(RI x24.nodes.length (Prod.snd x1).nodes x24.nodes))/\True)/\(((decide (Prod.fst x9=Prod.snd x9)==(ByteArray.toList (fmtF x23)==ByteArray.toList (fmtF x24)))=true)/\True))))))))))/\(((decide (Prod.fst x9=Prod.snd x9)==(ByteArray.toList (ByteArray.mk (List.toArray (List.map (fun(r:Nat)=>UInt8.ofNat (Int.toNat ((byR x20).getD ((0:Nat)+r) default))) (List.range (byR x20).length))))==ByteArray.toList (ByteArray.mk (List.toArray (List.map (fun(r:Nat)=>UInt8.ofNat (Int.toNat ((byR x21).getD ((0:Nat)+r) default))) (List.range (byR x21).length))))))=false)->(false=true/\True))))))))))))))))))))/\(((!rightF x15)=true)->(true=true/\True))))))))))))))/\(((decide (Prod.fst x9=Prod.snd x9) !=decide (Prod.fst x10=Prod.snd x10))=true)->(false=true/\True))))))))))))))))))/\(((!smallF x4)=true)->(true=true/\True))))))))))))))=(Keeps cfgL6 Tryd.f6 lw6 noIv) by kernel_rfl) (fun x1=>fun h2=>⟨(default),
 trivial,trivial,trivial,
(Prod.fst x1),trivial,
⟨⟨rfl,rfl,rfl,rfl,rfl,rfl,
⟨rfl,rfl⟩,rfl,rfl,rfl,rfl,rfl,rfl,rfl,rfl,rfl,rfl,rfl,rfl,trivial⟩,trivial⟩,
⟨⟨rl,rr⟩,trivial⟩,
fun h5=>⟨(Prod.snd x1),trivial,
⟨⟨rfl,rfl,rfl,rfl,rfl,rfl,
⟨rfl,rfl⟩,rfl,rfl,rfl,rfl,rfl,rfl,rfl,rfl,rfl,rfl,rfl,rfl,trivial⟩,trivial⟩,
⟨⟨rl,rr⟩,trivial⟩,
fun h7=>⟨rfl,trivial⟩,
fun h8=>⟨(x1),
(by(try dsimp only at *);exact(q_s h5).2.1),
⟨⟨rfl,rfl,rfl,rfl,rfl,rfl,
⟨rfl,rfl⟩,rfl,rfl,rfl,rfl,rfl,rfl,rfl,rfl,rfl,rfl,rfl,rfl,trivial⟩,
⟨rfl,rfl,rfl,rfl,rfl,rfl,
⟨rfl,rfl⟩,rfl,rfl,rfl,rfl,rfl,rfl,rfl,rfl,rfl,rfl,rfl,rfl,trivial⟩,trivial⟩,
⟨⟨rl,rr⟩,
⟨rl,rr⟩,trivial⟩,
(x1),
(by(try dsimp only at *);exact(q_s h5).2.1),
⟨⟨rfl,rfl,rfl,rfl,rfl,rfl,
⟨rfl,rfl⟩,rfl,rfl,rfl,rfl,rfl,rfl,rfl,rfl,rfl,rfl,rfl,rfl,trivial⟩,
⟨rfl,rfl,rfl,rfl,rfl,rfl,
⟨rfl,rfl⟩,rfl,rfl,rfl,rfl,rfl,rfl,rfl,rfl,rfl,rfl,rfl,rfl,trivial⟩,trivial⟩,
⟨⟨rl,rr⟩,
⟨rl,rr⟩,trivial⟩,
fun h11=>⟨((Prod.fst x1,Prod.fst x1)),
(by(try dsimp only at *);exact(q_s h5).2.1),
⟨⟨rfl,rfl,rfl,rfl,rfl,rfl,
⟨rfl,rfl⟩,rfl,rfl,rfl,rfl,rfl,rfl,rfl,rfl,rfl,rfl,rfl,rfl,trivial⟩,
⟨rfl,rfl,rfl,rfl,rfl,rfl,
⟨rfl,rfl⟩,rfl,rfl,rfl,rfl,rfl,rfl,rfl,rfl,rfl,rfl,rfl,rfl,trivial⟩,trivial⟩,
⟨⟨rl,rr⟩,
⟨rl,rr⟩,trivial⟩,
fun g13=>have h13:=nT g13;⟨(by(try dsimp only at *);grind),trivial⟩,
fun g14=>have h14:=nF g14;⟨(Prod.fst x1),
⟨(by(try dsimp only at *);exact(q_s h5).2.1),
(by(try dsimp only at *);exact(q_s h5).2.2)⟩,
⟨⟨rfl,rfl,rfl,rfl,rfl,rfl,
⟨rfl,rfl⟩,rfl,rfl,rfl,rfl,rfl,rfl,rfl,rfl,rfl,rfl,rfl,rfl,trivial⟩,trivial⟩,
⟨⟨rl,rr⟩,trivial⟩,
fun h16=>⟨(Prod.snd x1),
⟨(by(try dsimp only at *);exact(q_s h8).2.1),
(by(try dsimp only at *);exact(q_s h8).2.2)⟩,
⟨⟨rfl,rfl,rfl,rfl,rfl,rfl,
⟨rfl,rfl⟩,rfl,rfl,rfl,rfl,rfl,rfl,rfl,rfl,rfl,rfl,rfl,rfl,trivial⟩,trivial⟩,
⟨⟨rl,rr⟩,trivial⟩,
fun h18=>⟨rfl,trivial⟩,
fun h19=>⟨(Prod.fst x1),
(by(try dsimp only at *);exact(q_s h5).2.1),
⟨⟨rfl,rfl,rfl,rfl,rfl,rfl,
⟨rfl,rfl⟩,rfl,rfl,rfl,rfl,rfl,rfl,rfl,rfl,rfl,rfl,rfl,rfl,trivial⟩,trivial⟩,
⟨⟨rl,rr⟩,trivial⟩,
(by(try dsimp only at *);omega),
(Prod.snd x1),
(by(try dsimp only at *);exact(q_s h8).2.1),
⟨⟨rfl,rfl,rfl,rfl,rfl,rfl,
⟨rfl,rfl⟩,rfl,rfl,rfl,rfl,rfl,rfl,rfl,rfl,rfl,rfl,rfl,rfl,trivial⟩,trivial⟩,
⟨⟨rl,rr⟩,trivial⟩,
(by(try dsimp only at *);omega),
fun h22=>⟨(Prod.fst x1),
⟨(by(try dsimp only at *);exact(q_s h5).1.1),
(by(try dsimp only at *);exact(q_s h5).1.2)⟩,
⟨⟨rfl,rfl,rfl,rfl,rfl,rfl,
⟨rfl,rfl⟩,rfl,rfl,rfl,rfl,rfl,rfl,rfl,rfl,rfl,rfl,rfl,rfl,trivial⟩,trivial⟩,
⟨⟨rl,rr⟩,trivial⟩,
(Prod.snd x1),
⟨(by(try dsimp only at *);exact(q_s h8).1.1),
(by(try dsimp only at *);exact(q_s h8).1.2)⟩,
⟨⟨rfl,rfl,rfl,rfl,rfl,rfl,
⟨rfl,rfl⟩,rfl,rfl,rfl,rfl,rfl,rfl,rfl,rfl,rfl,rfl,rfl,rfl,trivial⟩,trivial⟩,
⟨⟨rl,rr⟩,trivial⟩,
(by(try dsimp only at *);exact q_2 ‹_› ‹_›),trivial⟩,
fun h25=>⟨(by(try dsimp only at *);exact q_1n h16 h19 h25),trivial⟩⟩⟩,
fun h26=>⟨rfl,trivial⟩⟩⟩,
fun h27=>⟨(by(try dsimp only at *);grind),trivial⟩⟩⟩,
fun h28=>⟨rfl,trivial⟩⟩)
theorem l6_good:Good Tryd.prog 6 lw6/\FnOk Tryd.prog 6:=good_of tok conL6 (fn:=Tryd.f6) rfl (by decide+kernel) (fun _=>rfl) l6_keeps
end Go.Sym