import Derived.Test.YtcghhlodddpmaaaDoorTX2
import Derived.Test.YtcghhlodddpmaaaDoorXD
namespace Go.Sym
set_option linter.unusedVariables false
set_option linter.unusedSimpArgs false
open Go.Proofs
set_option maxRecDepth 100000
set_option maxHeartbeats 8000000
def cfgTG:Cfg:=⟨T,[],[(13,.one rgC),(48,.one wdC),(49,.one ttC)],noInv,60,{ kn:=true }⟩
theorem conTG:ConOk Tryd.prog cfgTG:=ConL.ok (.cons (ConL.one rg_good) (.cons (ConL.one wd_good) (.cons (ConL.one tt_good) .nil)))
theorem tx_3 {c:Cmd} (h:(!rightF c)=false) (hk:c.kind=3):(⟨#[109,101,114,103,101]⟩:ByteArray)++wdS [c.inc,c.oth]=fmtF c/\∀ n∈[c.inc,c.oth],0<=n/\r64 n:=tx_gen h (fs:=[1,2]) (by rw[hk];rfl) (by decide) rfl (by rw[hk];rfl)
theorem tx_4 {c:Cmd} (h:(!rightF c)=false) (hk:c.kind=4):(⟨#[115,112,108,105,116]⟩:ByteArray)++wdS [c.call,c.inc]=fmtF c/\∀ n∈[c.call,c.inc],0<=n/\r64 n:=tx_gen h (fs:=[0,1]) (by rw[hk];rfl) (by decide) rfl (by rw[hk];rfl)
theorem tx_5 {c:Cmd} (h:(!rightF c)=false) (hk:c.kind=5):(⟨#[115,116,97,116,117,115]⟩:ByteArray)++wdS [c.su,c.sq,c.ss,c.sn,c.se]=fmtF c/\∀ n∈[c.su,c.sq,c.ss,c.sn,c.se],0<=n/\r64 n:=tx_gen h (fs:=[10,11,12,13,14]) (by rw[hk];rfl) (by decide) rfl (by rw[hk];rfl)
theorem tx_7 {c:Cmd} (h:(!rightF c)=false) (hk:c.kind=7):(⟨#[115,116,97,110,100,100,111,119,110]⟩:ByteArray)++wdS [c.su,c.inc]=fmtF c/\∀ n∈[c.su,c.inc],0<=n/\r64 n:=tx_gen h (fs:=[10,1]) (by rw[hk];rfl) (by decide) rfl (by rw[hk];rfl)
theorem tx_8 {c:Cmd} (h:(!rightF c)=false) (hk:c.kind=8):(⟨#[116,97,107,101,111,118,101,114]⟩:ByteArray)++wdS [c.dist,c.cen,c.ep]=fmtF c/\∀ n∈[c.dist,c.cen,c.ep],0<=n/\r64 n:=tx_gen h (fs:=[6,7,8]) (by rw[hk];rfl) (by decide) rfl (by rw[hk];rfl)
theorem tx_9 {c:Cmd} (h:(!rightF c)=false) (hk:c.kind=9):(⟨#[114,101,110,101,119]⟩:ByteArray)++wdS [c.dist,c.cen,c.ep]=fmtF c/\∀ n∈[c.dist,c.cen,c.ep],0<=n/\r64 n:=tx_gen h (fs:=[6,7,8]) (by rw[hk];rfl) (by decide) rfl (by rw[hk];rfl)
theorem tx_10 {c:Cmd} (h:(!rightF c)=false) (hk:c.kind=10):(⟨#[114,101,108,101,97,115,101]⟩:ByteArray)++wdS [c.dist,c.cen,c.ep]=fmtF c/\∀ n∈[c.dist,c.cen,c.ep],0<=n/\r64 n:=tx_gen h (fs:=[6,7,8]) (by rw[hk];rfl) (by decide) rfl (by rw[hk];rfl)
theorem tx_11 {c:Cmd} (h:(!rightF c)=false) (hk:c.kind=11):(⟨#[116,114,97,118,101,108,116,105,109,101]⟩:ByteArray)++wdS [c.edge,c.time]=fmtF c/\∀ n∈[c.edge,c.time],0<=n/\r64 n:=tx_gen h (fs:=[15,16]) (by rw[hk];rfl) (by decide) rfl (by rw[hk];rfl)
theorem tx_12 {c:Cmd} (h:(!rightF c)=false) (hk:c.kind=12):(⟨#[99,108,111,99,107]⟩:ByteArray)++wdS [c.tick]=fmtF c/\∀ n∈[c.tick],0<=n/\r64 n:=tx_gen h (fs:=[9]) (by rw[hk];rfl) (by decide) rfl (by rw[hk];rfl)
theorem tx_13 {c:Cmd} (h:(!rightF c)=false) (hk:c.kind=13):(⟨#[99,108,111,115,101]⟩:ByteArray)++wdS [c.inc]=fmtF c/\∀ n∈[c.inc],0<=n/\r64 n:=tx_gen h (fs:=[1]) (by rw[hk];rfl) (by decide) rfl (by rw[hk];rfl)
theorem tx_14 {c:Cmd} (h:(!rightF c)=false) (hk:c.kind=14):(⟨#[114,101,108,111,99,97,116,101]⟩:ByteArray)++wdS [c.su,c.node]=fmtF c/\∀ n∈[c.su,c.node],0<=n/\r64 n:=tx_gen h (fs:=[10,17]) (by rw[hk];rfl) (by decide) rfl (by rw[hk];rfl)
theorem tx_15 {c:Cmd} (h:(!rightF c)=false) (hk:c.kind=15):(⟨#[99,108,111,115,101,99,97,108,108]⟩:ByteArray)++wdS [c.call]=fmtF c/\∀ n∈[c.call],0<=n/\r64 n:=tx_gen h (fs:=[0]) (by rw[hk];rfl) (by decide) rfl (by rw[hk];rfl)
theorem tx_6 {c:Cmd} (h:(!rightF c)=false) (hk:c.kind=6):(⟨#[100,105,115,112,97,116,99,104]⟩:ByteArray)=fmtF c:=by
 rw[<- fmt_v (pu_v h),wdsF,show fsC c.kind=[] by rw[hk];rfl,hk]
 rfl
theorem tx_c1 {c:Cmd} (h:(!rightF c)=false) (hk:c.kind=1):(⟨#[111,112,101,110]⟩:ByteArray)++wdS [c.call,c.urg]++⟨#[32]⟩++c.code++⟨#[32]⟩++setS c.nodes++wdS [c.dist]=fmtF c:=by
 have:=tx_k1 h hk
 rw[show nmT c.kind=(⟨#[111,112,101,110]⟩:ByteArray) by rw[hk];rfl]at this
 exact this
theorem tx_c2 {c:Cmd} (h:(!rightF c)=false) (hk:c.kind=2):(⟨#[117,112,100,97,116,101]⟩:ByteArray)++wdS [c.call,c.urg]++⟨#[32]⟩++c.code++⟨#[32]⟩++setS c.nodes=fmtF c:=by
 have:=tx_k2 h hk
 rw[show nmT c.kind=(⟨#[117,112,100,97,116,101]⟩:ByteArray) by rw[hk];rfl]at this
 exact this
theorem tx_d {c:Cmd} (h:(!rightF c)=false) (hk:c.kind=1):∀ n∈[c.dist],0<=n/\r64 n:=by
 intro n hn
 simp only[List.mem_cons,List.not_mem_nil,or_false]at hn
 subst hn
 have:=fOkn ((tx_m h (.inl hk)).2 hk) (by decide) (by decide)
 exact⟨inRF_p this,inRF_r this⟩
theorem tx_sz {nm:ByteArray} {l:List Int} (h:∀ n∈l,0<=n/\r64 n) (hl:l.length<=5) (hn:nm.size<=20):nm.size+(wdS l).size<=9223372036854775807:=by
 have:=wdS_z h
 omega
theorem tx_z {c:Cmd} {nm:ByteArray} (h:(!rightF c)=false) (hk:c.kind=1∨c.kind=2) (h2:c.nodes.length<=60/\c.code.size<=1000) (hn:nm.size<=20):
  ((nm++wdS [c.call,c.urg]).size+(⟨#[32]⟩:ByteArray).size<=9223372036854775807/\(nm++wdS [c.call,c.urg]++⟨#[32]⟩).size+c.code.size<=9223372036854775807)/\
  ((nm++wdS [c.call,c.urg]++⟨#[32]⟩++c.code).size+(⟨#[32]⟩:ByteArray).size<=9223372036854775807/\(nm++wdS [c.call,c.urg]++⟨#[32]⟩++c.code++⟨#[32]⟩).size+(setS c.nodes).size<=9223372036854775807)/\
  (nm++wdS [c.call,c.urg]++⟨#[32]⟩++c.code++⟨#[32]⟩++setS c.nodes).size<=100000:=by
 obtain⟨a,b,d⟩:=tx_w h hk
 have q1:=wdS_z a
 have q2:=setS_size b.1 h2.1
 have e:(⟨#[32]⟩:ByteArray).size=1:=rfl
 simp only[List.length_cons,List.length_nil]at q1
 simp only[ba_size,e]
 omega
theorem tx_z2 {c:Cmd} {nm:ByteArray} (h:(!rightF c)=false) (hk:c.kind=1) (h2:c.nodes.length<=60/\c.code.size<=1000) (hn:nm.size<=20):(nm++wdS [c.call,c.urg]++⟨#[32]⟩++c.code++⟨#[32]⟩++setS c.nodes).size+(wdS [c.dist]).size<=9223372036854775807:=by
 have q1:=wdS_z (tx_d h hk)
 have:=(tx_z h (.inl hk) h2 hn).2.2
 simp only[List.length_cons,List.length_nil]at q1
 omega
theorem tx_0 {c:Cmd} (h:(!rightF c)=true):(⟨#[]⟩:ByteArray)=fmtF c:=fmt_0 (by rw[valid_right];exact h)
theorem k15 {c:Cmd} (h:(!rightF c)=false) (hn:∀ k∈[(1:Int),2,3,4,5,6,7,8,9,10,11,12,13,14],c.kind≠k):c.kind=15:=by
 have:=kOk_no (vC_k (pu_v h))
 simp only[List.mem_cons,List.not_mem_nil,or_false,forall_eq_or_imp,forall_eq]at hn
 omega
set_option maxRecDepth 100000 in
theorem tg_keeps:Keeps cfgTG Tryd.f17 fgC noIv:=Eq.mp (show((∀ x1:Cmd,((x1.nodes.length<=(60:Nat)/\ByteArray.size x1.code<=(1000:Nat))->(∃ x3:Cmd,(((x3.nodes.length<=(1000000:Nat))/\(ByteArray.size x3.code<=(1000000:Nat)))/\(((x1.kind=x3.kind/\(x1.call=x3.call/\(x1.inc=x3.inc/\(x1.oth=x3.oth/\(x1.urg=x3.urg/\(x1.code=x3.code/\((0=0/\x1.nodes.length=x3.nodes.length)/\(x1.dist=x3.dist/\(x1.cen=x3.cen/\(x1.ep=x3.ep/\(x1.tick=x3.tick/\(x1.su=x3.su/\(x1.sq=x3.sq/\(x1.ss=x3.ss/\(x1.sn=x3.sn/\(x1.se=x3.se/\(x1.edge=x3.edge/\(x1.time=x3.time/\(x1.node=x3.node/\True)))))))))))))))))))/\True)/\((((RLe x3.nodes.length x1.nodes.length)/\(RI x3.nodes.length x1.nodes x3.nodes))/\True)/\((((!rightF x3)=true)->(((ByteArray.mk (List.toArray (@List.nil UInt8)))=fmtF x1)/\True))/\(((!rightF x3)=false)->(((decide (x1.kind=(1:Int))=true)->(((True/\True)/\((True/\True)/\True))/\(∃ x7:List Int,(((x7.length<=(5:Nat))/\(∀ n8:Int,((n8∈x7)->(((0:Int)<=n8)/\(r64 n8)))))/\(((0=0/\((2:Nat)=x7.length))/\True)/\((((RLe x7.length 2)/\(RowsEq [.int .i64] x7.length (litRows ((D.i x1.call::@List.nil D)::(D.i x1.urg::@List.nil D)::@List.nil (List D))) (encL encI x7)))/\True)/\((ByteArray.size (ByteArray.mk (List.toArray ((111:UInt8)::(112:UInt8)::(101:UInt8)::(110:UInt8)::@List.nil UInt8)))+ByteArray.size (wdS x7)<=(9223372036854775807:Nat))/\((ByteArray.size ((ByteArray.mk (List.toArray ((111:UInt8)::(112:UInt8)::(101:UInt8)::(110:UInt8)::@List.nil UInt8)))++wdS x7)+ByteArray.size (ByteArray.mk (List.toArray ((32:UInt8)::@List.nil UInt8)))<=(9223372036854775807:Nat))/\((ByteArray.size ((ByteArray.mk (List.toArray ((111:UInt8)::(112:UInt8)::(101:UInt8)::(110:UInt8)::@List.nil UInt8)))++wdS x7++(ByteArray.mk (List.toArray ((32:UInt8)::@List.nil UInt8))))+ByteArray.size x1.code<=(9223372036854775807:Nat))/\((ByteArray.size ((ByteArray.mk (List.toArray ((111:UInt8)::(112:UInt8)::(101:UInt8)::(110:UInt8)::@List.nil UInt8)))++wdS x7++(ByteArray.mk (List.toArray ((32:UInt8)::@List.nil UInt8)))++x1.code)+ByteArray.size (ByteArray.mk (List.toArray ((32:UInt8)::@List.nil UInt8)))<=(9223372036854775807:Nat))/\(∃ x10:List Int,((ttP x10)/\(((0=0/\x1.nodes.length=x10.length)/\True)/\((((RLe x10.length x1.nodes.length)/\(RI x10.length x1.nodes x10))/\True)/\((ByteArray.size ((ByteArray.mk (List.toArray ((111:UInt8)::(112:UInt8)::(101:UInt8)::(110:UInt8)::@List.nil UInt8)))++wdS x7++(ByteArray.mk (List.toArray ((32:UInt8)::@List.nil UInt8)))++x1.code++(ByteArray.mk (List.toArray ((32:UInt8)::@List.nil UInt8))))+ByteArray.size (setS x10)<=(9223372036854775807:Nat))/\(((True/\True)/\True)/\(∃ x11:List Int,(((x11.length<=(5:Nat))/\(∀ n12:Int,((n12∈x11)->(((0:Int)<=n12)/\(r64 n12)))))/\(((0=0/\((1:Nat)=x11.length))/\True)/\((((RLe x11.length 1)/\(RowsEq [.int .i64] x11.length (litRows ((D.i x1.dist::@List.nil D)::@List.nil (List D))) (encL encI x11)))/\True)/\((ByteArray.size ((ByteArray.mk (List.toArray ((111:UInt8)::(112:UInt8)::(101:UInt8)::(110:UInt8)::@List.nil UInt8)))++wdS x7++(ByteArray.mk (List.toArray ((32:UInt8)::@List.nil UInt8)))++x1.code++(ByteArray.mk (List.toArray ((32:UInt8)::@List.nil UInt8)))++setS x10)+ByteArray.size (wdS x11)<=(9223372036854775807:Nat))/\(((ByteArray.mk (List.toArray ((111:UInt8)::(112:UInt8)::(101:UInt8)::(110:UInt8)::@List.nil UInt8)))++wdS x7++(ByteArray.mk (List.toArray ((32:UInt8)::@List.nil UInt8)))++x1.code++(ByteArray.mk (List.toArray ((32:UInt8)::@List.nil UInt8)))++setS x10++wdS x11=fmtF x1)/\True))))))))))))))))))))))/\((decide (x1.kind=(1:Int))=false)->(((decide (x1.kind=(2:Int))=true)->(((True/\True)/\((True/\True)/\True))/\(∃ x16:List Int,(((x16.length<=(5:Nat))/\(∀ n17:Int,((n17∈x16)->(((0:Int)<=n17)/\(r64 n17)))))/\(((0=0/\((2:Nat)=x16.length))/\True)/\((((RLe x16.length 2)/\(RowsEq [.int .i64] x16.length (litRows ((D.i x1.call::@List.nil D)::(D.i x1.urg::@List.nil D)::@List.nil (List D))) (encL encI x16)))/\True)/\((ByteArray.size (ByteArray.mk (List.toArray ((117:UInt8)::(112:UInt8)::(100:UInt8)::(97:UInt8)::(116:UInt8)::(101:UInt8)::@List.nil UInt8)))+ByteArray.size (wdS x16)<=(9223372036854775807:Nat))/\((ByteArray.size ((ByteArray.mk (List.toArray ((117:UInt8)::(112:UInt8)::(100:UInt8)::(97:UInt8)::(116:UInt8)::(101:UInt8)::@List.nil UInt8)))++wdS x16)+ByteArray.size (ByteArray.mk (List.toArray ((32:UInt8)::@List.nil UInt8)))<=(9223372036854775807:Nat))/\((ByteArray.size ((ByteArray.mk (List.toArray ((117:UInt8)::(112:UInt8)::(100:UInt8)::(97:UInt8)::(116:UInt8)::(101:UInt8)::@List.nil UInt8)))++wdS x16++(ByteArray.mk (List.toArray ((32:UInt8)::@List.nil UInt8))))+ByteArray.size x1.code<=(9223372036854775807:Nat))/\((ByteArray.size ((ByteArray.mk (List.toArray ((117:UInt8)::(112:UInt8)::(100:UInt8)::(97:UInt8)::(116:UInt8)::(101:UInt8)::@List.nil UInt8)))++wdS x16++(ByteArray.mk (List.toArray ((32:UInt8)::@List.nil UInt8)))++x1.code)+ByteArray.size (ByteArray.mk (List.toArray ((32:UInt8)::@List.nil UInt8)))<=(9223372036854775807:Nat))/\(∃ x19:List Int,((ttP x19)/\(((0=0/\x1.nodes.length=x19.length)/\True)/\((((RLe x19.length x1.nodes.length)/\(RI x19.length x1.nodes x19))/\True)/\((ByteArray.size ((ByteArray.mk (List.toArray ((117:UInt8)::(112:UInt8)::(100:UInt8)::(97:UInt8)::(116:UInt8)::(101:UInt8)::@List.nil UInt8)))++wdS x16++(ByteArray.mk (List.toArray ((32:UInt8)::@List.nil UInt8)))++x1.code++(ByteArray.mk (List.toArray ((32:UInt8)::@List.nil UInt8))))+ByteArray.size (setS x19)<=(9223372036854775807:Nat))/\(((ByteArray.mk (List.toArray ((117:UInt8)::(112:UInt8)::(100:UInt8)::(97:UInt8)::(116:UInt8)::(101:UInt8)::@List.nil UInt8)))++wdS x16++(ByteArray.mk (List.toArray ((32:UInt8)::@List.nil UInt8)))++x1.code++(ByteArray.mk (List.toArray ((32:UInt8)::@List.nil UInt8)))++setS x19=fmtF x1)/\True))))))))))))))))/\((decide (x1.kind=(2:Int))=false)->(((decide (x1.kind=(3:Int))=true)->(((True/\True)/\((True/\True)/\True))/\(∃ x22:List Int,(((x22.length<=(5:Nat))/\(∀ n23:Int,((n23∈x22)->(((0:Int)<=n23)/\(r64 n23)))))/\(((0=0/\((2:Nat)=x22.length))/\True)/\((((RLe x22.length 2)/\(RowsEq [.int .i64] x22.length (litRows ((D.i x1.inc::@List.nil D)::(D.i x1.oth::@List.nil D)::@List.nil (List D))) (encL encI x22)))/\True)/\((ByteArray.size (ByteArray.mk (List.toArray ((109:UInt8)::(101:UInt8)::(114:UInt8)::(103:UInt8)::(101:UInt8)::@List.nil UInt8)))+ByteArray.size (wdS x22)<=(9223372036854775807:Nat))/\(((ByteArray.mk (List.toArray ((109:UInt8)::(101:UInt8)::(114:UInt8)::(103:UInt8)::(101:UInt8)::@List.nil UInt8)))++wdS x22=fmtF x1)/\True))))))))/\((decide (x1.kind=(3:Int))=false)->(((decide (x1.kind=(4:Int))=true)->(((True/\True)/\((True/\True)/\True))/\(∃ x27:List Int,(((x27.length<=(5:Nat))/\(∀ n28:Int,((n28∈x27)->(((0:Int)<=n28)/\(r64 n28)))))/\(((0=0/\((2:Nat)=x27.length))/\True)/\((((RLe x27.length 2)/\(RowsEq [.int .i64] x27.length (litRows ((D.i x1.call::@List.nil D)::(D.i x1.inc::@List.nil D)::@List.nil (List D))) (encL encI x27)))/\True)/\((ByteArray.size (ByteArray.mk (List.toArray ((115:UInt8)::(112:UInt8)::(108:UInt8)::(105:UInt8)::(116:UInt8)::@List.nil UInt8)))+ByteArray.size (wdS x27)<=(9223372036854775807:Nat))/\(((ByteArray.mk (List.toArray ((115:UInt8)::(112:UInt8)::(108:UInt8)::(105:UInt8)::(116:UInt8)::@List.nil UInt8)))++wdS x27=fmtF x1)/\True))))))))/\((decide (x1.kind=(4:Int))=false)->(((decide (x1.kind=(5:Int))=true)->(((True/\True)/\((True/\True)/\((True/\True)/\((True/\True)/\((True/\True)/\True)))))/\(∃ x32:List Int,(((x32.length<=(5:Nat))/\(∀ n33:Int,((n33∈x32)->(((0:Int)<=n33)/\(r64 n33)))))/\(((0=0/\((5:Nat)=x32.length))/\True)/\((((RLe x32.length 5)/\(RowsEq [.int .i64] x32.length (litRows ((D.i x1.su::@List.nil D)::(D.i x1.sq::@List.nil D)::(D.i x1.ss::@List.nil D)::(D.i x1.sn::@List.nil D)::(D.i x1.se::@List.nil D)::@List.nil (List D))) (encL encI x32)))/\True)/\((ByteArray.size (ByteArray.mk (List.toArray ((115:UInt8)::(116:UInt8)::(97:UInt8)::(116:UInt8)::(117:UInt8)::(115:UInt8)::@List.nil UInt8)))+ByteArray.size (wdS x32)<=(9223372036854775807:Nat))/\(((ByteArray.mk (List.toArray ((115:UInt8)::(116:UInt8)::(97:UInt8)::(116:UInt8)::(117:UInt8)::(115:UInt8)::@List.nil UInt8)))++wdS x32=fmtF x1)/\True))))))))/\((decide (x1.kind=(5:Int))=false)->(((decide (x1.kind=(6:Int))=true)->(((ByteArray.mk (List.toArray ((100:UInt8)::(105:UInt8)::(115:UInt8)::(112:UInt8)::(97:UInt8)::(116:UInt8)::(99:UInt8)::(104:UInt8)::@List.nil UInt8)))=fmtF x1)/\True))/\((decide (x1.kind=(6:Int))=false)->(((decide (x1.kind=(7:Int))=true)->(((True/\True)/\((True/\True)/\True))/\(∃ x39:List Int,(((x39.length<=(5:Nat))/\(∀ n40:Int,((n40∈x39)->(((0:Int)<=n40)/\(r64 n40)))))/\(((0=0/\((2:Nat)=x39.length))/\True)/\((((RLe x39.length 2)/\(RowsEq [.int .i64] x39.length (litRows ((D.i x1.su::@List.nil D)::(D.i x1.inc::@List.nil D)::@List.nil (List D))) (encL encI x39)))/\True)/\((ByteArray.size (ByteArray.mk (List.toArray ((115:UInt8)::(116:UInt8)::(97:UInt8)::(110:UInt8)::(100:UInt8)::(100:UInt8)::(111:UInt8)::(119:UInt8)::(110:UInt8)::@List.nil UInt8)))+ByteArray.size (wdS x39)<=(9223372036854775807:Nat))/\(((ByteArray.mk (List.toArray ((115:UInt8)::(116:UInt8)::(97:UInt8)::(110:UInt8)::(100:UInt8)::(100:UInt8)::(111:UInt8)::(119:UInt8)::(110:UInt8)::@List.nil UInt8)))++wdS x39=fmtF x1)/\True))))))))/\((decide (x1.kind=(7:Int))=false)->(((decide (x1.kind=(8:Int))=true)->(((True/\True)/\((True/\True)/\((True/\True)/\True)))/\(∃ x44:List Int,(((x44.length<=(5:Nat))/\(∀ n45:Int,((n45∈x44)->(((0:Int)<=n45)/\(r64 n45)))))/\(((0=0/\((3:Nat)=x44.length))/\True)/\((((RLe x44.length 3)/\(RowsEq [.int .i64] x44.length (litRows ((D.i x1.dist::@List.nil D)::(D.i x1.cen::@List.nil D)::(D.i x1.ep::@List.nil D)::@List.nil (List D))) (encL encI x44)))/\True)/\((ByteArray.size (ByteArray.mk (List.toArray ((116:UInt8)::(97:UInt8)::(107:UInt8)::(101:UInt8)::(111:UInt8)::(118:UInt8)::(101:UInt8)::(114:UInt8)::@List.nil UInt8)))+ByteArray.size (wdS x44)<=(9223372036854775807:Nat))/\(((ByteArray.mk (List.toArray ((116:UInt8)::(97:UInt8)::(107:UInt8)::(101:UInt8)::(111:UInt8)::(118:UInt8)::(101:UInt8)::(114:UInt8)::@List.nil UInt8)))++wdS x44=fmtF x1)/\True))))))))/\((decide (x1.kind=(8:Int))=false)->(((decide (x1.kind=(9:Int))=true)->(((True/\True)/\((True/\True)/\((True/\True)/\True)))/\(∃ x49:List Int,(((x49.length<=(5:Nat))/\(∀ n50:Int,((n50∈x49)->(((0:Int)<=n50)/\(r64 n50)))))/\(((0=0/\((3:Nat)=x49.length))/\True)/\((((RLe x49.length 3)/\(RowsEq [.int .i64] x49.length (litRows ((D.i x1.dist::@List.nil D)::(D.i x1.cen::@List.nil D)::(D.i x1.ep::@List.nil D)::@List.nil (List D))) (encL encI x49)))/\True)/\((ByteArray.size (ByteArray.mk (List.toArray ((114:UInt8)::(101:UInt8)::(110:UInt8)::(101:UInt8)::(119:UInt8)::@List.nil UInt8)))+ByteArray.size (wdS x49)<=(9223372036854775807:Nat))/\(((ByteArray.mk (List.toArray ((114:UInt8)::(101:UInt8)::(110:UInt8)::(101:UInt8)::(119:UInt8)::@List.nil UInt8)))++wdS x49=fmtF x1)/\True))))))))/\((decide (x1.kind=(9:Int))=false)->(((decide (x1.kind=(10:Int))=true)->(((True/\True)/\((True/\True)/\((True/\True)/\True)))/\(∃ x54:List Int,(((x54.length<=(5:Nat))/\(∀ n55:Int,((n55∈x54)->(((0:Int)<=n55)/\(r64 n55)))))/\(((0=0/\((3:Nat)=x54.length))/\True)/\((((RLe x54.length 3)/\(RowsEq [.int .i64] x54.length (litRows ((D.i x1.dist::@List.nil D)::(D.i x1.cen::@List.nil D)::(D.i x1.ep::@List.nil D)::@List.nil (List D))) (encL encI x54)))/\True)/\((ByteArray.size (ByteArray.mk (List.toArray ((114:UInt8)::(101:UInt8)::(108:UInt8)::(101:UInt8)::(97:UInt8)::(115:UInt8)::(101:UInt8)::@List.nil UInt8)))+ByteArray.size (wdS x54)<=(9223372036854775807:Nat))/\(((ByteArray.mk (List.toArray ((114:UInt8)::(101:UInt8)::(108:UInt8)::(101:UInt8)::(97:UInt8)::(115:UInt8)::(101:UInt8)::@List.nil UInt8)))++wdS x54=fmtF x1)/\True))))))))/\((decide (x1.kind=(10:Int))=false)->(((decide (x1.kind=(11:Int))=true)->(((True/\True)/\((True/\True)/\True))/\(∃ x59:List Int,(((x59.length<=(5:Nat))/\(∀ n60:Int,((n60∈x59)->(((0:Int)<=n60)/\(r64 n60)))))/\(((0=0/\((2:Nat)=x59.length))/\True)/\((((RLe x59.length 2)/\(RowsEq [.int .i64] x59.length (litRows ((D.i x1.edge::@List.nil D)::(D.i x1.time::@List.nil D)::@List.nil (List D))) (encL encI x59)))/\True)/\((ByteArray.size (ByteArray.mk (List.toArray ((116:UInt8)::(114:UInt8)::(97:UInt8)::(118:UInt8)::(101:UInt8)::(108:UInt8)::(116:UInt8)::(105:UInt8)::(109:UInt8)::(101:UInt8)::@List.nil UInt8)))+ByteArray.size (wdS x59)<=(9223372036854775807:Nat))/\(((ByteArray.mk (List.toArray ((116:UInt8)::(114:UInt8)::(97:UInt8)::(118:UInt8)::(101:UInt8)::(108:UInt8)::(116:UInt8)::(105:UInt8)::(109:UInt8)::(101:UInt8)::@List.nil UInt8)))++wdS x59=fmtF x1)/\True))))))))/\((decide (x1.kind=(11:Int))=false)->(((decide (x1.kind=(12:Int))=true)->(((True/\True)/\True)/\(∃ x64:List Int,(((x64.length<=(5:Nat))/\(∀ n65:Int,((n65∈x64)->(((0:Int)<=n65)/\(r64 n65)))))/\(((0=0/\((1:Nat)=x64.length))/\True)/\((((RLe x64.length 1)/\(RowsEq [.int .i64] x64.length (litRows ((D.i x1.tick::@List.nil D)::@List.nil (List D))) (encL encI x64)))/\True)/\((ByteArray.size (ByteArray.mk (List.toArray ((99:UInt8)::(108:UInt8)::(111:UInt8)::(99:UInt8)::(107:UInt8)::@List.nil UInt8)))+ByteArray.size (wdS x64)<=(9223372036854775807:Nat))/\(((ByteArray.mk (List.toArray ((99:UInt8)::(108:UInt8)::(111:UInt8)::(99:UInt8)::(107:UInt8)::@List.nil UInt8)))++wdS x64=fmtF x1)/\True))))))))/\((decide (x1.kind=(12:Int))=false)->(((decide (x1.kind=(13:Int))=true)->(((True/\True)/\True)/\(∃ x69:List Int,(((x69.length<=(5:Nat))/\(∀ n70:Int,((n70∈x69)->(((0:Int)<=n70)/\(r64 n70)))))/\(((0=0/\((1:Nat)=x69.length))/\True)/\((((RLe x69.length 1)/\(RowsEq [.int .i64] x69.length (litRows ((D.i x1.inc::@List.nil D)::@List.nil (List D))) (encL encI x69)))/\True)/\((ByteArray.size (ByteArray.mk (List.toArray ((99:UInt8)::(108:UInt8)::(111:UInt8)::(115:UInt8)::(101:UInt8)::@List.nil UInt8)))+ByteArray.size (wdS x69)<=(9223372036854775807:Nat))/\(((ByteArray.mk (List.toArray ((99:UInt8)::(108:UInt8)::(111:UInt8)::(115:UInt8)::(101:UInt8)::@List.nil UInt8)))++wdS x69=fmtF x1)/\True))))))))/\((decide (x1.kind=(13:Int))=false)->(((decide (x1.kind=(14:Int))=true)->(((True/\True)/\((True/\True)/\True))/\(∃ x74:List Int,(((x74.length<=(5:Nat))/\(∀ n75:Int,((n75∈x74)->(((0:Int)<=n75)/\(r64 n75)))))/\(((0=0/\((2:Nat)=x74.length))/\True)/\((((RLe x74.length 2)/\(RowsEq [.int .i64] x74.length (litRows ((D.i x1.su::@List.nil D)::(D.i x1.node::@List.nil D)::@List.nil (List D))) (encL encI x74)))/\True)/\((ByteArray.size (ByteArray.mk (List.toArray ((114:UInt8)::(101:UInt8)::(108:UInt8)::(111:UInt8)::(99:UInt8)::(97:UInt8)::(116:UInt8)::(101:UInt8)::@List.nil UInt8)))+ByteArray.size (wdS x74)<=(9223372036854775807:Nat))/\(((ByteArray.mk (List.toArray ((114:UInt8)::(101:UInt8)::(108:UInt8)::(111:UInt8)::(99:UInt8)::(97:UInt8)::(116:UInt8)::(101:UInt8)::@List.nil UInt8)))++wdS x74=fmtF x1)/\True))))))))/\((decide (x1.kind=(14:Int))=false)->(((True/\True)/\True)/\(∃ x78:List Int,(((x78.length<=(5:Nat))/\(∀ n79:Int,((n79∈x78)->(((0:Int)<=n79)/\(r64 n79)))))/\(((0=0/\((1:Nat)=x78.length))/\True)/\((((RLe x78.length 1)/\(RowsEq [.int .i64] x78.length (litRows ((D.i x1.call::@List.nil D)::@List.nil (List D))) (encL encI x78)))/\True)/\((ByteArray.size (ByteArray.mk (List.toArray ((99:UInt8)::(108:UInt8)::(111:UInt8)::(115:UInt8)::(101:UInt8)::(99:UInt8)::(97:UInt8)::(108:UInt8)::(108:UInt8)::@List.nil UInt8)))+ByteArray.size (wdS x78)<=(9223372036854775807:Nat))/\(((ByteArray.mk (List.toArray ((99:UInt8)::(108:UInt8)::(111:UInt8)::(115:UInt8)::(101:UInt8)::(99:UInt8)::(97:UInt8)::(108:UInt8)::(108:UInt8)::@List.nil UInt8)))++wdS x78=fmtF x1)/\True))))))))))))))))))))))))))))))))))))))))))))=(Keeps cfgTG Tryd.f17 fgC noIv) by kernel_rfl) (fun x1=>fun h2=>⟨(x1),
⟨(by(try dsimp only at *);omega),
(by(try dsimp only at *);omega)⟩,
⟨⟨rfl,rfl,rfl,rfl,rfl,rfl,
⟨rfl,rfl⟩,rfl,rfl,rfl,rfl,rfl,rfl,rfl,rfl,rfl,rfl,rfl,rfl,trivial⟩,trivial⟩,
⟨⟨rl,rr⟩,trivial⟩,
fun h4=>⟨(by(try dsimp only at *);exact tx_0 h4),trivial⟩,
fun h5=>⟨fun g6=>have h6:=dT g6;⟨⟨⟨trivial,trivial⟩,
⟨trivial,trivial⟩,trivial⟩,
(Cmd.call x1::Cmd.urg x1::@List.nil Int),
⟨(by(try dsimp only at *);grind),
fun n8=>fun h9=>⟨(by(try dsimp only at *);exact((tx_w h5 (.inl ‹_›)).1 _ ‹_›).1),
(by(try dsimp only at *);exact((tx_w h5 (.inl ‹_›)).1 _ ‹_›).2)⟩⟩,
⟨⟨rfl,
(by(try dsimp only at *);grind)⟩,trivial⟩,
⟨⟨⟨(by(try dsimp only at *);grind)⟩,
(by(try dsimp only at *);exact litN rfl)⟩,trivial⟩,
(by(try dsimp only at *);exact tx_sz (tx_w h5 (.inl ‹_›)).1 (Nat.le_of_ble_eq_true rfl) (Nat.le_of_ble_eq_true rfl)),
(by(try dsimp only at *);exact(tx_z h5 (.inl ‹_›) h2 (Nat.le_of_ble_eq_true rfl)).1.1),
(by(try dsimp only at *);exact(tx_z h5 (.inl ‹_›) h2 (Nat.le_of_ble_eq_true rfl)).1.2),
(by(try dsimp only at *);exact(tx_z h5 (.inl ‹_›) h2 (Nat.le_of_ble_eq_true rfl)).2.1.1),
(Cmd.nodes x1),
(by(try dsimp only at *);exact⟨(tx_w h5 (.inl ‹_›)).2.1.1,(tx_w h5 (.inl ‹_›)).2.1.2,h2.1⟩),
⟨⟨rfl,rfl⟩,trivial⟩,
⟨⟨rl,rr⟩,trivial⟩,
(by(try dsimp only at *);exact(tx_z h5 (.inl ‹_›) h2 (Nat.le_of_ble_eq_true rfl)).2.1.2),
⟨⟨trivial,trivial⟩,trivial⟩,
(Cmd.dist x1::@List.nil Int),
⟨(by(try dsimp only at *);grind),
fun n12=>fun h13=>⟨(by(try dsimp only at *);exact((tx_d h5 ‹_›) _ ‹_›).1),
(by(try dsimp only at *);exact((tx_d h5 ‹_›) _ ‹_›).2)⟩⟩,
⟨⟨rfl,
(by(try dsimp only at *);grind)⟩,trivial⟩,
⟨⟨⟨(by(try dsimp only at *);grind)⟩,
(by(try dsimp only at *);exact litN rfl)⟩,trivial⟩,
(by(try dsimp only at *);exact tx_z2 h5 ‹_› h2 (Nat.le_of_ble_eq_true rfl)),
(by(try dsimp only at *);exact tx_c1 h5 ‹_›),trivial⟩,
fun g14=>have h14:=dF g14;⟨fun g15=>have h15:=dT g15;⟨⟨⟨trivial,trivial⟩,
⟨trivial,trivial⟩,trivial⟩,
(Cmd.call x1::Cmd.urg x1::@List.nil Int),
⟨(by(try dsimp only at *);grind),
fun n17=>fun h18=>⟨(by(try dsimp only at *);exact((tx_w h5 (.inr ‹_›)).1 _ ‹_›).1),
(by(try dsimp only at *);exact((tx_w h5 (.inr ‹_›)).1 _ ‹_›).2)⟩⟩,
⟨⟨rfl,
(by(try dsimp only at *);grind)⟩,trivial⟩,
⟨⟨⟨(by(try dsimp only at *);grind)⟩,
(by(try dsimp only at *);exact litN rfl)⟩,trivial⟩,
(by(try dsimp only at *);exact tx_sz (tx_w h5 (.inr ‹_›)).1 (Nat.le_of_ble_eq_true rfl) (Nat.le_of_ble_eq_true rfl)),
(by(try dsimp only at *);exact(tx_z h5 (.inr ‹_›) h2 (Nat.le_of_ble_eq_true rfl)).1.1),
(by(try dsimp only at *);exact(tx_z h5 (.inr ‹_›) h2 (Nat.le_of_ble_eq_true rfl)).1.2),
(by(try dsimp only at *);exact(tx_z h5 (.inr ‹_›) h2 (Nat.le_of_ble_eq_true rfl)).2.1.1),
(Cmd.nodes x1),
(by(try dsimp only at *);exact⟨(tx_w h5 (.inr ‹_›)).2.1.1,(tx_w h5 (.inr ‹_›)).2.1.2,h2.1⟩),
⟨⟨rfl,rfl⟩,trivial⟩,
⟨⟨rl,rr⟩,trivial⟩,
(by(try dsimp only at *);exact(tx_z h5 (.inr ‹_›) h2 (Nat.le_of_ble_eq_true rfl)).2.1.2),
(by(try dsimp only at *);exact tx_c2 h5 ‹_›),trivial⟩,
fun g20=>have h20:=dF g20;⟨fun g21=>have h21:=dT g21;⟨⟨⟨trivial,trivial⟩,
⟨trivial,trivial⟩,trivial⟩,
(Cmd.inc x1::Cmd.oth x1::@List.nil Int),
⟨(by(try dsimp only at *);grind),
fun n23=>fun h24=>⟨(by(try dsimp only at *);exact((tx_3 h5 ‹_›).2 _ ‹_›).1),
(by(try dsimp only at *);exact((tx_3 h5 ‹_›).2 _ ‹_›).2)⟩⟩,
⟨⟨rfl,
(by(try dsimp only at *);grind)⟩,trivial⟩,
⟨⟨⟨(by(try dsimp only at *);grind)⟩,
(by(try dsimp only at *);exact litN rfl)⟩,trivial⟩,
(by(try dsimp only at *);exact tx_sz (tx_3 h5 ‹_›).2 (Nat.le_of_ble_eq_true rfl) (Nat.le_of_ble_eq_true rfl)),
(by(try dsimp only at *);exact(tx_3 h5 ‹_›).1),trivial⟩,
fun g25=>have h25:=dF g25;⟨fun g26=>have h26:=dT g26;⟨⟨⟨trivial,trivial⟩,
⟨trivial,trivial⟩,trivial⟩,
(Cmd.call x1::Cmd.inc x1::@List.nil Int),
⟨(by(try dsimp only at *);grind),
fun n28=>fun h29=>⟨(by(try dsimp only at *);exact((tx_4 h5 ‹_›).2 _ ‹_›).1),
(by(try dsimp only at *);exact((tx_4 h5 ‹_›).2 _ ‹_›).2)⟩⟩,
⟨⟨rfl,
(by(try dsimp only at *);grind)⟩,trivial⟩,
⟨⟨⟨(by(try dsimp only at *);grind)⟩,
(by(try dsimp only at *);exact litN rfl)⟩,trivial⟩,
(by(try dsimp only at *);exact tx_sz (tx_4 h5 ‹_›).2 (Nat.le_of_ble_eq_true rfl) (Nat.le_of_ble_eq_true rfl)),
(by(try dsimp only at *);exact(tx_4 h5 ‹_›).1),trivial⟩,
fun g30=>have h30:=dF g30;⟨fun g31=>have h31:=dT g31;⟨⟨⟨trivial,trivial⟩,
⟨trivial,trivial⟩,
⟨trivial,trivial⟩,
⟨trivial,trivial⟩,
⟨trivial,trivial⟩,trivial⟩,
(Cmd.su x1::Cmd.sq x1::Cmd.ss x1::Cmd.sn x1::Cmd.se x1::@List.nil Int),
⟨(by(try dsimp only at *);exact Nat.le_refl _),
fun n33=>fun h34=>⟨(by(try dsimp only at *);exact((tx_5 h5 ‹_›).2 _ ‹_›).1),
(by(try dsimp only at *);exact((tx_5 h5 ‹_›).2 _ ‹_›).2)⟩⟩,
⟨⟨rfl,
(by(try dsimp only at *);rfl)⟩,trivial⟩,
⟨⟨⟨(by(try dsimp only at *);exact Nat.le_refl _)⟩,
(by(try dsimp only at *);exact litN rfl)⟩,trivial⟩,
(by(try dsimp only at *);exact tx_sz (tx_5 h5 ‹_›).2 (Nat.le_of_ble_eq_true rfl) (Nat.le_of_ble_eq_true rfl)),
(by(try dsimp only at *);exact(tx_5 h5 ‹_›).1),trivial⟩,
fun g35=>have h35:=dF g35;⟨fun g36=>have h36:=dT g36;⟨(by(try dsimp only at *);exact tx_6 h5 ‹_›),trivial⟩,
fun g37=>have h37:=dF g37;⟨fun g38=>have h38:=dT g38;⟨⟨⟨trivial,trivial⟩,
⟨trivial,trivial⟩,trivial⟩,
(Cmd.su x1::Cmd.inc x1::@List.nil Int),
⟨(by(try dsimp only at *);grind),
fun n40=>fun h41=>⟨(by(try dsimp only at *);exact((tx_7 h5 ‹_›).2 _ ‹_›).1),
(by(try dsimp only at *);exact((tx_7 h5 ‹_›).2 _ ‹_›).2)⟩⟩,
⟨⟨rfl,
(by(try dsimp only at *);grind)⟩,trivial⟩,
⟨⟨⟨(by(try dsimp only at *);grind)⟩,
(by(try dsimp only at *);exact litN rfl)⟩,trivial⟩,
(by(try dsimp only at *);exact tx_sz (tx_7 h5 ‹_›).2 (Nat.le_of_ble_eq_true rfl) (Nat.le_of_ble_eq_true rfl)),
(by(try dsimp only at *);exact(tx_7 h5 ‹_›).1),trivial⟩,
fun g42=>have h42:=dF g42;⟨fun g43=>have h43:=dT g43;⟨⟨⟨trivial,trivial⟩,
⟨trivial,trivial⟩,
⟨trivial,trivial⟩,trivial⟩,
(Cmd.dist x1::Cmd.cen x1::Cmd.ep x1::@List.nil Int),
⟨(by(try dsimp only at *);grind),
fun n45=>fun h46=>⟨(by(try dsimp only at *);exact((tx_8 h5 ‹_›).2 _ ‹_›).1),
(by(try dsimp only at *);exact((tx_8 h5 ‹_›).2 _ ‹_›).2)⟩⟩,
⟨⟨rfl,
(by(try dsimp only at *);grind)⟩,trivial⟩,
⟨⟨⟨(by(try dsimp only at *);grind)⟩,
(by(try dsimp only at *);exact litN rfl)⟩,trivial⟩,
(by(try dsimp only at *);exact tx_sz (tx_8 h5 ‹_›).2 (Nat.le_of_ble_eq_true rfl) (Nat.le_of_ble_eq_true rfl)),
(by(try dsimp only at *);exact(tx_8 h5 ‹_›).1),trivial⟩,
fun g47=>have h47:=dF g47;⟨fun g48=>have h48:=dT g48;⟨⟨⟨trivial,trivial⟩,
⟨trivial,trivial⟩,
⟨trivial,trivial⟩,trivial⟩,
(Cmd.dist x1::Cmd.cen x1::Cmd.ep x1::@List.nil Int),
⟨(by(try dsimp only at *);grind),
fun n50=>fun h51=>⟨(by(try dsimp only at *);exact((tx_9 h5 ‹_›).2 _ ‹_›).1),
(by(try dsimp only at *);exact((tx_9 h5 ‹_›).2 _ ‹_›).2)⟩⟩,
⟨⟨rfl,
(by(try dsimp only at *);grind)⟩,trivial⟩,
⟨⟨⟨(by(try dsimp only at *);grind)⟩,
(by(try dsimp only at *);exact litN rfl)⟩,trivial⟩,
(by(try dsimp only at *);exact tx_sz (tx_9 h5 ‹_›).2 (Nat.le_of_ble_eq_true rfl) (Nat.le_of_ble_eq_true rfl)),
(by(try dsimp only at *);exact(tx_9 h5 ‹_›).1),trivial⟩,
fun g52=>have h52:=dF g52;⟨fun g53=>have h53:=dT g53;⟨⟨⟨trivial,trivial⟩,
⟨trivial,trivial⟩,
⟨trivial,trivial⟩,trivial⟩,
(Cmd.dist x1::Cmd.cen x1::Cmd.ep x1::@List.nil Int),
⟨(by(try dsimp only at *);grind),
fun n55=>fun h56=>⟨(by(try dsimp only at *);exact((tx_10 h5 ‹_›).2 _ ‹_›).1),
(by(try dsimp only at *);exact((tx_10 h5 ‹_›).2 _ ‹_›).2)⟩⟩,
⟨⟨rfl,
(by(try dsimp only at *);grind)⟩,trivial⟩,
⟨⟨⟨(by(try dsimp only at *);grind)⟩,
(by(try dsimp only at *);exact litN rfl)⟩,trivial⟩,
(by(try dsimp only at *);exact tx_sz (tx_10 h5 ‹_›).2 (Nat.le_of_ble_eq_true rfl) (Nat.le_of_ble_eq_true rfl)),
(by(try dsimp only at *);exact(tx_10 h5 ‹_›).1),trivial⟩,
fun g57=>have h57:=dF g57;⟨fun g58=>have h58:=dT g58;⟨⟨⟨trivial,trivial⟩,
⟨trivial,trivial⟩,trivial⟩,
(Cmd.edge x1::Cmd.time x1::@List.nil Int),
⟨(by(try dsimp only at *);grind),
fun n60=>fun h61=>⟨(by(try dsimp only at *);exact((tx_11 h5 ‹_›).2 _ ‹_›).1),
(by(try dsimp only at *);exact((tx_11 h5 ‹_›).2 _ ‹_›).2)⟩⟩,
⟨⟨rfl,
(by(try dsimp only at *);grind)⟩,trivial⟩,
⟨⟨⟨(by(try dsimp only at *);grind)⟩,
(by(try dsimp only at *);exact litN rfl)⟩,trivial⟩,
(by(try dsimp only at *);exact tx_sz (tx_11 h5 ‹_›).2 (Nat.le_of_ble_eq_true rfl) (Nat.le_of_ble_eq_true rfl)),
(by(try dsimp only at *);exact(tx_11 h5 ‹_›).1),trivial⟩,
fun g62=>have h62:=dF g62;⟨fun g63=>have h63:=dT g63;⟨⟨⟨trivial,trivial⟩,trivial⟩,
(Cmd.tick x1::@List.nil Int),
⟨(by(try dsimp only at *);grind),
fun n65=>fun h66=>⟨(by(try dsimp only at *);exact((tx_12 h5 ‹_›).2 _ ‹_›).1),
(by(try dsimp only at *);exact((tx_12 h5 ‹_›).2 _ ‹_›).2)⟩⟩,
⟨⟨rfl,
(by(try dsimp only at *);grind)⟩,trivial⟩,
⟨⟨⟨(by(try dsimp only at *);grind)⟩,
(by(try dsimp only at *);exact litN rfl)⟩,trivial⟩,
(by(try dsimp only at *);exact tx_sz (tx_12 h5 ‹_›).2 (Nat.le_of_ble_eq_true rfl) (Nat.le_of_ble_eq_true rfl)),
(by(try dsimp only at *);exact(tx_12 h5 ‹_›).1),trivial⟩,
fun g67=>have h67:=dF g67;⟨fun g68=>have h68:=dT g68;⟨⟨⟨trivial,trivial⟩,trivial⟩,
(Cmd.inc x1::@List.nil Int),
⟨(by(try dsimp only at *);grind),
fun n70=>fun h71=>⟨(by(try dsimp only at *);exact((tx_13 h5 ‹_›).2 _ ‹_›).1),
(by(try dsimp only at *);exact((tx_13 h5 ‹_›).2 _ ‹_›).2)⟩⟩,
⟨⟨rfl,
(by(try dsimp only at *);grind)⟩,trivial⟩,
⟨⟨⟨(by(try dsimp only at *);grind)⟩,
(by(try dsimp only at *);exact litN rfl)⟩,trivial⟩,
(by(try dsimp only at *);exact tx_sz (tx_13 h5 ‹_›).2 (Nat.le_of_ble_eq_true rfl) (Nat.le_of_ble_eq_true rfl)),
(by(try dsimp only at *);exact(tx_13 h5 ‹_›).1),trivial⟩,
fun g72=>have h72:=dF g72;⟨fun g73=>have h73:=dT g73;⟨⟨⟨trivial,trivial⟩,
⟨trivial,trivial⟩,trivial⟩,
(Cmd.su x1::Cmd.node x1::@List.nil Int),
⟨(by(try dsimp only at *);grind),
fun n75=>fun h76=>⟨(by(try dsimp only at *);exact((tx_14 h5 ‹_›).2 _ ‹_›).1),
(by(try dsimp only at *);exact((tx_14 h5 ‹_›).2 _ ‹_›).2)⟩⟩,
⟨⟨rfl,
(by(try dsimp only at *);grind)⟩,trivial⟩,
⟨⟨⟨(by(try dsimp only at *);grind)⟩,
(by(try dsimp only at *);exact litN rfl)⟩,trivial⟩,
(by(try dsimp only at *);exact tx_sz (tx_14 h5 ‹_›).2 (Nat.le_of_ble_eq_true rfl) (Nat.le_of_ble_eq_true rfl)),
(by(try dsimp only at *);exact(tx_14 h5 ‹_›).1),trivial⟩,
fun g77=>have h77:=dF g77;⟨⟨⟨trivial,trivial⟩,trivial⟩,
(Cmd.call x1::@List.nil Int),
⟨(by(try dsimp only at *);grind),
fun n79=>fun h80=>⟨(by(try dsimp only at *);exact((tx_15 h5 (k15 h5 (by simp[*]))).2 _ ‹_›).1),
(by(try dsimp only at *);exact((tx_15 h5 (k15 h5 (by simp[*]))).2 _ ‹_›).2)⟩⟩,
⟨⟨rfl,
(by(try dsimp only at *);grind)⟩,trivial⟩,
⟨⟨⟨(by(try dsimp only at *);grind)⟩,
(by(try dsimp only at *);exact litN rfl)⟩,trivial⟩,
(by(try dsimp only at *);exact tx_sz (tx_15 h5 (k15 h5 (by simp[*]))).2 (Nat.le_of_ble_eq_true rfl) (Nat.le_of_ble_eq_true rfl)),
(by(try dsimp only at *);exact(tx_15 h5 (k15 h5 (by simp[*]))).1),trivial⟩⟩⟩⟩⟩⟩⟩⟩⟩⟩⟩⟩⟩⟩⟩⟩)
theorem tg_good:Good Tryd.prog 17 fgC/\FnOk Tryd.prog 17:=good_of tok conTG (fn:=Tryd.f17) rfl (by decide+kernel) (fun _=>rfl) tg_keeps
end Go.Sym