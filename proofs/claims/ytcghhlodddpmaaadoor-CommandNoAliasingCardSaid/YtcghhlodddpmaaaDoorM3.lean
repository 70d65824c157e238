import Derived.Test.YtcghhlodddpmaaaDoorM1
import Derived.Test.YtcghhlodddpmaaaDoorX7
import Derived.Test.YtcghhlodddpmaaaDoorY3
import Derived.Test.YtcghhlodddpmaaaDoorXD
namespace Go.Sym
set_option linter.unusedVariables false
set_option linter.unusedSimpArgs false
open Go.Proofs
set_option maxRecDepth 100000
set_option maxHeartbeats 4000000
def cpCt:CT where
 X:=Msg
 pre:=fun _=>True
 args:=fun x=>[.agg (ml x 100001)]
 g0:=fun x=>[mB 100001 x]
 res:=fun x=>.agg (ml x 1)
 g1:=fun x=>[mB 1 x]
set_option maxRecDepth 100000 in
theorem nt_keeps:Keeps cfg0 Tryd.f27 cpCt noIv:=Eq.mp (show((∀ x1:Msg,(True->((x1.k=x1.k/\(x1.a=x1.a/\(x1.p=x1.p/\(x1.q=x1.q/\(x1.b=x1.b/\(x1.e=x1.e/\((0=0/\x1.body.length=x1.body.length)/\True)))))))/\(((RLe x1.body.length x1.body.length)/\(RowsEq (.int IntKind.u8::[]) x1.body.length (encL encI x1.body) (encL encI x1.body)))/\True)))))=(Keeps cfg0 Tryd.f27 cpCt noIv) by kernel_rfl) (fun x1=>fun h2=>⟨⟨rfl,rfl,rfl,rfl,rfl,rfl,
⟨rfl,rfl⟩,trivial⟩,
⟨rl,rr⟩,trivial⟩)
def bkCt:CT where
 X:=Msg
 pre:=fun _=>True
 args:=fun x=>[.agg (ml x 100001)]
 g0:=fun x=>[mO 100001 x]
 res:=fun x=>.agg (ml x 100001)
 g1:=fun x=>[mO 100001 x]
set_option maxRecDepth 100000 in
theorem bk_keeps:Keeps cfg0 Tryd.f23 bkCt noIv:=Eq.mp (show((∀ x1:Msg,(True->((x1.k=x1.k/\(x1.a=x1.a/\(x1.p=x1.p/\(x1.q=x1.q/\(x1.b=x1.b/\(x1.e=x1.e/\((0=0/\x1.body.length=x1.body.length)/\True)))))))/\(((RLe x1.body.length x1.body.length)/\(RowsEq (.int IntKind.u8::[]) x1.body.length (encL encI x1.body) (encL encI x1.body)))/\True)))))=(Keeps cfg0 Tryd.f23 bkCt noIv) by kernel_rfl) (fun x1=>fun h2=>⟨⟨rfl,rfl,rfl,rfl,rfl,rfl,
⟨rfl,rfl⟩,trivial⟩,
⟨rl,rr⟩,trivial⟩)
def cfgM3:Cfg:=⟨T,[],[(24,.one vmC),(40,.one isC)],noInv,60,{}⟩
def mS (m:Msg):List Int:=[m.k,m.a,m.p,m.q,m.b,m.e,m.body.length]
theorem mS_r {m:Msg} (h:(!vM m)=false):∀ n∈mS m,r64 n:=by
 obtain⟨⟨a,b,c,d,e,f⟩,g⟩:=vM_r (mr_v h)
 intro n hn
 unfold mS at hn
 simp only[List.mem_cons,List.not_mem_nil,or_false]at hn
 rcases hn with rfl|rfl|rfl|rfl|rfl|rfl|rfl <;>first|assumption|(unfold r64;omega)
theorem mS_e {m:Msg} (h:(!vM m)=false):byIs (mS m)++m.body=mR m:=by
 rw[<- mr_e h]
 unfold mS byBs
 simp[byIs]
theorem mS_c {m:Msg} (h:(!vM m)=false):(byIs (mS m)).length+m.body.length<=1073741824:=by
 have h1:=mr_l h
 rw[<- mS_e h,List.length_append]at h1
 omega
set_option maxRecDepth 100000 in
theorem wr_keeps:Keeps cfgM3 Tryd.f25 emC noIv:=Eq.mp (show((∀ x1:Msg,(True->(∃ x3:Msg,(True/\(((x1.k=x3.k/\(x1.a=x3.a/\(x1.p=x3.p/\(x1.q=x3.q/\(x1.b=x3.b/\(x1.e=x3.e/\((0=0/\x1.body.length=x3.body.length)/\True)))))))/\True)/\((((RLe x3.body.length x1.body.length)/\(RowsEq (.int IntKind.u8::[]) x3.body.length (encL encI x1.body) (encL encI x3.body)))/\True)/\((((!vM x3)=true)->((True/\(0=0/\((mR x1).length=(0:Nat))))/\(((mR x1).length=(0:Nat))/\True)))/\(((!vM x3)=false)->(((True/\True)/\((True/\True)/\((True/\True)/\((True/\True)/\((True/\True)/\((True/\True)/\((True/\True)/\True)))))))/\(∃ x6:List Int,(((x6.length<=(3000:Nat))/\(∀ n7:Int,((n7∈x6)->(r64 n7))))/\(((0=0/\((7:Nat)=x6.length))/\True)/\((((RLe x6.length 7)/\(RowsEq [.int .i64] x6.length (litRows ((D.i x1.k::@List.nil D)::(D.i x1.a::@List.nil D)::(D.i x1.p::@List.nil D)::(D.i x1.q::@List.nil D)::(D.i x1.b::@List.nil D)::(D.i x1.e::@List.nil D)::(D.i (x1.body.length:Int)::@List.nil D)::@List.nil (List D))) (encL encI x6)))/\True)/\((0=0/\(((byIs x6).length<=(byIs x6).length)/\(((0:Nat)+x1.body.length<=x1.body.length)/\((byIs x6).length+x1.body.length<=(1073741824:Nat)))))/\((0=0/\((byIs x6).length+x1.body.length=(mR x1).length))/\(((RLe (mR x1).length ((byIs x6).length+x1.body.length))/\(RowsEq (.int IntKind.u8::[]) (mR x1).length (appRows (byIs x6).length (encL encI (byIs x6)) 0 (encL encI x1.body)) (encL encI (mR x1))))/\True)))))))))))))))))=(Keeps cfgM3 Tryd.f25 emC noIv) by kernel_rfl) (fun x1=>fun h2=>⟨(x1),trivial,
⟨⟨rfl,rfl,rfl,rfl,rfl,rfl,
⟨rfl,rfl⟩,trivial⟩,trivial⟩,
⟨⟨rl,rr⟩,trivial⟩,
fun h4=>⟨⟨trivial,rfl,
(by(try dsimp only at *);exact mr_0 ‹_›)⟩,
(by(try dsimp only at *);exact mr_0 ‹_›),trivial⟩,
fun h5=>⟨⟨⟨trivial,trivial⟩,
⟨trivial,trivial⟩,
⟨trivial,trivial⟩,
⟨trivial,trivial⟩,
⟨trivial,trivial⟩,
⟨trivial,trivial⟩,
⟨trivial,trivial⟩,trivial⟩,
(mS x1),
⟨(by(try dsimp only at *);exact Nat.le_of_ble_eq_true rfl),
fun n7=>fun h8=>(by(try dsimp only at *);exact mS_r ‹_› _ ‹_›)⟩,
⟨⟨rfl,
(by(try dsimp only at *);rfl)⟩,trivial⟩,
⟨⟨⟨(by(try dsimp only at *);exact Nat.le_of_ble_eq_true rfl)⟩,
(by(try dsimp only at *);exact litN rfl)⟩,trivial⟩,
⟨rfl,
(by(try dsimp only at *);omega),
(by(try dsimp only at *);omega),
(by(try dsimp only at *);exact mS_c ‹_›)⟩,
⟨rfl,
(by(try dsimp only at *);exact pu_len (mS_e ‹_›))⟩,
⟨⟨(by(try dsimp only at *);exact Nat.le_of_eq (pu_len (mS_e ‹_›)).symm)⟩,
(by(try dsimp only at *);exact pu_rows (mS_e ‹_›))⟩,trivial⟩⟩)
def snC:CT where
 X:=Msg × Msg
 pre:=fun x=>isB x.1.body/\isB x.2.body
 args:=fun x=>[.agg (ml x.1 100001),.agg (ml x.2 100002)]
 g0:=fun x=>[mB 100001 x.1,mB 100002 x.2]
 res:=fun x=>.b (decide (x.1=x.2))
 g1:=fun _=>[]
theorem str_dec (x y:ByteArray):(x.toList==y.toList)=decide (x=y):=by
 rw[Bool.eq_iff_iff,beq_iff_eq,decide_eq_true_iff,ByteArray.toList_eq,ByteArray.toList_eq]
 exact⟨fun h=>ByteArray.ext (Array.toList_inj.mp h),fun h=>by rw[h]⟩
theorem strB_inj {a b:List Int} (ha:isB a) (hb:isB b):strB a=strB b↔a=b:=by
 refine⟨fun h=>?_,fun h=>by rw[h]⟩
 rw[<- strL_strB ha,<- strL_strB hb,h]
theorem str_dec2 {a b:List Int} (ha:isB a) (hb:isB b):((strOf a.length fun r=>encL encI a (0+r)).toList==(strOf b.length fun r=>encL encI b (0+r)).toList)=decide (a=b):=by
 rw[strB_of rfl,strB_of rfl,str_dec]
 exact decide_eq_decide.2 (strB_inj ha hb)
theorem sn_e {a b:Msg} (h:isB a.body/\isB b.body) (h1:a.k=b.k) (h2:a.a=b.a) (h3:a.p=b.p) (h4:a.q=b.q) (h5:a.b=b.b) (h6:a.e=b.e):((strOf a.body.length fun r=>encL encI a.body (0+r)).toList==(strOf b.body.length fun r=>encL encI b.body (0+r)).toList)=decide (a=b):=by
 rw[str_dec2 h.1 h.2]
 refine decide_eq_decide.2 ⟨fun h=>?_,fun h=>by rw[h]⟩
 cases a;cases b
 simp only at h h1 h2 h3 h4 h5 h6
 subst h h1 h2 h3 h4 h5 h6
 rfl
set_option maxRecDepth 100000 in
theorem sn_keeps:Keeps cfg0 Tryd.f22 snC noIv:=Eq.mp (show((∀ x1:Msg × Msg,((isB (Prod.fst x1).body/\isB (Prod.snd x1).body)->(((decide ((Prod.fst x1).k=(Prod.snd x1).k)=true)->(((decide ((Prod.fst x1).a=(Prod.snd x1).a)=true)->(((decide ((Prod.fst x1).p=(Prod.snd x1).p)=true)->(((decide ((Prod.fst x1).q=(Prod.snd x1).q)=true)->(((decide ((Prod.fst x1).b=(Prod.snd x1).b)=true)->(((decide ((Prod.fst x1).e=(Prod.snd x1).e)=true)->(((0:Nat)+(Prod.fst x1).body.length<=(Prod.fst x1).body.length)/\(((0:Nat)+(Prod.snd x1).body.length<=(Prod.snd x1).body.length)/\(((ByteArray.toList (ByteArray.mk (List.toArray (List.map (fun(r:Nat)=>UInt8.ofNat (Int.toNat ((Prod.fst x1).body.getD ((0:Nat)+r) default))) (List.range (Prod.fst x1).body.length))))==ByteArray.toList (ByteArray.mk (List.toArray (List.map (fun(r:Nat)=>UInt8.ofNat (Int.toNat ((Prod.snd x1).body.getD ((0:Nat)+r) default))) (List.range (Prod.snd x1).body.length)))))=decide (Prod.fst x1=Prod.snd x1))/\True))))/\((decide ((Prod.fst x1).e=(Prod.snd x1).e)=false)->((false=decide (Prod.fst x1=Prod.snd x1))/\True))))/\((decide ((Prod.fst x1).b=(Prod.snd x1).b)=false)->((false=decide (Prod.fst x1=Prod.snd x1))/\True))))/\((decide ((Prod.fst x1).q=(Prod.snd x1).q)=false)->((false=decide (Prod.fst x1=Prod.snd x1))/\True))))/\((decide ((Prod.fst x1).p=(Prod.snd x1).p)=false)->((false=decide (Prod.fst x1=Prod.snd x1))/\True))))/\((decide ((Prod.fst x1).a=(Prod.snd x1).a)=false)->((false=decide (Prod.fst x1=Prod.snd x1))/\True))))/\((decide ((Prod.fst x1).k=(Prod.snd x1).k)=false)->((false=decide (Prod.fst x1=Prod.snd x1))/\True))))))=(Keeps cfg0 Tryd.f22 snC noIv) by kernel_rfl) (fun x1=>fun h2=>⟨fun g3=>have h3:=dT g3;⟨fun g4=>have h4:=dT g4;⟨fun g5=>have h5:=dT g5;⟨fun g6=>have h6:=dT g6;⟨fun g7=>have h7:=dT g7;⟨fun g8=>have h8:=dT g8;⟨(by omega),
(by omega),
(by exact sn_e h2 h3 h4 h5 h6 h7 h8),trivial⟩,
fun g9=>have h9:=dF g9;⟨(by grind),trivial⟩⟩,
fun g10=>have h10:=dF g10;⟨(by grind),trivial⟩⟩,
fun g11=>have h11:=dF g11;⟨(by grind),trivial⟩⟩,
fun g12=>have h12:=dF g12;⟨(by grind),trivial⟩⟩,
fun g13=>have h13:=dF g13;⟨(by grind),trivial⟩⟩,
fun g14=>have h14:=dF g14;⟨(by grind),trivial⟩⟩)
end Go.Sym