import Derived.Test.YtcghhlodddpmaaaDoorI1
import Derived.Test.YtcghhlodddpmaaaDoorTX1
import Derived.Test.YtcghhlodddpmaaaDoorXD
namespace Go.Sym
set_option linter.unusedVariables false
set_option linter.unusedSimpArgs false
open Go.Proofs
set_option maxRecDepth 100000
set_option maxHeartbeats 4000000
theorem fi69_good:Good Tryd.prog 69 fiC/\FnOk Tryd.prog 69:=by
 refine⟨good_below (fun _ _=>rfl) (fun _=>rfl) fun x hx ρ w vals hg hv H=>?_,Tryd.f69,rfl,by decide+kernel,rfl⟩
 simp only[fiC,DenL,Den]at hv
 obtain⟨v,r,rfl,rfl,v2,r2,rfl,rfl,rfl⟩:=hv
 refine(Go.Proofs.Any.internal_strconv_FormatInt_10 { Tryd.laysM173 with } x hx.1 hx.2 w (pow_tab hg H.zok)).mono ?_
 rintro e w' ⟨rfl,k,os,rfl⟩
 exact⟨⟨_,rfl,by simp only[fiC,Den];rfl⟩,Lib.below_grow _ _ (Nat.le_refl _) _ _⟩
def itC1:CT where
 X:=Int
 pre:=r64
 args:=fun n=>[.i .i64 n]
 g0:=fun _=>[]
 res:=fun n=>.s (itoS n)
 g1:=fun _=>[]
def cfgS1:Cfg:=⟨T,[],[(69,.one fiC)],noInv,20,{}⟩
theorem conS1:ConOk Tryd.prog cfgS1:=ConL.ok (.cons (ConL.one fi69_good) .nil)
set_option maxRecDepth 100000 in
theorem i89_keeps:Keeps cfgS1 Tryd.f89 itC1 noIv:=Eq.mp (show((∀ x1:Int,((r64 x1)->(∃ x3:Int,((r64 x3)/\((x1=x3/\(((10:Int)=10)/\True))/\(True/\((itoS x3=itoS x1)/\True))))))))=(Keeps cfgS1 Tryd.f89 itC1 noIv) by kernel_rfl) (fun x1=>fun h2=>⟨(x1),
(by(try dsimp only at *);omega),
⟨rfl,rfl,trivial⟩,trivial,rfl,trivial⟩)
theorem i89_good:Good Tryd.prog 89 itC1/\FnOk Tryd.prog 89:=good_of tok conS1 (fn:=Tryd.f89) rfl (by decide+kernel) (fun _=>rfl) i89_keeps
def cfgS2:Cfg:=⟨T,[],[(89,.one itC1)],noInv,20,{}⟩
theorem conS2:ConOk Tryd.prog cfgS2:=ConL.ok (.cons (ConL.one i89_good) .nil)
set_option maxRecDepth 100000 in
theorem i82_keeps:Keeps cfgS2 Tryd.f82 itC1 noIv:=Eq.mp (show((∀ x1:Int,((r64 x1)->(∃ x3:Int,((r64 x3)/\((x1=x3/\True)/\(True/\((itoS x3=itoS x1)/\True))))))))=(Keeps cfgS2 Tryd.f82 itC1 noIv) by kernel_rfl) (fun x1=>fun h2=>⟨(x1),
(by(try dsimp only at *);omega),
⟨rfl,trivial⟩,trivial,rfl,trivial⟩)
theorem i82_good:Good Tryd.prog 82 itC1/\FnOk Tryd.prog 82:=good_of tok conS2 (fn:=Tryd.f82) rfl (by decide+kernel) (fun _=>rfl) i82_keeps
def frC:CT where
 X:=Int × Int
 pre:=fun p=>(0<=p.1/\p.1<4096)/\(0<=p.2/\p.2<4096)
 args:=fun p=>[.i .i64 p.1,.i .i64 p.2]
 g0:=fun _=>[]
 res:=fun p=>.s (runT p)
 g1:=fun _=>[]
def cfgS3:Cfg:=⟨T,[],[(82,.one itC1)],noInv,20,{}⟩
theorem conS3:ConOk Tryd.prog cfgS3:=ConL.ok (.cons (ConL.one i82_good) .nil)
theorem fr_y {p:Int × Int} (h:p.1=p.2):itoS p.1=runT p:=by unfold runT;rw[if_pos h]
theorem fr_n {p:Int × Int} (h:¬ p.1=p.2):itoS p.1++⟨#[45]⟩++itoS p.2=runT p:=by unfold runT;rw[if_neg h]
theorem r64_k {n:Int} (h:0<=n/\n<4096):r64 n:=by unfold r64;omega
theorem fr_s {n:Int} (h:0<=n/\n<4096):(itoS n).size+(⟨#[45]⟩:ByteArray).size<=9223372036854775807:=by
 have:=ito_size (r64_k h)
 have e:(⟨#[45]⟩:ByteArray).size=1:=rfl
 omega
theorem fr_t {p:Int × Int} (h:(0<=p.1/\p.1<4096)/\(0<=p.2/\p.2<4096)):(itoS p.1++⟨#[45]⟩).size+(itoS p.2).size<=9223372036854775807:=by
 have h1:=ito_size (r64_k h.1)
 have h2:=ito_size (r64_k h.2)
 have e:(⟨#[45]⟩:ByteArray).size=1:=rfl
 rw[ba_size]
 omega
set_option maxRecDepth 100000 in
theorem fr_keeps:Keeps cfgS3 Tryd.f68 frC noIv:=Eq.mp (show((∀ x1:Int × Int,((((0:Int)<=Prod.fst x1/\Prod.fst x1<4096)/\(0:Int)<=Prod.snd x1/\Prod.snd x1<4096)->(((decide (Prod.fst x1=Prod.snd x1)=true)->(∃ x4:Int,((r64 x4)/\(((Prod.fst x1=x4)/\True)/\(True/\((itoS x4=runT x1)/\True))))))/\((decide (Prod.fst x1=Prod.snd x1)=false)->(∃ x6:Int,((r64 x6)/\(((Prod.fst x1=x6)/\True)/\(True/\((ByteArray.size (itoS x6)+ByteArray.size (ByteArray.mk (List.toArray ((45:UInt8)::@List.nil UInt8)))<=(9223372036854775807:Nat))/\(∃ x7:Int,((r64 x7)/\(((Prod.snd x1=x7)/\True)/\(True/\((ByteArray.size (itoS x6++(ByteArray.mk (List.toArray ((45:UInt8)::@List.nil UInt8))))+ByteArray.size (itoS x7)<=(9223372036854775807:Nat))/\((itoS x6++(ByteArray.mk (List.toArray ((45:UInt8)::@List.nil UInt8)))++itoS x7=runT x1)/\True))))))))))))))))=(Keeps cfgS3 Tryd.f68 frC noIv) by kernel_rfl) (fun x1=>fun h2=>⟨fun g3=>have h3:=dT g3;⟨(Prod.fst x1),
(by(try dsimp only at *);exact r64_k h2.1),
⟨rfl,trivial⟩,trivial,
(by(try dsimp only at *);exact fr_y ‹_›),trivial⟩,
fun g5=>have h5:=dF g5;⟨(Prod.fst x1),
(by(try dsimp only at *);exact r64_k h2.1),
⟨rfl,trivial⟩,trivial,
(by(try dsimp only at *);exact fr_s h2.1),
(Prod.snd x1),
(by(try dsimp only at *);exact r64_k h2.2),
⟨rfl,trivial⟩,trivial,
(by(try dsimp only at *);exact fr_t h2),
(by(try dsimp only at *);exact fr_n ‹_›),trivial⟩⟩)
theorem fr_good:Good Tryd.prog 68 frC/\FnOk Tryd.prog 68:=good_of tok conS3 (fn:=Tryd.f68) rfl (by decide+kernel) (fun _=>rfl) fr_keeps
def eachC:CT where
 X:=List Nat
 pre:=WOk
 args:=fun ws=>[setV ws 100000]
 g0:=fun ws=>setH ws .bor 100000
 res:=fun _=>.fn 80 [.p 1 0 0]
 g1:=fun ws=>[(1,.one .own [.q 100000 (szW ws)])]
set_option maxRecDepth 100000 in
theorem each_keeps:Keeps cfgN0 Tryd.f67 eachC noIv:=Eq.mp (show((∀ x1:List Nat,((WOk x1)->(((0=0/\0=0)/\True)/\(((szW x1=szW x1)/\True)/\True)))))=(Keeps cfgN0 Tryd.f67 eachC noIv) by kernel_rfl) (fun x1=>fun h2=>⟨⟨⟨rfl,rfl⟩,trivial⟩,
⟨rfl,trivial⟩,trivial⟩)
theorem eachC_good:Good Tryd.prog 67 eachC/\FnOk Tryd.prog 67:=good_of tok conN0 (fn:=Tryd.f67) rfl (by decide+kernel) (fun _=>rfl) each_keeps
def rf0 (fn:Func) (i:Nat):Operand × Array Tmp × Code × Code:=(rfsF fn).getD i (.tmp 0,#[],.skip,.skip)
theorem one_loop {P:Program} [Glob] {fn:Func} {p:Nat} {lc:LC} {q:Operand × Array Tmp × Code × Code} (h0:rfsF fn=[q]) (hg:LoopGood P fn.ntmps q lc):
  ∀ q∈rfsF fn,∀ lc',lget [(p,lc)] (ps0 q.2.1)=some lc'->LoopGood P fn.ntmps q lc':=by
 intro q' hq lc' hl
 rw[h0]at hq
 obtain rfl:=List.mem_singleton.1 hq
 unfold lget at hl
 split at hl
 ·cases hl;exact hg
 ·cases hl
theorem atW_eq {ws:List Nat} {k:Nat} (h:k<(elemsW ws).length):atW ws k=(elemsZ ws).getD k default:=by
 unfold atW elemsZ
 simp[List.getD_eq_getElem?_getD,h]
def rsW (ws:List Nat) (k:Nat):RS:=rsA (elemsZ ws) k
def rsT (s:RS):List ByteArray:=s.R.map runT
def kT:List Kd:=[.str]
def strS:LS where
 it:=eachIt
 g:=80
 X:=List Nat
 pre:=fun ws=>WOk ws/\(elemsW ws).length<=60
 slots:=[3,4,5]
 vals:=fun _=>[.p 100000 0 0,.p 100001 0 0,.p 100002 0 0]
 caps:=fun _=>[.p 100003 0 0]
 g0:=fun ws=>[(100000,.one .own [.sl 100005 0 0]),(100005,.rows .own kT 0 (encL encS [])),(100001,.one .own [.i .i64 (-1)]),(100002,.one .own [.i .i64 (-1)]),(100003,.one .bor [.q 100004 (szW ws)]),(100004,.rows .bor kW (szW ws) (encL encW ws))]
 g1:=fun ws=>[(100000,.one .own [.sl 1 0 (rsT (rsW ws (elemsW ws).length)).length]),(1,.rows .own kT (rsT (rsW ws (elemsW ws).length)).length (encL encS (rsT (rsW ws (elemsW ws).length)))),(100005,.dead),(100001,.one .own [.i .i64 (rsW ws (elemsW ws).length).f]),(100002,.one .own [.i .i64 (rsW ws (elemsW ws).length).l])]
 hp:=fun ws k=>[(100000,.one .own [.sl 5 0 (rsT (rsW ws k)).length]),(5,.rows .own kT (rsT (rsW ws k)).length (encL encS (rsT (rsW ws k)))),(100005,.dead),(100001,.one .own [.i .i64 (rsW ws k).f]),(100002,.one .own [.i .i64 (rsW ws k).l]),(100003,.one .bor [.q 100004 (szW ws)]),(100004,.rows .bor kW (szW ws) (encL encW ws))]
 y:=fun ws=>ws
 m:=fun ws=>(elemsW ws).length
 inn:=fun ws k id=>match id with
  |100017=>some (cutB 17 (decide ((rsW ws k).f<0∨(rsW ws k).l+1<(elemsZ ws).getD k default)))
  |_=>none
def cfgS5:Cfg:=⟨T,[],[(68,.one frC)],noInv,16,{ scp:=false }⟩
theorem conS5:ConOk Tryd.prog cfgS5:=ConL.ok (.cons (ConL.one fr_good) .nil)
theorem el_r {ws:List Nat}:∀ n∈elemsZ ws,0<=n/\n<4096:=fun n hn=>by
 have:=elemsZ_mem.1 hn
 omega
theorem rw_ok {ws:List Nat} {k:Nat} (h:k<=(elemsW ws).length):RsOk (rsW ws k) k:=rsA_ok el_r k (by rw[elemsZ_len];exact h)
theorem rw_s {ws:List Nat} {k:Nat} (h:k<(elemsW ws).length):rsW ws (k+1)=rsS (rsW ws k) ((elemsZ ws).getD k default):=rsA_s (by rw[elemsZ_len];exact h)
theorem su_a {ws:List Nat} {k:Nat} (h:k<(elemsW ws).length) (h1:(rsW ws k).f<0∨(rsW ws k).l+1<(elemsZ ws).getD k default) (h2:0<=(rsW ws k).f):rsW ws (k+1)=⟨(rsW ws k).R++[((rsW ws k).f,(rsW ws k).l)],atW ws k,atW ws k⟩:=by
 rw[rw_s h,rsS,if_pos h1,if_pos h2,atW_eq h]
theorem su_b {ws:List Nat} {k:Nat} (h:k<(elemsW ws).length) (h1:(rsW ws k).f<0∨(rsW ws k).l+1<(elemsZ ws).getD k default) (h2:¬ 0<=(rsW ws k).f):rsW ws (k+1)=⟨(rsW ws k).R,atW ws k,atW ws k⟩:=by
 rw[rw_s h,rsS,if_pos h1,if_neg h2,atW_eq h]
theorem su_c {ws:List Nat} {k:Nat} (h:k<(elemsW ws).length) (h1:¬ ((rsW ws k).f<0∨(rsW ws k).l+1<(elemsZ ws).getD k default)):rsW ws (k+1)=⟨(rsW ws k).R,(rsW ws k).f,atW ws k⟩:=by
 rw[rw_s h,rsS,if_neg h1,atW_eq h]
theorem su_l1 {ws:List Nat} {k:Nat} (h:k<(elemsW ws).length): -9223372036854775808<=(rsW ws k).l+1:=by have:=(rw_ok (Nat.le_of_lt h)).b;omega
theorem su_l2 {ws:List Nat} {k:Nat} (h:k<(elemsW ws).length):(rsW ws k).l+1<=9223372036854775807:=by have:=(rw_ok (Nat.le_of_lt h)).b;omega
theorem su_d {ws:List Nat} {k:Nat} (h:k<(elemsW ws).length) (h1:¬ (rsW ws k).f<0):decide ((rsW ws k).l+1<atW ws k)=decide ((rsW ws k).f<0∨(rsW ws k).l+1<(elemsZ ws).getD k default):=by
 rw[atW_eq h]
 exact decide_eq_decide.2 (by omega)
theorem su_p {ws:List Nat} {k:Nat} (h:k<=(elemsW ws).length) (h1:0<=(rsW ws k).f):(0<=(rsW ws k).f/\(rsW ws k).f<4096)/\(0<=(rsW ws k).l/\(rsW ws k).l<4096):=by have:=(rw_ok h).b;omega
theorem su_n {ws:List Nat} {k:Nat} (h:k<=(elemsW ws).length) (h1:(elemsW ws).length<=60):(rsT (rsW ws k)).length+1<=1073741824:=by
 have:=(rw_ok h).n
 unfold rsT
 rw[List.length_map]
 omega
theorem su_al {ws:List Nat} {k:Nat} (h:k<(elemsW ws).length) (h1:(rsW ws k).f<0∨(rsW ws k).l+1<(elemsZ ws).getD k default) (h2:0<=(rsW ws k).f):(rsT (rsW ws k)).length+1=(rsT (rsW ws (k+1))).length:=by
 rw[su_a h h1 h2]
 simp[rsT]
theorem su_ar {ws:List Nat} {k m:Nat} (hm:m<=(rsT (rsW ws k)).length+1) (h:k<(elemsW ws).length) (h1:(rsW ws k).f<0∨(rsW ws k).l+1<(elemsZ ws).getD k default) (h2:0<=(rsW ws k).f):RowsEq kT m (appRows (rsT (rsW ws k)).length (encL encS (rsT (rsW ws k))) 0 (litRows [[D.s (runT ((rsW ws k).f,(rsW ws k).l))]])) (encL encS (rsT (rsW ws (k+1)))):=by
 rw[su_a h h1 h2]
 have e:rsT ⟨(rsW ws k).R++[((rsW ws k).f,(rsW ws k).l)],atW ws k,atW ws k⟩=rsT (rsW ws k)++[runT ((rsW ws k).f,(rsW ws k).l)]:=by simp[rsT]
 rw[e]
 exact rowsEq_push rfl hm ⟨rfl,trivial⟩
theorem su_l0 {ws:List Nat}:(rsT (rsW ws 0)).length<=0:=Nat.le_refl 0
set_option maxRecDepth 100000 in
theorem str_loop:KeepsLoop cfgS5 (rf0 Tryd.f45 0).2.1.toList (rf0 Tryd.f45 0).2.2.1 (rf0 Tryd.f45 0).2.2.2 strS:=Eq.mp (show((∀ x1:List Nat,((WOk x1/\(elemsW x1).length<=(60:Nat))->((WOk x1)/\(((elemsW x1).length<=(elemsW x1).length)/\((True/\(((0=0/\0=0)/\((0=0/\0=0)/\((0=0/\0=0)/\True)))/\(((0=0/\((0:Nat)=(rsT (rsW x1 0)).length))/\True)/\(((RLe (rsT (rsW x1 0)).length 0)/\(RowsEq (Kd.str::[]) (rsT (rsW x1 0)).length (encL encS (@List.nil ByteArray)) (encL encS (rsT (rsW x1 0)))))/\(True/\(((-1=(rsW x1 0).f)/\True)/\(((-1=(rsW x1 0).l)/\True)/\(((szW x1=szW x1)/\True)/\(((RLe (szW x1) (szW x1))/\(RowsEq [.int .u64] (szW x1) (encL encW x1) (encL encW x1)))/\True)))))))))/\((∀ k3:Nat,((k3<=(elemsW x1).length)->((WOk x1)/\(((0=0/\0=0)/\True)/\((((szW x1=szW x1)/\True)/\(((RLe (szW x1) (szW x1))/\(RowsEq [.int .u64] (szW x1) (encL encW x1) (encL encW x1)))/\True))/\True)))))/\((∀ k5:Nat,((k5<(elemsW x1).length)->((Nat.beq (lenV (Value.int .i64 (atW x1 k5)::@List.nil Value)) (lenN (Array.toList (Prod.fst (Prod.snd (rf0 Tryd.f45 0)))))=true)/\((((decide ((rsW x1 k5).f<(0:Int))=false)->((((-9223372036854775808:Int)<=(rsW x1 k5).l+1)/\((rsW x1 k5).l+1<=(9223372036854775807:Int)))/\(∃ x8:Unit,(True/\((decide ((rsW x1 k5).l+1<atW x1 k5)=decide ((rsW x1 k5).f<(0:Int)∨(rsW x1 k5).l+1<(elemsZ x1).getD k5 default))/\True)))))/\((decide ((rsW x1 k5).f<(0:Int))=true)->(∃ x10:Unit,(True/\((true=decide ((rsW x1 k5).f<(0:Int)∨(rsW x1 k5).l+1<(elemsZ x1).getD k5 default))/\True)))))/\(∀ x11:Unit,(True->(((decide ((rsW x1 k5).f<(0:Int)∨(rsW x1 k5).l+1<(elemsZ x1).getD k5 default)=true)->(((decide ((0:Int)<=(rsW x1 k5).f)=true)->(∃ x15:Int × Int,(((((0:Int)<=Prod.fst x15)/\(Prod.fst x15<4096))/\(((0:Int)<=Prod.snd x15)/\(Prod.snd x15<4096)))/\((((rsW x1 k5).f=Prod.fst x15)/\(((rsW x1 k5).l=Prod.snd x15)/\True))/\(True/\(((True/\True)/\True)/\((0=0/\(((rsT (rsW x1 k5)).length<=(rsT (rsW x1 k5)).length)/\(((1:Nat)<=(1:Nat))/\((rsT (rsW x1 k5)).length+(1:Nat)<=(1073741824:Nat)))))/\(True/\(((0=0/\0=0)/\((0=0/\0=0)/\((0=0/\0=0)/\True)))/\(((0=0/\((rsT (rsW x1 k5)).length+(1:Nat)=(rsT (rsW x1 (k5+(1:Nat)))).length))/\True)/\(((RLe (rsT (rsW x1 (k5+(1:Nat)))).length ((rsT (rsW x1 k5)).length+(1:Nat)))/\(RowsEq (Kd.str::[]) (rsT (rsW x1 (k5+(1:Nat)))).length (appRows (rsT (rsW x1 k5)).length (encL encS (rsT (rsW x1 k5))) 0 (litRows ((D.s (runT x15)::@List.nil D)::@List.nil (List D)))) (encL encS (rsT (rsW x1 (k5+(1:Nat)))))))/\(True/\(((atW x1 k5=(rsW x1 (k5+(1:Nat))).f)/\True)/\(((atW x1 k5=(rsW x1 (k5+(1:Nat))).l)/\True)/\(((szW x1=szW x1)/\True)/\(((RLe (szW x1) (szW x1))/\(RowsEq [.int .u64] (szW x1) (encL encW x1) (encL encW x1)))/\True))))))))))))))))/\((decide ((0:Int)<=(rsW x1 k5).f)=false)->(True/\(((0=0/\0=0)/\((0=0/\0=0)/\((0=0/\0=0)/\True)))/\(((0=0/\((rsT (rsW x1 k5)).length=(rsT (rsW x1 (k5+(1:Nat)))).length))/\True)/\(((RLe (rsT (rsW x1 (k5+(1:Nat)))).length (rsT (rsW x1 k5)).length)/\(RowsEq (Kd.str::[]) (rsT (rsW x1 (k5+(1:Nat)))).length (encL encS (rsT (rsW x1 k5))) (encL encS (rsT (rsW x1 (k5+(1:Nat)))))))/\(True/\(((atW x1 k5=(rsW x1 (k5+(1:Nat))).f)/\True)/\(((atW x1 k5=(rsW x1 (k5+(1:Nat))).l)/\True)/\(((szW x1=szW x1)/\True)/\(((RLe (szW x1) (szW x1))/\(RowsEq [.int .u64] (szW x1) (encL encW x1) (encL encW x1)))/\True))))))))))))/\((decide ((rsW x1 k5).f<(0:Int)∨(rsW x1 k5).l+1<(elemsZ x1).getD k5 default)=false)->(True/\(((0=0/\0=0)/\((0=0/\0=0)/\((0=0/\0=0)/\True)))/\(((0=0/\((rsT (rsW x1 k5)).length=(rsT (rsW x1 (k5+(1:Nat)))).length))/\True)/\(((RLe (rsT (rsW x1 (k5+(1:Nat)))).length (rsT (rsW x1 k5)).length)/\(RowsEq (Kd.str::[]) (rsT (rsW x1 (k5+(1:Nat)))).length (encL encS (rsT (rsW x1 k5))) (encL encS (rsT (rsW x1 (k5+(1:Nat)))))))/\(True/\((((rsW x1 k5).f=(rsW x1 (k5+(1:Nat))).f)/\True)/\(((atW x1 k5=(rsW x1 (k5+(1:Nat))).l)/\True)/\(((szW x1=szW x1)/\True)/\(((RLe (szW x1) (szW x1))/\(RowsEq [.int .u64] (szW x1) (encL encW x1) (encL encW x1)))/\True)))))))))))))))))/\(((elemsW x1).length=(elemsW x1).length)/\(True/\(((0=0/\((rsT (rsW x1 (elemsW x1).length)).length=(rsT (rsW x1 (elemsW x1).length)).length))/\True)/\(((RLe (rsT (rsW x1 (elemsW x1).length)).length (rsT (rsW x1 (elemsW x1).length)).length)/\(RowsEq (Kd.str::[]) (rsT (rsW x1 (elemsW x1).length)).length (encL encS (rsT (rsW x1 (elemsW x1).length))) (encL encS (rsT (rsW x1 (elemsW x1).length)))))/\(True/\((((rsW x1 (elemsW x1).length).f=(rsW x1 (elemsW x1).length).f)/\True)/\((((rsW x1 (elemsW x1).length).l=(rsW x1 (elemsW x1).length).l)/\True)/\True)))))))))))))))=(KeepsLoop cfgS5 (rf0 Tryd.f45 0).2.1.toList (rf0 Tryd.f45 0).2.2.1 (rf0 Tryd.f45 0).2.2.2 strS) by kernel_rfl) (fun x1=>fun h2=>⟨(by grind),
(by omega),
⟨trivial,
⟨⟨rfl,rfl⟩,
⟨rfl,rfl⟩,
⟨rfl,rfl⟩,trivial⟩,
⟨⟨rfl,
(by rfl)⟩,trivial⟩,
⟨⟨(by exact su_l0)⟩,
(by exact rr)⟩,trivial,
⟨(by rfl),trivial⟩,
⟨(by rfl),trivial⟩,
⟨rfl,trivial⟩,
⟨rl,rr⟩,trivial⟩,
fun k3=>fun h4=>⟨(by grind),
⟨⟨rfl,rfl⟩,trivial⟩,
⟨⟨rfl,trivial⟩,
⟨rl,rr⟩,trivial⟩,trivial⟩,
fun k5=>fun h6=>⟨(by rfl),
⟨fun g7=>have h7:=dF g7;⟨⟨(by exact su_l1 h6),
(by exact su_l2 h6)⟩,
(default),trivial,
(by(try dsimp only at *);exact su_d h6 h7),trivial⟩,
fun g9=>have h9:=dT g9;⟨(default),trivial,
(by(try dsimp only at *);grind),trivial⟩⟩,
fun x11=>fun h12=>⟨fun g13=>have h13:=dT g13;⟨fun g14=>have h14:=dT g14;⟨((RS.f (rsW x1 k5),RS.l (rsW x1 k5))),
⟨⟨(by(try dsimp only at *);omega),
(by(try dsimp only at *);exact(su_p (Nat.le_of_lt h6) ‹_›).1.2)⟩,
(by(try dsimp only at *);exact(su_p (Nat.le_of_lt h6) ‹_›).2.1),
(by(try dsimp only at *);exact(su_p (Nat.le_of_lt h6) ‹_›).2.2)⟩,
⟨rfl,rfl,trivial⟩,trivial,
⟨⟨trivial,trivial⟩,trivial⟩,
⟨rfl,
(by(try dsimp only at *);omega),
(by(try dsimp only at *);omega),
(by(try dsimp only at *);exact su_n (Nat.le_of_lt h6) h2.2)⟩,trivial,
⟨⟨rfl,rfl⟩,
⟨rfl,rfl⟩,
⟨rfl,rfl⟩,trivial⟩,
⟨⟨rfl,
(by(try dsimp only at *);exact su_al h6 h13 h14)⟩,trivial⟩,
⟨⟨(by(try dsimp only at *);exact Nat.le_of_eq (su_al h6 h13 h14).symm)⟩,
(by(try dsimp only at *);exact su_ar (Nat.le_of_eq (su_al h6 h13 h14).symm) h6 h13 h14)⟩,trivial,
⟨(by(try dsimp only at *);(rw[su_a h6 h13 h14])),trivial⟩,
⟨(by(try dsimp only at *);(rw[su_a h6 h13 h14])),trivial⟩,
⟨rfl,trivial⟩,
⟨rl,rr⟩,trivial⟩,
fun g16=>have h16:=dF g16;⟨trivial,
⟨⟨rfl,rfl⟩,
⟨rfl,rfl⟩,
⟨rfl,rfl⟩,trivial⟩,
⟨⟨rfl,
(by(try dsimp only at *);(rw[su_b h6 h13 h16];rfl))⟩,trivial⟩,
⟨⟨(by(try dsimp only at *);(rw[su_b h6 h13 h16];exact Nat.le_refl _))⟩,
(by(try dsimp only at *);(rw[su_b h6 h13 h16];exact rr))⟩,trivial,
⟨(by(try dsimp only at *);(rw[su_b h6 h13 h16])),trivial⟩,
⟨(by(try dsimp only at *);(rw[su_b h6 h13 h16])),trivial⟩,
⟨rfl,trivial⟩,
⟨rl,rr⟩,trivial⟩⟩,
fun g17=>have h17:=dF g17;⟨trivial,
⟨⟨rfl,rfl⟩,
⟨rfl,rfl⟩,
⟨rfl,rfl⟩,trivial⟩,
⟨⟨rfl,
(by(try dsimp only at *);(rw[su_c h6 h17];rfl))⟩,trivial⟩,
⟨⟨(by(try dsimp only at *);(rw[su_c h6 h17];exact Nat.le_refl _))⟩,
(by(try dsimp only at *);(rw[su_c h6 h17];exact rr))⟩,trivial,
⟨(by(try dsimp only at *);(rw[su_c h6 h17])),trivial⟩,
⟨(by(try dsimp only at *);(rw[su_c h6 h17])),trivial⟩,
⟨rfl,trivial⟩,
⟨rl,rr⟩,trivial⟩⟩⟩,rfl,trivial,
⟨⟨rfl,rfl⟩,trivial⟩,
⟨rl,rr⟩,trivial,
⟨rfl,trivial⟩,
⟨rfl,trivial⟩,trivial⟩)
theorem strLoop_good:LoopGood Tryd.prog Tryd.f45.ntmps (rf0 Tryd.f45 0) strS.lc:=loop_good tok conS5 ⟨rfl,rfl,rfl⟩ each_good (by decide+kernel) str_loop
def strC:CT where
 X:=List Nat
 pre:=fun ws=>WOk ws/\(elemsW ws).length<=60
 args:=fun ws=>[setV ws 100000]
 g0:=fun ws=>setH ws .bor 100000
 res:=fun ws=>.s (strW ws)
 g1:=fun _=>[]
def cfgS6:Cfg:=⟨T,[],[(67,.one eachC),(68,.one frC),(47,.one joC)],noInv,16,{ lps:=[(9,strS.lc)]}⟩
theorem conS6:ConOk Tryd.prog cfgS6:=ConL.ok (.cons (ConL.one eachC_good) (.cons (ConL.one fr_good) (.cons (ConL.one jo_good) .nil)))
theorem st_e (ws:List Nat):rsF (rsW ws (elemsW ws).length)=runsL (elemsZ ws):=by
 unfold rsW
 rw[<- elemsZ_len]
 exact rsA_t _
theorem st_y {ws:List Nat} (h:0<=(rsW ws (elemsW ws).length).f):rsT (rsW ws (elemsW ws).length)++[runT ((rsW ws (elemsW ws).length).f,(rsW ws (elemsW ws).length).l)]=(runsL (elemsZ ws)).map runT:=by
 rw[<- st_e,rsF,if_pos h]
 simp[rsT]
theorem st_n {ws:List Nat} (h:¬ 0<=(rsW ws (elemsW ws).length).f):rsT (rsW ws (elemsW ws).length)=(runsL (elemsZ ws)).map runT:=by
 rw[<- st_e,rsF,if_neg h]
 rfl
theorem st_yl {ws:List Nat} (h:0<=(rsW ws (elemsW ws).length).f):(rsT (rsW ws (elemsW ws).length)).length+1=((runsL (elemsZ ws)).map runT).length:=by
 rw[<- st_y h]
 simp
theorem st_yr {ws:List Nat} (h:0<=(rsW ws (elemsW ws).length).f) {m:Nat} (hm:m<=(rsT (rsW ws (elemsW ws).length)).length+1):RowsEq kT m (appRows (rsT (rsW ws (elemsW ws).length)).length (encL encS (rsT (rsW ws (elemsW ws).length))) 0 (litRows [[D.s (runT ((rsW ws (elemsW ws).length).f,(rsW ws (elemsW ws).length).l))]])) (encL encS ((runsL (elemsZ ws)).map runT)):=by
 rw[<- st_y h]
 exact rowsEq_push rfl hm ⟨rfl,trivial⟩
theorem st_b {ws:List Nat} (h:(elemsW ws).length<=60):((runsL (elemsZ ws)).map runT).length<=1000/\(joiS ((runsL (elemsZ ws)).map runT) ⟨#[44]⟩).size<=1000000:=by
 have h1:=(runsL_ok (el_r (ws:=ws))).2
 have h2:=setS_size (el_r (ws:=ws)) (by rw[elemsZ_len];exact h)
 rw[elemsZ_len]at h1
 unfold setS at h2
 rw[List.length_map]
 exact⟨by omega,by omega⟩
theorem st_nb {ws:List Nat} (h:(elemsW ws).length<=60) (h1:¬ 0<=(rsW ws (elemsW ws).length).f):(rsT (rsW ws (elemsW ws).length)).length<=1000/\(joiS (rsT (rsW ws (elemsW ws).length)) ⟨#[44]⟩).size<=1000000:=by
 rw[st_n h1]
 exact st_b h
set_option maxRecDepth 100000 in
theorem str_keeps:Keeps cfgS6 Tryd.f45 strC noIv:=Eq.mp (show((∀ x1:List Nat,((WOk x1/\(elemsW x1).length<=(60:Nat))->(∃ x3:List Nat,((WOk x3)/\((((szW x1=szW x3)/\True)/\True)/\((((RLe (szW x3) (szW x1))/\(RowsEq [.int .u64] (szW x3) (encL encW x1) (encL encW x3)))/\True)/\(∃ x4:List Nat,(((WOk x4)/\((elemsW x4).length<=(60:Nat)))/\(((0=0/\0=0)/\((0=0/\0=0)/\((0=0/\0=0)/\(((0=0/\0=0)/\True)/\True))))/\((((True/\(0=0/\0=0))/\True)/\(0=0/\((((-1:Int)= -1)/\True)/\((((-1:Int)= -1)/\True)/\(((szW x3=szW x4)/\True)/\(((RLe (szW x4) (szW x1))/\(RowsEq [.int .u64] (szW x4) (encL encW x1) (encL encW x4)))/\True))))))/\(((decide ((0:Int)<=(rsW x4 (elemsW x4).length).f)=true)->(∃ x6:Int × Int,(((((0:Int)<=Prod.fst x6)/\(Prod.fst x6<4096))/\(((0:Int)<=Prod.snd x6)/\(Prod.snd x6<4096)))/\((((rsW x4 (elemsW x4).length).f=Prod.fst x6)/\(((rsW x4 (elemsW x4).length).l=Prod.snd x6)/\True))/\(True/\(((True/\True)/\True)/\((0=0/\(((rsT (rsW x4 (elemsW x4).length)).length<=(rsT (rsW x4 (elemsW x4).length)).length)/\(((1:Nat)<=(1:Nat))/\((rsT (rsW x4 (elemsW x4).length)).length+(1:Nat)<=(1073741824:Nat)))))/\(∃ x7:List ByteArray × ByteArray,((((Prod.fst x7).length<=(1000:Nat))/\(ByteArray.size (joiS (Prod.fst x7) (Prod.snd x7))<=(1000000:Nat)))/\(((0=0/\((rsT (rsW x4 (elemsW x4).length)).length+(1:Nat)=(Prod.fst x7).length))/\(((ByteArray.mk (List.toArray ((44:UInt8)::@List.nil UInt8)))=Prod.snd x7)/\True))/\((((RLe (Prod.fst x7).length ((rsT (rsW x4 (elemsW x4).length)).length+(1:Nat)))/\(RowsEq (Kd.str::[]) (Prod.fst x7).length (appRows (rsT (rsW x4 (elemsW x4).length)).length (encL encS (rsT (rsW x4 (elemsW x4).length))) 0 (litRows ((D.s (runT x6)::@List.nil D)::@List.nil (List D)))) (encL encS (Prod.fst x7))))/\True)/\((joiS (Prod.fst x7) (Prod.snd x7)=strW x1)/\True))))))))))))/\((decide ((0:Int)<=(rsW x4 (elemsW x4).length).f)=false)->(∃ x9:List ByteArray × ByteArray,((((Prod.fst x9).length<=(1000:Nat))/\(ByteArray.size (joiS (Prod.fst x9) (Prod.snd x9))<=(1000000:Nat)))/\(((0=0/\((rsT (rsW x4 (elemsW x4).length)).length=(Prod.fst x9).length))/\(((ByteArray.mk (List.toArray ((44:UInt8)::@List.nil UInt8)))=Prod.snd x9)/\True))/\((((RLe (Prod.fst x9).length (rsT (rsW x4 (elemsW x4).length)).length)/\(RowsEq (Kd.str::[]) (Prod.fst x9).length (encL encS (rsT (rsW x4 (elemsW x4).length))) (encL encS (Prod.fst x9))))/\True)/\((joiS (Prod.fst x9) (Prod.snd x9)=strW x1)/\True))))))))))))))))))=(Keeps cfgS6 Tryd.f45 strC noIv) by kernel_rfl) (fun x1=>fun h2=>⟨(x1),
(by(try dsimp only at *);grind),
⟨⟨rfl,trivial⟩,trivial⟩,
⟨⟨rl,rr⟩,trivial⟩,
(x1),
⟨(by(try dsimp only at *);grind),
(by(try dsimp only at *);omega)⟩,
⟨⟨rfl,rfl⟩,
⟨rfl,rfl⟩,
⟨rfl,rfl⟩,
⟨⟨rfl,rfl⟩,trivial⟩,trivial⟩,
⟨⟨⟨trivial,rfl,rfl⟩,trivial⟩,rfl,
⟨rfl,trivial⟩,
⟨rfl,trivial⟩,
⟨rfl,trivial⟩,
⟨rl,rr⟩,trivial⟩,
fun g5=>have h5:=dT g5;⟨((RS.f (rsW x1 (List.length (elemsW x1))),RS.l (rsW x1 (List.length (elemsW x1))))),
⟨⟨(by(try dsimp only at *);omega),
(by(try dsimp only at *);exact(su_p (Nat.le_refl _) h5).1.2)⟩,
(by(try dsimp only at *);exact(su_p (Nat.le_refl _) h5).2.1),
(by(try dsimp only at *);exact(su_p (Nat.le_refl _) h5).2.2)⟩,
⟨rfl,rfl,trivial⟩,trivial,
⟨⟨trivial,trivial⟩,trivial⟩,
⟨rfl,
(by(try dsimp only at *);omega),
(by(try dsimp only at *);omega),
(by(try dsimp only at *);exact su_n (Nat.le_refl _) h2.2)⟩,
((List.map runT (runsL (elemsZ x1)),{ data:=List.toArray ((44:UInt8)::@List.nil UInt8):ByteArray })),
⟨(by(try dsimp only at *);exact(st_b h2.2).1),
(by(try dsimp only at *);exact(st_b h2.2).2)⟩,
⟨⟨rfl,
(by(try dsimp only at *);exact st_yl h5)⟩,rfl,trivial⟩,
⟨⟨⟨(by(try dsimp only at *);exact Nat.le_of_eq (st_yl h5).symm)⟩,
(by(try dsimp only at *);exact st_yr h5 (Nat.le_of_eq (st_yl h5).symm))⟩,trivial⟩,
(by(try dsimp only at *);rfl),trivial⟩,
fun g8=>have h8:=dF g8;⟨((rsT (rsW x1 (List.length (elemsW x1))),{ data:=List.toArray ((44:UInt8)::@List.nil UInt8):ByteArray })),
⟨(by(try dsimp only at *);exact(st_nb h2.2 h8).1),
(by(try dsimp only at *);exact(st_nb h2.2 h8).2)⟩,
⟨⟨rfl,rfl⟩,rfl,trivial⟩,
⟨⟨rl,rr⟩,trivial⟩,
(by(try dsimp only at *);exact congrArg (fun l=>joiS l ⟨#[44]⟩) (st_n h8)),trivial⟩⟩)
theorem str_good:Good Tryd.prog 45 strC/\FnOk Tryd.prog 45:=good_ofX tok conS6 (fn:=Tryd.f45) rfl (by decide+kernel) (fun _=>rfl) str_keeps (fun g hg=>by cases hg) (one_loop rfl strLoop_good)
end Go.Sym