import Derived.Test.YtfflknhillcblaaDoorX1
import Derived.Test.YtfflknhillcblaaDoorJ0
import Derived.Test.YtfflknhillcblaaDoorXD
namespace Go.Sym
set_option linter.unusedVariables false
set_option linter.unusedSimpArgs false
open Go.Proofs
set_option maxRecDepth 100000
set_option maxHeartbeats 4000000
def minW (ws:List Nat):Int:=(elemsZ ws).getD 0 default
def minS:LS where
 it:=eachIt
 g:=54
 X:=List Nat
 pre:=WOk
 slots:=[2,3]
 vals:=fun _=>[.p 100000 0 0,.p 100001 0 0]
 caps:=fun _=>[.p 100003 0 0]
 g0:=fun ws=>[(100000,.one .own [.i .i64 0]),(100001,.one .own [.bt false]),(100003,.one .bor [.q 100004 (szW ws)]),(100004,.rows .bor kW (szW ws) (encL encW ws))]
 g1:=fun ws=>[(100000,.one .own [.i .i64 (minW ws)]),(100001,.one .own [.b (decide (0<(elemsW ws).length))])]
 hp:=fun ws _=>[(100000,.one .own [.i .i64 0]),(100001,.one .own [.bt false]),(100003,.one .bor [.q 100004 (szW ws)]),(100004,.rows .bor kW (szW ws) (encL encW ws))]
 y:=fun ws=>ws
 m:=fun _=>0
 jmp:=.ret
 stops:=fun ws=>decide (0<(elemsW ws).length)
theorem minW_no {ws:List Nat} (h:¬ 0<(elemsW ws).length):minW ws=0:=by
 unfold minW elemsZ
 rw[List.eq_nil_of_length_eq_zero (l:=elemsW ws) (by omega)];rfl
set_option maxRecDepth 100000 in
theorem min_loop:KeepsLoop cfgL (rf0 Tryd.f48 0).2.1.toList (rf0 Tryd.f48 0).2.2.1 (rf0 Tryd.f48 0).2.2.2 minS:=Eq.mp (show((∀ x1:List Nat,((WOk x1)->((WOk x1)/\(((0:Nat)<=(elemsW x1).length)/\((True/\(((0=0/\0=0)/\((0=0/\0=0)/\True))/\((((0:Int)=0)/\True)/\((false=false/\True)/\(((szW x1=szW x1)/\True)/\(((RLe (szW x1) (szW x1))/\(RowsEq [.int .u64] (szW x1) (encL encW x1) (encL encW x1)))/\True))))))/\((∀ k3:Nat,((k3<=(0:Nat))->((WOk x1)/\(((0=0/\0=0)/\True)/\((((szW x1=szW x1)/\True)/\(((RLe (szW x1) (szW x1))/\(RowsEq [.int .u64] (szW x1) (encL encW x1) (encL encW x1)))/\True))/\True)))))/\((∀ k5:Nat,((k5<(0:Nat))->((Nat.beq (lenV (Value.int .i64 (atW x1 k5)::@List.nil Value)) (lenN (Array.toList (Prod.fst (Prod.snd (rf0 Tryd.f48 0)))))=true)/\(False))))/\(((decide (0<(elemsW x1).length)=false)->(((0:Nat)=(elemsW x1).length)/\(True/\((((0:Int)=minW x1)/\True)/\(((false=decide (0<(elemsW x1).length))/\True)/\True)))))/\((decide (0<(elemsW x1).length)=true)->((0<(elemsW x1).length)/\((Nat.beq (lenV (Value.int .i64 (atW x1 0)::@List.nil Value)) (lenN (Array.toList (Prod.fst (Prod.snd (rf0 Tryd.f48 0)))))=true)/\(True/\(((atW x1 0=minW x1)/\True)/\(((true=decide (0<(elemsW x1).length))/\True)/\True)))))))))))))))=(KeepsLoop cfgL (rf0 Tryd.f48 0).2.1.toList (rf0 Tryd.f48 0).2.2.1 (rf0 Tryd.f48 0).2.2.2 minS) by kernel_rfl) (fun x1=>fun h2=>⟨(by omega),
(by omega),
⟨trivial,
⟨⟨rfl,rfl⟩,
⟨rfl,rfl⟩,trivial⟩,
⟨rfl,trivial⟩,
⟨rfl,trivial⟩,
⟨rfl,trivial⟩,
⟨rl,rr⟩,trivial⟩,
fun k3=>fun h4=>⟨(by omega),
⟨⟨rfl,rfl⟩,trivial⟩,
⟨⟨rfl,trivial⟩,
⟨rl,rr⟩,trivial⟩,trivial⟩,
fun k5=>fun h6=>⟨(by omega),
(by omega)⟩,
fun g7=>have h7:=dF g7;⟨(by omega),trivial,
⟨(by exact(minW_no h7).symm),trivial⟩,
⟨(by grind),trivial⟩,trivial⟩,
fun g8=>have h8:=dT g8;⟨(by omega),
(by rfl),trivial,
⟨(by exact atW_eq h8),trivial⟩,
⟨(by grind),trivial⟩,trivial⟩⟩)
theorem minLoop_good:LoopGood Tryd.prog Tryd.f48.ntmps (rf0 Tryd.f48 0) minS.lc:=loop_good tok (ConL.ok .nil) ⟨rfl,rfl,rfl⟩ each_good (by decide+kernel) min_loop
def minC:CT where
 X:=List Nat
 pre:=WOk
 args:=fun ws=>[setV ws 100000]
 g0:=fun ws=>setH ws .bor 100000
 res:=fun ws=>.tup [.i .i64 (minW ws),.b (decide (0<(elemsW ws).length))]
 g1:=fun _=>[]
def cfgMn:Cfg:=⟨T,[],[(40,.one eachC)],noInv,16,{ lps:=[(7,minS.lc)]}⟩
theorem conMn:ConOk Tryd.prog cfgMn:=ConL.ok (.cons (ConL.one eachC_good) .nil)
set_option maxRecDepth 100000 in
theorem min_keeps:Keeps cfgMn Tryd.f48 minC noIv:=Eq.mp (show((∀ x1:List Nat,((WOk x1)->(∃ x3:List Nat,((WOk x3)/\((((szW x1=szW x3)/\True)/\True)/\((((RLe (szW x3) (szW x1))/\(RowsEq [.int .u64] (szW x3) (encL encW x1) (encL encW x3)))/\True)/\(∃ x4:LS.X minS,((WOk x4)/\(((0=0/\0=0)/\((0=0/\0=0)/\(((0=0/\0=0)/\True)/\True)))/\(((((0:Int)=0)/\True)/\((false=false/\True)/\(((szW x3=szW x4)/\True)/\(((RLe (szW x4) (szW x1))/\(RowsEq [.int .u64] (szW x4) (encL encW x1) (encL encW x4)))/\True))))/\(((decide (0<(elemsW x4).length)=true)->(((minW x4=minW x1)/\((decide (0<(elemsW x4).length)=decide (0<(elemsW x1).length))/\True))/\True))/\((decide (0<(elemsW x4).length)=false)->((((0:Int)=minW x1)/\((false=decide (0<(elemsW x1).length))/\True))/\True))))))))))))))=(Keeps cfgMn Tryd.f48 minC noIv) by kernel_rfl) (fun x1=>fun h2=>⟨(x1),
(by(try dsimp only at *);omega),
⟨⟨rfl,trivial⟩,trivial⟩,
⟨⟨rl,rr⟩,trivial⟩,
(x1),
(by(try dsimp only at *);omega),
⟨⟨rfl,rfl⟩,
⟨rfl,rfl⟩,
⟨⟨rfl,rfl⟩,trivial⟩,trivial⟩,
⟨⟨rfl,trivial⟩,
⟨rfl,trivial⟩,
⟨rfl,trivial⟩,
⟨rl,rr⟩,trivial⟩,
fun g5=>have h5:=dT g5;⟨⟨rfl,rfl,trivial⟩,trivial⟩,
fun g6=>have h6:=dF g6;⟨⟨(by(try dsimp only at *);exact(minW_no h6).symm),
(by(try dsimp only at *);grind),trivial⟩,trivial⟩⟩)
theorem min_good:Good Tryd.prog 48 minC/\FnOk Tryd.prog 48:=good_ofX tok conMn (fn:=Tryd.f48) rfl (by decide+kernel) (fun _=>rfl) min_keeps (fun g hg=>by cases hg) (one_loop rfl minLoop_good)
theorem minW_rng (ws:List Nat):0<=minW ws/\minW ws<4096:=by
 unfold minW elemsZ
 cases h:elemsW ws with
 |nil=>exact⟨by decide,by decide⟩
 |cons a r=>
  have q:=(elemsW_mem (ws:=ws) (k:=a)).1 (by rw[h];simp)
  exact⟨by show 0<=((a:Nat):Int);omega,by show((a:Nat):Int)<4096;omega⟩
def ucsC:CT where
 X:=TwoX
 pre:=fun x=>WOk x.a/\WOk x.b
 args:=fun x=>[setV x.a 100000,setV x.b 100001]
 g0:=fun x=>setH x.a .bor 100000++setH x.b .bor 100001
 res:=fun x=>.i .i64 (minW x.a-minW x.b)
 g1:=fun _=>[]
def cfgUc:Cfg:=⟨T,[],[(48,.one minC)],noInv,30,{}⟩
theorem conUc:ConOk Tryd.prog cfgUc:=ConL.ok (.cons (ConL.one min_good) .nil)
set_option maxRecDepth 100000 in
theorem ucs_keeps:Keeps cfgUc Tryd.f47 ucsC noIv:=Eq.mp (show((∀ x1:TwoX,((WOk x1.a/\WOk x1.b)->(∃ x3:List Nat,((WOk x3)/\((((szW x1.a=szW x3)/\True)/\True)/\((((RLe (szW x3) (szW x1.a))/\(RowsEq [.int .u64] (szW x3) (encL encW x1.a) (encL encW x3)))/\True)/\(∃ x4:List Nat,((WOk x4)/\((((szW x1.b=szW x4)/\True)/\True)/\((((RLe (szW x4) (szW x1.b))/\(RowsEq [.int .u64] (szW x4) (encL encW x1.b) (encL encW x4)))/\True)/\((((-9223372036854775808:Int)<=minW x3-minW x4)/\(minW x3-minW x4<=(9223372036854775807:Int)))/\((minW x3-minW x4=minW x1.a-minW x1.b)/\True)))))))))))))=(Keeps cfgUc Tryd.f47 ucsC noIv) by kernel_rfl) (fun x1=>fun h2=>⟨(TwoX.a x1),
(by(try dsimp only at *);grind),
⟨⟨rfl,trivial⟩,trivial⟩,
⟨⟨rl,rr⟩,trivial⟩,
(TwoX.b x1),
(by(try dsimp only at *);grind),
⟨⟨rfl,trivial⟩,trivial⟩,
⟨⟨rl,rr⟩,trivial⟩,
⟨(by(try dsimp only at *);(have:=minW_rng x1.a;have:=minW_rng x1.b;omega)),
(by(try dsimp only at *);(have:=minW_rng x1.a;have:=minW_rng x1.b;omega))⟩,rfl,trivial⟩)
theorem ucs_good:Good Tryd.prog 47 ucsC/\FnOk Tryd.prog 47:=good_of tok conUc (fn:=Tryd.f47) rfl (by decide+kernel) (fun _=>rfl) ucs_keeps
theorem mem_setG {α:Type} {l:List α} {i:Nat} {a x:α} (h:x∈l.set i a):x=a∨x∈l:=by
 rcases List.mem_or_eq_of_mem_set h with q|q
 ·exact .inr q
 ·exact .inl q
section
variable {α:Type} [Inhabited α]
def swpG (l:List α) (j:Nat):List α:=(l.set j (l.getD (j-1) default)).set (j-1) (l.getD j default)
def bubG (lt:α->α->Bool):Nat->List α->List α
 |0,l=>l
 |j+1,l=>if lt (l.getD (j+1) default) (l.getD j default)=true then bubG lt j (swpG l (j+1))else l
def insAtG (lt:α->α->Bool) (l:List α) (i:Nat):List α:=(List.range (i-1)).foldl (fun l k=>bubG lt (k+1) l) l
def insG (lt:α->α->Bool) (l:List α):List α:=insAtG lt l l.length
theorem insAtG_succ (lt:α->α->Bool) (l:List α) {i:Nat} (h:1<=i):insAtG lt l (i+1)=bubG lt i (insAtG lt l i):=by
 unfold insAtG
 obtain⟨j,rfl⟩:∃ j,i=j+1:=⟨i-1,by omega⟩
 rw[Nat.add_sub_cancel,Nat.add_sub_cancel,List.range_succ,List.foldl_append];rfl
theorem swpG_len (l:List α) (j:Nat):(swpG l j).length=l.length:=by simp[swpG]
theorem bubG_len (lt:α->α->Bool):∀(j:Nat) (l:List α),(bubG lt j l).length=l.length
 |0,_=>rfl
 |j+1,l=>by
  unfold bubG;split
  ·rw[bubG_len lt j,swpG_len]
  ·rfl
theorem getD_inG {l:List α} {j:Nat} (h:j<l.length):l.getD j default∈l:=by
 rw[List.getD_eq_getElem?_getD,List.getElem?_eq_getElem h];exact List.getElem_mem _
theorem swpG_mem {l:List α} {j:Nat} (h:j<l.length) {x:α} (hx:x∈swpG l j):x∈l:=by
 unfold swpG at hx
 rcases mem_setG hx with rfl|hx
 ·exact getD_inG h
 ·rcases mem_setG hx with rfl|hx
  ·exact getD_inG (by omega)
  ·exact hx
theorem bubG_mem (lt:α->α->Bool):∀(j:Nat) (l:List α),j<l.length->∀ x∈bubG lt j l,x∈l
 |0,_,_,_,hx=>hx
 |j+1,l,h,x,hx=>by
  unfold bubG at hx;split at hx
  ·exact swpG_mem h (bubG_mem lt j _ (by rw[swpG_len];omega) x hx)
  ·exact hx
theorem insAtG_len (lt:α->α->Bool) (l:List α):∀ i,(insAtG lt l i).length=l.length
 |0=>rfl
 |1=>rfl
 |i+2=>by rw[insAtG_succ lt l (by omega:1<=i+1),bubG_len,insAtG_len lt l (i+1)]
theorem insAtG_mem (lt:α->α->Bool) (l:List α):∀ i,i<=l.length->∀ x∈insAtG lt l i,x∈l
 |0,_,_,hx=>hx
 |1,_,_,hx=>hx
 |i+2,h,x,hx=>by
  rw[insAtG_succ lt l (by omega:1<=i+1)]at hx
  exact insAtG_mem lt l (i+1) (by omega) x (bubG_mem lt (i+1) _ (by rw[insAtG_len];omega) x hx)
theorem bubG_stop {lt:α->α->Bool} {j:Nat} {l:List α} (h:¬ (0<(j:Int)/\lt (l.getD j default) (l.getD (j-1) default)=true)):bubG lt j l=l:=by
 cases j with
 |zero=>rfl
 |succ j=>unfold bubG;rw[if_neg (show ¬ lt (l.getD (j+1) default) (l.getD j default)=true from fun q=>h ⟨by omega,q⟩)]
theorem bubG_go {lt:α->α->Bool} {j:Nat} {l:List α} (h0:0<j) (h:lt (l.getD j default) (l.getD (j-1) default)=true):bubG lt (j-1) (swpG l j)=bubG lt j l:=by
 cases j with
 |zero=>omega
 |succ j=>
  have h:lt (l.getD (j+1) default) (l.getD j default)=true:=h
  conv=>rhs;unfold bubG
  rw[if_pos h];rfl
end
def kSt:List Kd:=[.pt 64 kW]
def encSt (ws:List Nat):Nat->D:=encN [.l (szW ws) (encL encW ws)]
def ltS (a b:List Nat):Bool:=decide (minW a-minW b<0)
structure SySok (l:List (List Nat)):Prop where
 len:l.length<=12
 w:∀ ws∈l,WOk ws
def sySA:SV:=.fn 47 []
def sySH (l:List (List Nat)):List (Nat × Blk):=[(100000,.rows .own kSt l.length (encL encSt l))]
def sySR (l:List (List Nat)):List (Nat × Blk):=[(100000,.rows .own kSt l.length (encL encSt (insG ltS l)))]
structure JS where
 j:Nat
 l:List (List Nat)
structure JSok (x:List (List Nat)) (i:Nat) (s:JS):Prop where
 j:s.j<=i
 len:s.l.length=x.length
 w:∀ ws∈s.l,WOk ws
 eq:bubG ltS s.j s.l=bubG ltS i (insAtG ltS x i)
def sySI (x:List (List Nat)) (id:Nat):Option Inv:=match id with
 | 0 => some { X := Nat, ok := fun i => 1 <= i /\ (i <= x.length ∨ i = 1), fr := fun i => [(8, .i .i64 i)], hp := fun i => [(100000, .rows .own kSt x.length (encL encSt (insAtG ltS x i)))], me := fun i => x.length - i,
               inn:=fun i id=>match id with
                |2=>some { X:=JS,ok:=fun s=>JSok x i s,fr:=fun s=>[(9,.i .i64 s.j)],hp:=fun s=>[(100000,.rows .own kSt x.length (encL encSt s.l))],me:=fun s=>s.j }
                |_=>none }
 |_=>none
def sysiC:CT where
 X:=List (List Nat)
 pre:=SySok
 args:=fun x=>[.sl 100000 0 x.length,.i .i64 0,.i .i64 x.length,sySA]
 g0:=sySH
 res:=fun _=>.tup []
 g1:=sySR
theorem sys_start {x:List (List Nat)} (h:SySok x) {i:Nat} (h1:1<=i) (h2:(i:Int)<x.length):JSok x i ⟨i,insAtG ltS x i⟩:=
 ⟨Nat.le_refl _,insAtG_len _ _ _,fun v hv=>h.w v (insAtG_mem _ _ i (by omega) v hv),rfl⟩
theorem JSok.at {x:List (List Nat)} {i:Nat} {s:JS} (h:JSok x i s) {k:Nat} (hk:k<x.length):WOk (s.l.getD k default):=h.w _ (getD_inG (by rw[h.len];exact hk))
theorem sys_step {x:List (List Nat)} {i:Nat} {s:JS} (h:JSok x i s) (hi:(i:Int)<x.length) (h0:0<(s.j:Int)) (hc:minW (s.l.getD s.j default)-minW (s.l.getD (s.j-1) default)<0):JSok x i ⟨s.j-1,swpG s.l s.j⟩:=by
 have hj:=h.j
 refine⟨by show s.j-1<=i;omega,by show(swpG s.l s.j).length=_;rw[swpG_len];exact h.len,fun v hv=>h.w v (swpG_mem (by rw[h.len];omega) hv),?_⟩
 rw[<- h.eq]
 exact bubG_go (by omega) (decide_eq_true hc)
theorem sys_stop {x:List (List Nat)} {i:Nat} {s:JS} (h:JSok x i s) (hi:1<=i) (hn:¬ (0<(s.j:Int)/\minW (s.l.getD s.j default)-minW (s.l.getD (s.j-1) default)<0)):s.l=insAtG ltS x (i+1):=by
 rw[insAtG_succ _ _ hi,<- h.eq]
 exact(bubG_stop fun q=>hn ⟨q.1,of_decide_eq_true q.2⟩).symm
theorem sys_end {x:List (List Nat)} {i:Nat} (h:1<=i/\(i<=x.length∨i=1)) (h2:¬ (i:Int)<x.length):insAtG ltS x i=insG ltS x:=by
 unfold insG
 rcases h.2 with q|q
 ·rw[show i=x.length by omega]
 ·subst q
  rcases(show x.length=0∨x.length=1 by omega)with e|e <;>rw[e] <;>rfl
def cfgSy:Cfg:=⟨T,[],[(47,.one ucsC)],noInv,60,{}⟩
theorem conSy:ConOk Tryd.prog cfgSy:=ConL.ok (.cons (ConL.one ucs_good) .nil)
theorem toNp (j:Nat):((j:Int)-1).toNat=j-1:=by omega
theorem swpS_rows {l:List (List Nat)} {j n:Nat} (hn:n=l.length) (h:j<n) (h0:0<(j:Int)):RowsEq kSt n (setRow (setRow (encL encSt l) j 0 [.l (szW (l.getD (j-1) default)) (encL encW (l.getD (j-1) default))]) (j-1) 0 [.l (szW (l.getD j default)) (encL encW (l.getD j default))]) (encL encSt (swpG l j)):=by
 have e:∀(g:Nat->D) (ws:List Nat),rowEq kSt (putD g 0 [.l (szW ws) (encL encW ws)]) (encSt ws) 0:=fun g ws=>by
  simp only[rowEq,kSt];exact⟨Kd.eqv_rfl _ _,trivial⟩
 exact rowsEq_setOf (rowsEq_set (by omega) (e _ _)) (by omega) (by rw[List.length_set];omega) (e _ _)
theorem sz_or (ws:List Nat):szW ws=0∨szW ws=64/\64=szW ws:=by unfold szW;split <;>simp
set_option maxRecDepth 100000 in
theorem sysi_keeps:Keeps cfgSy Tryd.f59 sysiC sySI:=Eq.mp (show((∀ x1:List (List Nat),((SySok x1)->((((-9223372036854775808:Int)<=(0:Int)+1)/\((0:Int)+1<=(9223372036854775807:Int)))/\(∃ x3:Nat,(((((1:Nat)<=x3)/\(x3<=x1.length∨x3=(1:Nat)))/\((((0:Int)+1=(x3:Int))/\(((0:Int)+1=0+1)/\(((0:Int)=0)/\((0=0/\x1.length=x1.length)/\(((0:Int)=0)/\(((x1.length:Int)=(x1.length:Int))/\(True/\True)))))))/\(((RLe x1.length x1.length)/\(RowsEq (Kd.pt 64 [.int .u64]::[]) x1.length (encL encSt x1) (encL encSt (insAtG ltS x1 x3))))/\True)))/\(∀ x4:Nat,(((1:Nat)<=x4/\(x4<=x1.length∨x4=(1:Nat)))->(((decide ((x4:Int)<(x1.length:Int))=true)->(∃ x7:JS,(((JSok x1 x4 x7)/\((((x4:Int)=(x7.j:Int))/\(((x4:Int)=(x4:Int))/\((decide ((x4:Int)<(x1.length:Int))=decide ((x4:Int)<(x1.length:Int)))/\(((x1.length:Int)=(x1.length:Int))/\(((x4:Int)=(x4:Int))/\(((x4:Int)=(x4:Int))/\(((0:Int)+1=0+1)/\(((0:Int)=0)/\((0=0/\x1.length=x1.length)/\(((0:Int)=0)/\(((x1.length:Int)=(x1.length:Int))/\(True/\True))))))))))))/\(((RLe x1.length x1.length)/\(RowsEq (Kd.pt 64 [.int .u64]::[]) x1.length (encL encSt (insAtG ltS x1 x4)) (encL encSt x7.l)))/\True)))/\(∀ x8:JS,((JSok x1 x4 x8)->(((decide (0<(x8.j:Int))=true)->((((0:Int)<=(x8.j:Int))/\((x8.j:Int)<(x1.length:Int)))/\((0+Int.toNat (x8.j:Int)<x1.length)/\((((-9223372036854775808:Int)<=(x8.j:Int)-1)/\((x8.j:Int)-1<=(9223372036854775807:Int)))/\((((0:Int)<=(x8.j:Int)-1)/\((x8.j:Int)-1<(x1.length:Int)))/\((0+Int.toNat ((x8.j:Int)-1)<x1.length)/\(∃ x11:TwoX,(((WOk x11.a)/\(WOk x11.b))/\((((szW (x8.l.getD (0+Int.toNat (x8.j:Int)) default)=szW x11.a)/\True)/\(((szW (x8.l.getD (0+Int.toNat ((x8.j:Int)-1)) default)=szW x11.b)/\True)/\True))/\((((RLe (szW x11.a) (szW (x8.l.getD (0+Int.toNat (x8.j:Int)) default)))/\(RowsEq [.int .u64] (szW x11.a) (D.toF (D.l (szW (x8.l.getD (0+Int.toNat (x8.j:Int)) default)) (encL encW (x8.l.getD (0+Int.toNat (x8.j:Int)) default)))) (encL encW x11.a)))/\(((RLe (szW x11.b) (szW (x8.l.getD (0+Int.toNat ((x8.j:Int)-1)) default)))/\(RowsEq [.int .u64] (szW x11.b) (D.toF (D.l (szW (x8.l.getD (0+Int.toNat ((x8.j:Int)-1)) default)) (encL encW (x8.l.getD (0+Int.toNat ((x8.j:Int)-1)) default)))) (encL encW x11.b)))/\True))/\(((decide (minW x11.a-minW x11.b<(0:Int))=true)->((((-9223372036854775808:Int)<=(x8.j:Int)-1)/\((x8.j:Int)-1<=(9223372036854775807:Int)))/\((((-9223372036854775808:Int)<=(x8.j:Int)-1)/\((x8.j:Int)-1<=(9223372036854775807:Int)))/\((((0:Int)<=(x8.j:Int)-1)/\((x8.j:Int)-1<(x1.length:Int)))/\((0+Int.toNat ((x8.j:Int)-1)<x1.length)/\((((0:Int)<=(x8.j:Int))/\((x8.j:Int)<(x1.length:Int)))/\((0+Int.toNat (x8.j:Int)<x1.length)/\((((0:Int)<=(x8.j:Int))/\((x8.j:Int)<(x1.length:Int)))/\(((0+Int.toNat (x8.j:Int)<x1.length)/\((szW (x8.l.getD (0+Int.toNat ((x8.j:Int)-1)) default)=(0:Nat)∨szW (x8.l.getD (0+Int.toNat ((x8.j:Int)-1)) default)=(64:Nat)/\(64:Nat)=szW (x8.l.getD (0+Int.toNat ((x8.j:Int)-1)) default))/\True))/\((((0:Int)<=(x8.j:Int)-1)/\((x8.j:Int)-1<(x1.length:Int)))/\(((0+Int.toNat ((x8.j:Int)-1)<x1.length)/\((szW (x8.l.getD (0+Int.toNat (x8.j:Int)) default)=(0:Nat)∨szW (x8.l.getD (0+Int.toNat (x8.j:Int)) default)=(64:Nat)/\(64:Nat)=szW (x8.l.getD (0+Int.toNat (x8.j:Int)) default))/\True))/\((((-9223372036854775808:Int)<=(x8.j:Int)-1)/\((x8.j:Int)-1<=(9223372036854775807:Int)))/\(∃ x13:JS,((x13.j<x8.j)/\((JSok x1 x4 x13)/\((((x8.j:Int)-1=(x13.j:Int))/\(((x4:Int)=(x4:Int))/\((decide ((x4:Int)<(x1.length:Int))=decide ((x4:Int)<(x1.length:Int)))/\(((x1.length:Int)=(x1.length:Int))/\(((x4:Int)=(x4:Int))/\(((x4:Int)=(x4:Int))/\(((0:Int)+1=0+1)/\(((0:Int)=0)/\((0=0/\x1.length=x1.length)/\(((0:Int)=0)/\(((x1.length:Int)=(x1.length:Int))/\(True/\True))))))))))))/\(((RLe x1.length x1.length)/\(RowsEq (Kd.pt 64 [.int .u64]::[]) x1.length (setRow (setRow (encL encSt x8.l) (0+Int.toNat (x8.j:Int)) 0 (D.l (szW (x8.l.getD (0+Int.toNat ((x8.j:Int)-1)) default)) (D.toF (D.l (szW (x8.l.getD (0+Int.toNat ((x8.j:Int)-1)) default)) (encL encW (x8.l.getD (0+Int.toNat ((x8.j:Int)-1)) default))))::@List.nil D)) (0+Int.toNat ((x8.j:Int)-1)) 0 (D.l (szW (x8.l.getD (0+Int.toNat (x8.j:Int)) default)) (D.toF (D.l (szW (x8.l.getD (0+Int.toNat (x8.j:Int)) default)) (encL encW (x8.l.getD (0+Int.toNat (x8.j:Int)) default))))::@List.nil D)) (encL encSt x13.l)))/\True)))))))))))))))))/\((decide (minW x11.a-minW x11.b<(0:Int))=false)->((((-9223372036854775808:Int)<=(x4:Int)+1)/\((x4:Int)+1<=(9223372036854775807:Int)))/\(∃ x15:Nat,((x1.length-x15<x1.length-x4)/\((((1:Nat)<=x15)/\(x15<=x1.length∨x15=(1:Nat)))/\((((x4:Int)+1=(x15:Int))/\(((0:Int)+1=0+1)/\(((0:Int)=0)/\((0=0/\x1.length=x1.length)/\(((0:Int)=0)/\(((x1.length:Int)=(x1.length:Int))/\(True/\True)))))))/\(((RLe x1.length x1.length)/\(RowsEq (Kd.pt 64 [.int .u64]::[]) x1.length (encL encSt x8.l) (encL encSt (insAtG ltS x1 x15))))/\True))))))))))))))))))/\((decide (0<(x8.j:Int))=false)->((((-9223372036854775808:Int)<=(x4:Int)+1)/\((x4:Int)+1<=(9223372036854775807:Int)))/\(∃ x17:Nat,((x1.length-x17<x1.length-x4)/\((((1:Nat)<=x17)/\(x17<=x1.length∨x17=(1:Nat)))/\((((x4:Int)+1=(x17:Int))/\(((0:Int)+1=0+1)/\(((0:Int)=0)/\((0=0/\x1.length=x1.length)/\(((0:Int)=0)/\(((x1.length:Int)=(x1.length:Int))/\(True/\True)))))))/\(((RLe x1.length x1.length)/\(RowsEq (Kd.pt 64 [.int .u64]::[]) x1.length (encL encSt x8.l) (encL encSt (insAtG ltS x1 x17))))/\True)))))))))))))/\((decide ((x4:Int)<(x1.length:Int))=false)->(True/\(((RLe x1.length x1.length)/\(RowsEq (Kd.pt 64 [.int .u64]::[]) x1.length (encL encSt (insAtG ltS x1 x4)) (encL encSt (insG ltS x1))))/\True))))))))))))=(Keeps cfgSy Tryd.f59 sysiC sySI) by kernel_rfl) (fun x1=>fun h2=>⟨⟨(by omega),
(by omega)⟩,
((1:Nat)),
⟨⟨(by(try dsimp only at *);omega),
(by(try dsimp only at *);omega)⟩,
⟨(by(try dsimp only at *);omega),rfl,rfl,
⟨rfl,rfl⟩,rfl,rfl,trivial,trivial⟩,
⟨rl,
(by(try dsimp only at *);exact rr)⟩,trivial⟩,
fun x4=>fun h5=>⟨fun g6=>have h6:=dT g6;⟨({ j:=x4,l:=insAtG ltS x1 x4:JS }),
⟨(by(try dsimp only at *);exact sys_start h2 h5.1 h6),
⟨rfl,rfl,rfl,rfl,rfl,rfl,rfl,rfl,
⟨rfl,rfl⟩,rfl,rfl,trivial,trivial⟩,
⟨rl,rr⟩,trivial⟩,
fun x8=>fun h9=>⟨fun g10=>have h10:=dT g10;⟨⟨(by(try dsimp only at *);omega),
(by(try dsimp only at *);(have a:=h9.j;have b:=h9.len;have c:=h2.len;omega))⟩,
(by(try dsimp only at *);(have a:=h9.j;have b:=h9.len;have c:=h2.len;omega)),
⟨(by(try dsimp only at *);omega),
(by(try dsimp only at *);(have a:=h9.j;have b:=h9.len;have c:=h2.len;omega))⟩,
⟨(by(try dsimp only at *);omega),
(by(try dsimp only at *);(have a:=h9.j;have b:=h9.len;have c:=h2.len;omega))⟩,
(by(try dsimp only at *);(have a:=h9.j;have b:=h9.len;have c:=h2.len;omega)),
({ a:=List.getD (JS.l x8) (JS.j x8) default,b:=List.getD (JS.l x8) (JS.j x8-(1:Nat)) default:TwoX }),
⟨(by(try dsimp only at *);exact h9.at (by have a:=h9.j;have b:=h9.len;omega)),
(by(try dsimp only at *);exact h9.at (by have a:=h9.j;have b:=h9.len;omega))⟩,
⟨⟨(by(try dsimp only at *);grind),trivial⟩,
⟨(by(try dsimp only at *);(rw[Nat.zero_add,toNp])),trivial⟩,trivial⟩,
⟨⟨⟨(by(try dsimp only at *);grind)⟩,
(by(try dsimp only at *);(simp only[nat0];exact rr))⟩,
⟨⟨(by(try dsimp only at *);(simp only[Nat.zero_add,toNp];exact Nat.le_refl _))⟩,
(by(try dsimp only at *);(simp only[Nat.zero_add,toNp];exact rr))⟩,trivial⟩,
fun g12=>have h12:=dT g12;⟨⟨(by(try dsimp only at *);omega),
(by(try dsimp only at *);(have a:=h9.j;have b:=h9.len;have c:=h2.len;omega))⟩,
⟨(by(try dsimp only at *);omega),
(by(try dsimp only at *);(have a:=h9.j;have b:=h9.len;have c:=h2.len;omega))⟩,
⟨(by(try dsimp only at *);omega),
(by(try dsimp only at *);(have a:=h9.j;have b:=h9.len;have c:=h2.len;omega))⟩,
(by(try dsimp only at *);(have a:=h9.j;have b:=h9.len;have c:=h2.len;omega)),
⟨(by(try dsimp only at *);omega),
(by(try dsimp only at *);(have a:=h9.j;have b:=h9.len;have c:=h2.len;omega))⟩,
(by(try dsimp only at *);(have a:=h9.j;have b:=h9.len;have c:=h2.len;omega)),
⟨(by(try dsimp only at *);omega),
(by(try dsimp only at *);(have a:=h9.j;have b:=h9.len;have c:=h2.len;omega))⟩,
⟨(by(try dsimp only at *);(have a:=h9.j;have b:=h9.len;have c:=h2.len;omega)),
(by(try dsimp only at *);exact sz_or _),trivial⟩,
⟨(by(try dsimp only at *);omega),
(by(try dsimp only at *);(have a:=h9.j;have b:=h9.len;have c:=h2.len;omega))⟩,
⟨(by(try dsimp only at *);(have a:=h9.j;have b:=h9.len;have c:=h2.len;omega)),
(by(try dsimp only at *);exact sz_or _),trivial⟩,
⟨(by(try dsimp only at *);omega),
(by(try dsimp only at *);(have a:=h9.j;have b:=h9.len;have c:=h2.len;omega))⟩,
({ j:=JS.j x8-(1:Nat),l:=swpG (JS.l x8) (JS.j x8):JS }),
(by(try dsimp only at *);omega),
(by(try dsimp only at *);exact sys_step h9 h6 h10 h12),
⟨(by(try dsimp only at *);omega),rfl,rfl,rfl,rfl,rfl,rfl,rfl,
⟨rfl,rfl⟩,rfl,rfl,trivial,trivial⟩,
⟨rl,
(by
       (simp only[Nat.zero_add,Int.toNat_natCast,toNp];exact swpS_rows h9.len.symm (by have a:=h9.j;omega) h10))⟩,trivial⟩,
fun g14=>have h14:=dF g14;⟨⟨(by(try dsimp only at *);omega),
(by(try dsimp only at *);(have a:=h9.j;have b:=h9.len;have c:=h2.len;omega))⟩,
(x4+(1:Nat)),
(by(try dsimp only at *);omega),
⟨(by(try dsimp only at *);omega),
(by(try dsimp only at *);omega)⟩,
⟨(by(try dsimp only at *);omega),rfl,rfl,
⟨rfl,rfl⟩,rfl,rfl,trivial,trivial⟩,
⟨rl,
(by(try dsimp only at *);(rw[<- sys_stop h9 h5.1 (fun q=>h14 q.2)];exact rr))⟩,trivial⟩⟩,
fun g16=>have h16:=dF g16;⟨⟨(by(try dsimp only at *);omega),
(by(try dsimp only at *);(have a:=h9.j;have b:=h9.len;have c:=h2.len;omega))⟩,
(x4+(1:Nat)),
(by(try dsimp only at *);omega),
⟨(by(try dsimp only at *);omega),
(by(try dsimp only at *);omega)⟩,
⟨(by(try dsimp only at *);omega),rfl,rfl,
⟨rfl,rfl⟩,rfl,rfl,trivial,trivial⟩,
⟨rl,
(by(try dsimp only at *);(rw[<- sys_stop h9 h5.1 (fun q=>h16 q.1)];exact rr))⟩,trivial⟩⟩⟩,
fun g18=>have h18:=dF g18;⟨trivial,
⟨rl,
(by(try dsimp only at *);(rw[sys_end h5 h18];exact rr))⟩,trivial⟩⟩⟩)
theorem sysi_good:Good Tryd.prog 59 sysiC/\FnOk Tryd.prog 59:=good_of tok conSy (fn:=Tryd.f59) rfl (by decide+kernel) (fun _=>rfl) sysi_keeps
def sySPI (x:List (List Nat)) (id:Nat):Option Inv:=match id with
 |0=>some { X:=Unit,ok:=fun _=>True,fr:=fun _=>[(1,.i .i64 0),(2,.i .i64 x.length),(0,.sl 100000 0 x.length)],hp:=fun _=>[],me:=fun _=>0 }
 |_=>none
def syspC:CT where
 X:=List (List Nat)
 pre:=SySok
 args:=fun x=>[.sl 100000 0 x.length,.i .i64 0,.i .i64 x.length,.u,sySA]
 g0:=sySH
 res:=fun _=>.tup []
 g1:=sySR
def cfgSyp:Cfg:=⟨T,[],[(59,.one sysiC)],noInv,10,{}⟩
theorem conSyp:ConOk Tryd.prog cfgSyp:=ConL.ok (.cons (ConL.one sysi_good) .nil)
set_option maxRecDepth 100000 in
theorem sysp_keeps:Keeps cfgSyp Tryd.f57 syspC sySPI:=Eq.mp (show((∀ x1:List (List Nat),((SySok x1)->(∃ x3:Unit,((True/\((((0:Int)=0)/\(((x1.length:Int)=(x1.length:Int))/\((0=0/\x1.length=x1.length)/\(True/\True))))/\(((RLe x1.length x1.length)/\(RowsEq (Kd.pt 64 [.int .u64]::[]) x1.length (encL encSt x1) (encL encSt x1)))/\True)))/\(∀ x4:Unit,(True->((((-9223372036854775808:Int)<=(x1.length:Int)-0)/\((x1.length:Int)-0<=(9223372036854775807:Int)))/\(((decide ((x1.length:Int)-0<=(12:Int))=true)->(∃ x7:List (List Nat),((SySok x7)/\(((0=0/\x1.length=x7.length)/\(((0:Int)=0)/\(((x1.length:Int)=(x7.length:Int))/\(True/\True))))/\((((RLe x7.length x1.length)/\(RowsEq (Kd.pt 64 [.int .u64]::[]) x7.length (encL encSt x1) (encL encSt x7)))/\True)/\(True/\(((RLe x1.length x7.length)/\(RowsEq (Kd.pt 64 [.int .u64]::[]) x1.length (encL encSt (insG ltS x7)) (encL encSt (insG ltS x1))))/\True)))))))/\((decide ((x1.length:Int)-0<=(12:Int))=false)->(Stuck 6 (dN (Oper.dst (Oper.mk (some 32) (Op.binOp BinOp.eql 3 (Operand.tmp 31) (Operand.const (Value.int .i64 (0:Int))) 3) 4 ("zsortanyfunc.go:78") (List.toArray ((Edge.mk 0 Ground.data)::@List.nil Edge)) none))))))))))))))=(Keeps cfgSyp Tryd.f57 syspC sySPI) by kernel_rfl) (fun x1=>fun h2=>⟨(default),
⟨trivial,
⟨rfl,rfl,
⟨rfl,rfl⟩,trivial,trivial⟩,
⟨rl,rr⟩,trivial⟩,
fun x4=>fun h5=>⟨⟨(by(try dsimp only at *);omega),
(by(try dsimp only at *);(have:=h2.len;omega))⟩,
fun g6=>have h6:=dT g6;⟨(x1),
(by(try dsimp only at *);omega),
⟨⟨rfl,rfl⟩,rfl,rfl,trivial,trivial⟩,
⟨⟨rl,rr⟩,trivial⟩,trivial,
⟨rl,rr⟩,trivial⟩,
fun g8=>have h8:=dF g8;(by(try dsimp only at *);(have:=h2.len;omega))⟩⟩)
theorem sysp_good:Good Tryd.prog 57 syspC/\FnOk Tryd.prog 57:=good_of tok conSyp (fn:=Tryd.f57) rfl (by decide+kernel) (fun _=>rfl) sysp_keeps
def cfgSyl:Cfg:=⟨T,[],[(68,.one len64C)],noInv,10,{}⟩
theorem conSyl:ConOk Tryd.prog cfgSyl:=ConL.ok (.cons (ConL.one len64_good) .nil)
set_option maxRecDepth 100000 in
theorem blen_keeps:Keeps cfgSyl Tryd.f58 len64C noIv:=Eq.mp (show((∀ x1:Nat,((x1<=(12:Nat))->(∃ x3:Nat,((x3<=(12:Nat))/\((((x1:Int)=(x3:Int))/\True)/\(True/\(True/\True))))))))=(Keeps cfgSyl Tryd.f58 len64C noIv) by kernel_rfl) (fun x1=>fun h2=>⟨(x1),
(by(try dsimp only at *);omega),
⟨rfl,trivial⟩,trivial,trivial,trivial⟩)
theorem blen_good:Good Tryd.prog 58 len64C/\FnOk Tryd.prog 58:=good_of tok conSyl (fn:=Tryd.f58) rfl (by decide+kernel) (fun _=>rfl) blen_keeps
def sysfC:CT where
 X:=List (List Nat)
 pre:=SySok
 args:=fun x=>[.sl 100000 0 x.length,sySA]
 g0:=sySH
 res:=fun _=>.tup []
 g1:=sySR
def cfgSyf:Cfg:=⟨T,[],[(58,.one len64C),(57,.one syspC)],noInv,20,{}⟩
theorem conSyf:ConOk Tryd.prog cfgSyf:=ConL.ok (.cons (ConL.one blen_good) (.cons (ConL.one sysp_good) .nil))
set_option maxRecDepth 100000 in
theorem sysf_keeps:Keeps cfgSyf Tryd.f46 sysfC noIv:=Eq.mp (show((∀ x1:List (List Nat),((SySok x1)->((((0:Int)<=(x1.length:Int))/\((x1.length:Int)<=(18446744073709551615:Int)))/\(∃ x3:Nat,((x3<=(12:Nat))/\((((x1.length:Int)=(x3:Int))/\True)/\(True/\(∃ x4:List (List Nat),((SySok x4)/\(((0=0/\x1.length=x4.length)/\(((0:Int)=0)/\(((x1.length:Int)=(x4.length:Int))/\(True/\(True/\True)))))/\((((RLe x4.length x1.length)/\(RowsEq (Kd.pt 64 [.int .u64]::[]) x4.length (encL encSt x1) (encL encSt x4)))/\True)/\(True/\(((RLe x1.length x4.length)/\(RowsEq (Kd.pt 64 [.int .u64]::[]) x1.length (encL encSt (insG ltS x4)) (encL encSt (insG ltS x1))))/\True))))))))))))))=(Keeps cfgSyf Tryd.f46 sysfC noIv) by kernel_rfl) (fun x1=>fun h2=>⟨⟨(by omega),
(by(have:=h2.len;omega))⟩,
(List.length x1),
(by(try dsimp only at *);(have:=h2.len;omega)),
⟨rfl,trivial⟩,trivial,
(x1),
(by(try dsimp only at *);omega),
⟨⟨rfl,rfl⟩,rfl,rfl,trivial,trivial,trivial⟩,
⟨⟨rl,rr⟩,trivial⟩,trivial,
⟨rl,rr⟩,trivial⟩)
theorem sysf_good:Good Tryd.prog 46 sysfC/\FnOk Tryd.prog 46:=good_of tok conSyf (fn:=Tryd.f46) rfl (by decide+kernel) (fun _=>rfl) sysf_keeps
end Go.Sym