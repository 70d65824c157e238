import Derived.Test.YtcghhlodddpmaaaDoorV4
import Derived.Test.YtcghhlodddpmaaaDoorXD
namespace Go.Sym
set_option linter.unusedVariables false
set_option linter.unusedSimpArgs false
open Go.Proofs
set_option maxRecDepth 100000
set_option maxHeartbeats 4000000
def cfgW:Cfg:=⟨T,[6,10,20,34],[],noInv,60,{}⟩
theorem conW:ConOk Tryd.prog cfgW:=ConL.ok .nil
def wB (l l':Nat) (W:List Int):List (Nat × Blk):=[(l,.one .own [.sl l' 0 W.length]),(l',.rows .own kB W.length (encL encI W))]
def wiC:CT where
 X:=List Int × Int
 pre:=fun x=>r64 x.2/\x.1.length<=1000000
 args:=fun x=>[.p 100000 0 0,.i .i64 x.2]
 g0:=fun x=>wB 100000 100001 x.1
 res:=fun _=>.tup []
 g1:=fun x=>wB 100000 1 (x.1++byZ x.2)++[(100001,.dead)]
structure WI where
 W:List Int
 k:Nat
 u:Nat
def wiP (x:List Int × Int) (s:WI):Prop:=s.W++byK s.k s.u=x.1++byZ x.2/\s.u<128 ^ s.k/\0<s.k/\s.W.length+s.k<=x.1.length+10
theorem wi_0 {x:List Int × Int} (h:r64 x.2):wiP x ⟨x.1,10,zz x.2⟩:=by
 refine⟨by unfold byZ;rw[byU_eq],?_,Nat.zero_lt_succ 9,Nat.le_refl _⟩
 have:=zz_lt h
 show zz x.2<128 ^ 10
 omega
def wiN (s:WI):WI:=⟨s.W++[((s.u%128+128:Nat):Int)],s.k-1,s.u / 128⟩
theorem wi_s {x:List Int × Int} {s:WI} (h:wiP x s) (h1:128<=(s.u:Int)):wiP x (wiN s)/\(wiN s).k<s.k:=by
 obtain⟨a,b,c,d⟩:=h
 obtain⟨j,e1,e2,e3⟩:=enc_more b (by omega)
 refine⟨⟨?_,?_,?_,?_⟩,?_⟩
 ·show(s.W++[_])++byK (s.k-1) (s.u / 128)=_
  rw[<- a,e3,e1]
  simp
 ·show s.u / 128<128 ^ (s.k-1)
  rw[e1]
  exact e2
 ·show 0<s.k-1
  rcases Nat.eq_zero_or_pos (s.k-1)with h|h
  ·have:j=0:=by omega
   subst this
   simp at e2
   omega
  ·exact h
 ·show(s.W++[_]).length+(s.k-1)<=_
  simp
  omega
 ·show s.k-1<s.k
  omega
theorem wi_t {x:List Int × Int} {s:WI} (h:wiP x s) (h1:¬ 128<=(s.u:Int)):x.1++byZ x.2=s.W++[(s.u:Int)]:=by
 obtain⟨a,b,c,d⟩:=h
 rw[<- a,enc_last b (by omega) c]
theorem wi_t1 {x:List Int × Int} {s:WI} (h:wiP x s) (h1:¬ 128<=(s.u:Int)):s.W.length+1=(x.1++byZ x.2).length:=by rw[wi_t h h1];simp
theorem wi_len {x:List Int × Int} {s:WI} (h:wiP x s) (h1:x.1.length<=1000000):s.W.length+1<=1073741824:=by
 have:=h.2.2.2
 omega
theorem wi_r {W:List Int} {v:Int} {ds:D} {n:Nat} (h:ds.toI=v) (hn:n<=W.length+1):RowsEq kB n (appRows W.length (encL encI W) 0 (litRows [[ds]])) (encL encI (W++[v])):=
 rowsEq_push rfl hn ⟨by simp only[Kd.eqv];exact h,trivial⟩
theorem app_len {W:List Int} {v:Int}:W.length+1=(W++[v]).length:=by simp
theorem wi_t3 {x:List Int × Int} {s:WI} (h:wiP x s) (h1:¬ 128<=(s.u:Int)):RowsEq kB (x.1++byZ x.2).length (appRows s.W.length (encL encI s.W) 0 (litRows [[D.i (IntKind.u8.wrap s.u)]])) (encL encI (x.1++byZ x.2)):=by
 rw[wi_t h h1]
 exact wi_r (u8_wrap (by omega)) (Nat.le_of_eq app_len.symm)
theorem qL {a b:List Int} (h:a=b):a.length=b.length:=congrArg _ h
theorem qG {a b:List Int} (h:a=b):b.length<=a.length:=Nat.le_of_eq (qL h).symm
theorem qR {ks:List Kd} {n:Nat} {a b:List Int} (h:a=b):RowsEq ks n (encL encI a) (encL encI b):=h▸rr
def wiI (x:List Int × Int) (id:Nat):Option Inv:=match id with
 |0=>some { X:=WI,ok:=fun s=>wiP x s,fr:=fun s=>[(0,.p 100000 0 0),(4,.i .u64 s.u)],hp:=fun s=>wB 100000 331 s.W++[(100001,.dead)],me:=fun s=>s.k }
 |_=>none
set_option maxRecDepth 100000 in
theorem wi_keeps:Keeps cfgW Tryd.f36 wiC wiI:=Eq.mp (show((∀ x1:List Int × Int,((r64 (Prod.snd x1)/\(Prod.fst x1).length<=(1000000:Nat))->(((0:Int)<=(1:Int))/\(((0:Int)<=(63:Int))/\(∃ x3:WI,(((wiP x1 x3)/\(((0=0/\0=0)/\((IntKind.wrap .u64 (↑(BitVec.toNat (BitVec.ofInt (IntKind.bits .u64) (IntKind.wrap .u64 (IntKind.wrap .u64 (Prod.snd x1)*2 ^ min (Int.toNat (1:Int)) (IntKind.bits .u64))) ^^^ BitVec.ofInt (IntKind.bits .u64) (IntKind.wrap .u64 (Int.fdiv (Prod.snd x1) ((2:Int) ^ min (Int.toNat (63:Int)) (IntKind.bits .i64)))))):Int)=(x3.u:Int))/\((IntKind.wrap .u64 (↑(BitVec.toNat (BitVec.ofInt (IntKind.bits .u64) (IntKind.wrap .u64 (IntKind.wrap .u64 (Prod.snd x1)*2 ^ min (Int.toNat (1:Int)) (IntKind.bits .u64))) ^^^ BitVec.ofInt (IntKind.bits .u64) (IntKind.wrap .u64 (Int.fdiv (Prod.snd x1) ((2:Int) ^ min (Int.toNat (63:Int)) (IntKind.bits .i64)))))):Int)=IntKind.wrap .u64 (↑(BitVec.toNat (BitVec.ofInt (IntKind.bits .u64) (IntKind.wrap .u64 (IntKind.wrap .u64 (Prod.snd x1)*2 ^ min (Int.toNat (1:Int)) (IntKind.bits .u64))) ^^^ BitVec.ofInt (IntKind.bits .u64) (IntKind.wrap .u64 (Int.fdiv (Prod.snd x1) ((2:Int) ^ min (Int.toNat (63:Int)) (IntKind.bits .i64)))))):Int))/\((IntKind.wrap .u64 (Int.fdiv (Prod.snd x1) ((2:Int) ^ min (Int.toNat (63:Int)) (IntKind.bits .i64)))=IntKind.wrap .u64 (Int.fdiv (Prod.snd x1) ((2:Int) ^ min (Int.toNat (63:Int)) (IntKind.bits .i64))))/\((Int.fdiv (Prod.snd x1) ((2:Int) ^ min (Int.toNat (63:Int)) (IntKind.bits .i64))=Int.fdiv (Prod.snd x1) ((2:Int) ^ min (Int.toNat (63:Int)) (IntKind.bits .i64)))/\((Prod.snd x1=Prod.snd x1)/\((IntKind.wrap .u64 (IntKind.wrap .u64 (Prod.snd x1)*2 ^ min (Int.toNat (1:Int)) (IntKind.bits .u64))=IntKind.wrap .u64 (IntKind.wrap .u64 (Prod.snd x1)*2 ^ min (Int.toNat (1:Int)) (IntKind.bits .u64)))/\((IntKind.wrap .u64 (Prod.snd x1)=IntKind.wrap .u64 (Prod.snd x1))/\((Prod.snd x1=Prod.snd x1)/\((Prod.snd x1=Prod.snd x1)/\True))))))))))/\(((0=0/\((Prod.fst x1).length=x3.W.length))/\True)/\(((RLe x3.W.length (Prod.fst x1).length)/\(RowsEq (.int IntKind.u8::[]) x3.W.length (encL encI (Prod.fst x1)) (encL encI x3.W)))/\(True/\True)))))/\(∀ x4:WI,((wiP x1 x4)->(((decide ((128:Int)<=(x4.u:Int))=true)->(((True/\True)/\True)/\((0=0/\((x4.W.length<=x4.W.length)/\(((1:Nat)<=(1:Nat))/\(x4.W.length+(1:Nat)<=(1073741824:Nat)))))/\(((0:Int)<=(7:Int))/\(∃ x7:WI,((x7.k<x4.k)/\((wiP x1 x7)/\(((0=0/\0=0)/\((Int.fdiv (x4.u:Int) ((2:Int) ^ min (Int.toNat (7:Int)) (IntKind.bits .u64))=(x7.u:Int))/\((IntKind.wrap .u64 (↑(BitVec.toNat (BitVec.ofInt (IntKind.bits .u64) (IntKind.wrap .u64 (IntKind.wrap .u64 (Prod.snd x1)*2 ^ min (Int.toNat (1:Int)) (IntKind.bits .u64))) ^^^ BitVec.ofInt (IntKind.bits .u64) (IntKind.wrap .u64 (Int.fdiv (Prod.snd x1) ((2:Int) ^ min (Int.toNat (63:Int)) (IntKind.bits .i64)))))):Int)=IntKind.wrap .u64 (↑(BitVec.toNat (BitVec.ofInt (IntKind.bits .u64) (IntKind.wrap .u64 (IntKind.wrap .u64 (Prod.snd x1)*2 ^ min (Int.toNat (1:Int)) (IntKind.bits .u64))) ^^^ BitVec.ofInt (IntKind.bits .u64) (IntKind.wrap .u64 (Int.fdiv (Prod.snd x1) ((2:Int) ^ min (Int.toNat (63:Int)) (IntKind.bits .i64)))))):Int))/\((IntKind.wrap .u64 (Int.fdiv (Prod.snd x1) ((2:Int) ^ min (Int.toNat (63:Int)) (IntKind.bits .i64)))=IntKind.wrap .u64 (Int.fdiv (Prod.snd x1) ((2:Int) ^ min (Int.toNat (63:Int)) (IntKind.bits .i64))))/\((Int.fdiv (Prod.snd x1) ((2:Int) ^ min (Int.toNat (63:Int)) (IntKind.bits .i64))=Int.fdiv (Prod.snd x1) ((2:Int) ^ min (Int.toNat (63:Int)) (IntKind.bits .i64)))/\((Prod.snd x1=Prod.snd x1)/\((IntKind.wrap .u64 (IntKind.wrap .u64 (Prod.snd x1)*2 ^ min (Int.toNat (1:Int)) (IntKind.bits .u64))=IntKind.wrap .u64 (IntKind.wrap .u64 (Prod.snd x1)*2 ^ min (Int.toNat (1:Int)) (IntKind.bits .u64)))/\((IntKind.wrap .u64 (Prod.snd x1)=IntKind.wrap .u64 (Prod.snd x1))/\((Prod.snd x1=Prod.snd x1)/\((Prod.snd x1=Prod.snd x1)/\True))))))))))/\(((0=0/\(x4.W.length+(1:Nat)=x7.W.length))/\True)/\(((RLe x7.W.length (x4.W.length+(1:Nat)))/\(RowsEq (.int IntKind.u8::[]) x7.W.length (appRows x4.W.length (encL encI x4.W) 0 (litRows ((D.i (IntKind.wrap IntKind.u8 (↑(BitVec.toNat (BitVec.ofInt (IntKind.bits IntKind.u8) (IntKind.wrap IntKind.u8 (x4.u:Int))|||BitVec.ofInt (IntKind.bits IntKind.u8) (128:Int))):Int))::@List.nil D)::@List.nil (List D)))) (encL encI x7.W)))/\(True/\True)))))))))))/\((decide ((128:Int)<=(x4.u:Int))=false)->(((True/\True)/\True)/\((0=0/\((x4.W.length<=x4.W.length)/\(((1:Nat)<=(1:Nat))/\(x4.W.length+(1:Nat)<=(1073741824:Nat)))))/\(True/\(((0=0/\(x4.W.length+(1:Nat)=(Prod.fst x1++byZ (Prod.snd x1)).length))/\True)/\(((RLe (Prod.fst x1++byZ (Prod.snd x1)).length (x4.W.length+(1:Nat)))/\(RowsEq (.int IntKind.u8::[]) (Prod.fst x1++byZ (Prod.snd x1)).length (appRows x4.W.length (encL encI x4.W) 0 (litRows ((D.i (IntKind.wrap IntKind.u8 (x4.u:Int))::@List.nil D)::@List.nil (List D)))) (encL encI (Prod.fst x1++byZ (Prod.snd x1)))))/\(True/\True)))))))))))))))))=(Keeps cfgW Tryd.f36 wiC wiI) by kernel_rfl) (fun x1=>fun h2=>⟨(by omega),
(by omega),
({ W:=Prod.fst x1,k:=(10:Nat),u:=zz (Prod.snd x1):WI }),
⟨(by(try dsimp only at *);exact wi_0 h2.1),
⟨⟨rfl,rfl⟩,
(by(try dsimp only at *);exact zz_bits h2.1),rfl,rfl,rfl,rfl,rfl,rfl,rfl,rfl,trivial⟩,
⟨⟨rfl,rfl⟩,trivial⟩,
⟨rl,rr⟩,trivial,trivial⟩,
fun x4=>fun h5=>⟨fun g6=>have h6:=dT g6;⟨⟨⟨trivial,trivial⟩,trivial⟩,
⟨rfl,
(by(try dsimp only at *);omega),
(by(try dsimp only at *);omega),
(by(try dsimp only at *);exact wi_len h5 h2.2)⟩,
(by(try dsimp only at *);omega),
(wiN x4),
(by(try dsimp only at *);exact(wi_s h5 h6).2),
(by(try dsimp only at *);exact(wi_s h5 h6).1),
⟨⟨rfl,rfl⟩,
(by(try dsimp only at *);exact u64_shr _),rfl,rfl,rfl,rfl,rfl,rfl,rfl,rfl,trivial⟩,
⟨⟨rfl,
(by(try dsimp only at *);exact app_len)⟩,trivial⟩,
⟨⟨(by(try dsimp only at *);exact Nat.le_of_eq app_len.symm)⟩,
(by(try dsimp only at *);exact wi_r (u8_or _) (Nat.le_of_eq app_len.symm))⟩,trivial,trivial⟩,
fun g8=>have h8:=dF g8;⟨⟨⟨trivial,trivial⟩,trivial⟩,
⟨rfl,
(by(try dsimp only at *);omega),
(by(try dsimp only at *);omega),
(by(try dsimp only at *);exact wi_len h5 h2.2)⟩,trivial,
⟨⟨rfl,
(by(try dsimp only at *);exact wi_t1 h5 h8)⟩,trivial⟩,
⟨⟨(by(try dsimp only at *);exact Nat.le_of_eq (wi_t1 h5 h8).symm)⟩,
(by(try dsimp only at *);exact wi_t3 h5 h8)⟩,trivial,trivial⟩⟩⟩)
theorem wi_good:Good Tryd.prog 36 wiC/\FnOk Tryd.prog 36:=good_of tok conW (fn:=Tryd.f36) rfl (by decide+kernel) (fun _=>rfl) wi_keeps
def cfgW1:Cfg:=⟨T,[],[(36,.one wiC)],noInv,60,{}⟩
theorem conW1:ConOk Tryd.prog cfgW1:=ConL.ok (.cons (ConL.one wi_good) .nil)
def byBs (b:List Int):List Int:=byZ b.length++b
def wbC:CT where
 X:=List Int × List Int
 pre:=fun x=>x.1.length<=500000/\x.2.length<=100000
 args:=fun x=>[.p 100000 0 0,.sl 100002 0 x.2.length]
 g0:=fun x=>wB 100000 100001 x.1++[(100002,.rows .bor kB x.2.length (encL encI x.2))]
 res:=fun _=>.tup []
 g1:=fun x=>wB 100000 1 (x.1++byBs x.2)++[(100001,.dead)]
theorem r64_len {α:Type} {l:List α} {k:Nat} (h:l.length<=k) (hk:k<=1000000:=by decide):r64 (l.length:Int):=by unfold r64;omega
theorem wb_len {x:List Int × List Int}:(x.1++byZ x.2.length).length+x.2.length=(x.1++byBs x.2).length:=by unfold byBs;simp;omega
theorem rows_app3 {a b c:List Int} {n:Nat} (hn:n=(a++b).length):RowsEq kB (a++(b++c)).length (appRows n (encL encI (a++b)) 0 (encL encI c)) (encL encI (a++(b++c))):=by
 subst hn
 rw[<- List.append_assoc]
 refine rowsEq_app (xs:=a++b) (ys:=c) rfl (by simp[Nat.add_assoc]) fun i hi=>?_
 rw[Nat.zero_add]
 exact rowEq_rfl _ _ _
theorem byZ_le (a:List Int) (n:Int):(a++byZ n).length<=a.length+10:=by
 have:=byZ_len n
 simp
 exact this
theorem wb_cap {x:List Int × List Int} (h:x.1.length<=500000/\x.2.length<=100000):(x.1++byZ x.2.length).length+x.2.length<=1073741824:=by
 have:=byZ_le x.1 x.2.length
 omega
theorem wb_r {x:List Int × List Int}:RowsEq kB (x.1++byBs x.2).length (appRows (x.1++byZ x.2.length).length (encL encI (x.1++byZ x.2.length)) 0 (encL encI x.2)) (encL encI (x.1++byBs x.2)):=rows_app3 rfl
set_option maxRecDepth 100000 in
theorem wb_keeps:Keeps cfgW1 Tryd.f59 wbC noIv:=Eq.mp (show((∀ x1:List Int × List Int,(((Prod.fst x1).length<=(500000:Nat)/\(Prod.snd x1).length<=(100000:Nat))->(∃ x3:List Int × Int,(((r64 (Prod.snd x3))/\((Prod.fst x3).length<=(1000000:Nat)))/\(((0=0/\0=0)/\(((↑(Prod.snd x1).length:Int)=Prod.snd x3)/\True))/\((((0=0/\((Prod.fst x1).length=(Prod.fst x3).length))/\True)/\(((RLe (Prod.fst x3).length (Prod.fst x1).length)/\(RowsEq (.int IntKind.u8::[]) (Prod.fst x3).length (encL encI (Prod.fst x1)) (encL encI (Prod.fst x3))))/\True))/\((0=0/\(((Prod.fst x3++byZ (Prod.snd x3)).length<=(Prod.fst x3++byZ (Prod.snd x3)).length)/\(((0:Nat)+(Prod.snd x1).length<=(Prod.snd x1).length)/\((Prod.fst x3++byZ (Prod.snd x3)).length+(Prod.snd x1).length<=(1073741824:Nat)))))/\(True/\(((0=0/\((Prod.fst x3++byZ (Prod.snd x3)).length+(Prod.snd x1).length=(Prod.fst x1++byBs (Prod.snd x1)).length))/\True)/\(((RLe (Prod.fst x1++byBs (Prod.snd x1)).length ((Prod.fst x3++byZ (Prod.snd x3)).length+(Prod.snd x1).length))/\(RowsEq (.int IntKind.u8::[]) (Prod.fst x1++byBs (Prod.snd x1)).length (appRows (Prod.fst x3++byZ (Prod.snd x3)).length (encL encI (Prod.fst x3++byZ (Prod.snd x3))) 0 (encL encI (Prod.snd x1))) (encL encI (Prod.fst x1++byBs (Prod.snd x1)))))/\(True/\True))))))))))))=(Keeps cfgW1 Tryd.f59 wbC noIv) by kernel_rfl) (fun x1=>fun h2=>⟨((Prod.fst x1,(↑(List.length (Prod.snd x1)):Int))),
⟨(by(try dsimp only at *);exact r64_len h2.2),
(by(try dsimp only at *);omega)⟩,
⟨⟨rfl,rfl⟩,rfl,trivial⟩,
⟨⟨⟨rfl,rfl⟩,trivial⟩,
⟨rl,rr⟩,trivial⟩,
⟨rfl,
(by(try dsimp only at *);omega),
(by(try dsimp only at *);omega),
(by(try dsimp only at *);exact wb_cap h2)⟩,trivial,
⟨⟨rfl,
(by(try dsimp only at *);exact wb_len (x:=x1))⟩,trivial⟩,
⟨⟨(by(try dsimp only at *);exact Nat.le_of_eq (wb_len (x:=x1)).symm)⟩,
(by(try dsimp only at *);exact wb_r (x:=x1))⟩,trivial,trivial⟩)
theorem wb_good:Good Tryd.prog 59 wbC/\FnOk Tryd.prog 59:=good_of tok conW1 (fn:=Tryd.f59) rfl (by decide+kernel) (fun _=>rfl) wb_keeps
def strL (s:ByteArray):List Int:=s.data.toList.map fun b=>(b.toNat:Int)
theorem strL_len (s:ByteArray):(strL s).length=s.size:=by unfold strL;rw[List.length_map];rfl
theorem strL_rows (s:ByteArray):strRows s=encL encI (strL s):=by
 funext r c
 unfold strRows encL encI strL
 rw[List.getD_eq_getElem?_getD,List.getElem?_map,Array.getElem?_toList,Array.getD_eq_getD_getElem?]
 cases h:s.data[r]? <;>rfl
def bySt (s:ByteArray):List Int:=byZ s.size++strL s
def wsC:CT where
 X:=List Int × ByteArray
 pre:=fun x=>x.1.length<=500000/\x.2.size<=100000
 args:=fun x=>[.p 100000 0 0,.s x.2]
 g0:=fun x=>wB 100000 100001 x.1
 res:=fun _=>.tup []
 g1:=fun x=>wB 100000 1 (x.1++bySt x.2)++[(100001,.dead)]
theorem ws_cap {x:List Int × ByteArray} (h:x.1.length<=500000/\x.2.size<=100000):(x.1++byZ x.2.size).length+x.2.size<=1073741824:=by
 have:=byZ_le x.1 x.2.size
 omega
theorem ws_len {x:List Int × ByteArray}:(x.1++byZ x.2.size).length+x.2.size=(x.1++bySt x.2).length:=by
 unfold bySt
 have:=strL_len x.2
 simp
 omega
theorem ws_r {x:List Int × ByteArray}:RowsEq kB (x.1++bySt x.2).length (appRows (x.1++byZ x.2.size).length (encL encI (x.1++byZ x.2.size)) 0 (strRows x.2)) (encL encI (x.1++bySt x.2)):=by
 rw[strL_rows]
 exact rows_app3 rfl
set_option maxRecDepth 100000 in
theorem ws_keeps:Keeps cfgW1 Tryd.f37 wsC noIv:=Eq.mp (show((∀ x1:List Int × ByteArray,(((Prod.fst x1).length<=(500000:Nat)/\ByteArray.size (Prod.snd x1)<=(100000:Nat))->(∃ x3:List Int × Int,(((r64 (Prod.snd x3))/\((Prod.fst x3).length<=(1000000:Nat)))/\(((0=0/\0=0)/\(((↑(ByteArray.size (Prod.snd x1)):Int)=Prod.snd x3)/\True))/\((((0=0/\((Prod.fst x1).length=(Prod.fst x3).length))/\True)/\(((RLe (Prod.fst x3).length (Prod.fst x1).length)/\(RowsEq (.int IntKind.u8::[]) (Prod.fst x3).length (encL encI (Prod.fst x1)) (encL encI (Prod.fst x3))))/\True))/\((0=0/\(((Prod.fst x3++byZ (Prod.snd x3)).length<=(Prod.fst x3++byZ (Prod.snd x3)).length)/\((Prod.fst x3++byZ (Prod.snd x3)).length+ByteArray.size (Prod.snd x1)<=(1073741824:Nat))))/\(True/\(((0=0/\((Prod.fst x3++byZ (Prod.snd x3)).length+ByteArray.size (Prod.snd x1)=(Prod.fst x1++bySt (Prod.snd x1)).length))/\True)/\(((RLe (Prod.fst x1++bySt (Prod.snd x1)).length ((Prod.fst x3++byZ (Prod.snd x3)).length+ByteArray.size (Prod.snd x1)))/\(RowsEq (.int IntKind.u8::[]) (Prod.fst x1++bySt (Prod.snd x1)).length (appRows (Prod.fst x3++byZ (Prod.snd x3)).length (encL encI (Prod.fst x3++byZ (Prod.snd x3))) 0 (strRows (Prod.snd x1))) (encL encI (Prod.fst x1++bySt (Prod.snd x1)))))/\(True/\True))))))))))))=(Keeps cfgW1 Tryd.f37 wsC noIv) by kernel_rfl) (fun x1=>fun h2=>⟨((Prod.fst x1,(↑(ByteArray.size (Prod.snd x1)):Int))),
⟨(by(try dsimp only at *);exact(show r64 (x1.2.size:Int) by unfold r64;omega)),
(by(try dsimp only at *);omega)⟩,
⟨⟨rfl,rfl⟩,rfl,trivial⟩,
⟨⟨⟨rfl,rfl⟩,trivial⟩,
⟨rl,rr⟩,trivial⟩,
⟨rfl,
(by(try dsimp only at *);omega),
(by(try dsimp only at *);exact ws_cap h2)⟩,trivial,
⟨⟨rfl,
(by(try dsimp only at *);exact ws_len (x:=x1))⟩,trivial⟩,
⟨⟨(by(try dsimp only at *);exact Nat.le_of_eq (ws_len (x:=x1)).symm)⟩,
(by(try dsimp only at *);exact ws_r (x:=x1))⟩,trivial,trivial⟩)
theorem ws_good:Good Tryd.prog 37 wsC/\FnOk Tryd.prog 37:=good_of tok conW1 (fn:=Tryd.f37) rfl (by decide+kernel) (fun _=>rfl) ws_keeps
def byIs (l:List Int):List Int:=l.flatMap byZ
def byLs (l:List Int):List Int:=byZ l.length++byIs l
def wlC:CT where
 X:=List Int × List Int
 pre:=fun x=>x.1.length<=100000/\x.2.length<=2000/\∀ n∈x.2,r64 n
 args:=fun x=>[.p 100000 0 0,.sl 100002 0 x.2.length]
 g0:=fun x=>wB 100000 100001 x.1++[(100002,.rows .bor kN x.2.length (encL encI x.2))]
 res:=fun _=>.tup []
 g1:=fun x=>wB 100000 1 (x.1++byLs x.2)++[(100001,.dead)]
theorem byIs_len (l:List Int):(byIs l).length<=10*l.length:=by
 induction l with
 |nil=>exact Nat.le_refl _
 |cons n l ih=>
  have:=byZ_len n
  unfold byIs at ih ⊢
  rw[List.flatMap_cons,List.length_append,List.length_cons]
  omega
def wlW (x:List Int × List Int) (i:Nat):List Int:=x.1++(byZ x.2.length++byIs (x.2.take i))
theorem wlW_0 {x:List Int × List Int}:wlW x 0=x.1++byZ x.2.length:=by unfold wlW byIs;simp
theorem wlW_s {x:List Int × List Int} {i:Nat} (h:(i:Int)<x.2.length):wlW x (i+1)=wlW x i++byZ (x.2.getD (0+(i:Int).toNat) default):=by
 have h:i<x.2.length:=by omega
 unfold wlW byIs
 rw[List.take_add_one,List.getElem?_eq_getElem h,Nat.zero_add,List.getD_eq_getElem?_getD,show(i:Int).toNat=i from rfl,List.getElem?_eq_getElem h,List.flatMap_append]
 simp only[Option.toList_some,List.flatMap_cons,List.flatMap_nil,List.append_nil,List.append_assoc,Option.getD_some]
theorem wlW_t {x:List Int × List Int} {i:Nat} (h1:¬ (i:Int)<x.2.length):wlW x i=x.1++byLs x.2:=by
 unfold wlW byLs
 rw[List.take_of_length_le (by omega)]
theorem wlW_len {x:List Int × List Int} (i:Nat) (h:x.1.length<=100000/\x.2.length<=2000/\∀ n∈x.2,r64 n):(wlW x i).length<=1000000:=by
 unfold wlW
 have h1:=byIs_len (x.2.take i)
 have h2:=byZ_len x.2.length
 have h3:(x.2.take i).length<=x.2.length:=by rw[List.length_take];exact Nat.min_le_right _ _
 rw[List.length_append,List.length_append]
 omega
def wlI (x:List Int × List Int) (id:Nat):Option Inv:=match id with
 |0=>some { X:=Nat,ok:=fun i=>i<=x.2.length,fr:=fun i=>[(0,.p 100000 0 0),(10,.sl 100002 0 x.2.length),(11,.i .i64 x.2.length),(12,.i .i64 i)],hp:=fun i=>wB 100000 331 (wlW x i)++[(100001,.dead),(100002,.rows .bor kN x.2.length (encL encI x.2))],me:=fun i=>x.2.length-i }
 |_=>none
set_option maxRecDepth 100000 in
theorem wl_keeps:Keeps cfgW1 Tryd.f38 wlC wlI:=Eq.mp (show((∀ x1:List Int × List Int,(((Prod.fst x1).length<=(100000:Nat)/\(Prod.snd x1).length<=(2000:Nat)/\∀(n:Int),n∈Prod.snd x1->r64 n)->(∃ x3:List Int × Int,(((r64 (Prod.snd x3))/\((Prod.fst x3).length<=(1000000:Nat)))/\(((0=0/\0=0)/\(((↑(Prod.snd x1).length:Int)=Prod.snd x3)/\True))/\((((0=0/\((Prod.fst x1).length=(Prod.fst x3).length))/\True)/\(((RLe (Prod.fst x3).length (Prod.fst x1).length)/\(RowsEq (.int IntKind.u8::[]) (Prod.fst x3).length (encL encI (Prod.fst x1)) (encL encI (Prod.fst x3))))/\True))/\(∃ x4:Nat,(((x4<=(Prod.snd x1).length)/\(((0=0/\0=0)/\((0=0/\((Prod.snd x1).length=(Prod.snd x1).length))/\(((↑(Prod.snd x1).length:Int)=(↑(Prod.snd x1).length:Int))/\((0=(x4:Int))/\(True/\(((↑(Prod.snd x1).length:Int)=(↑(Prod.snd x1).length:Int))/\((0=0/\((Prod.snd x1).length=(Prod.snd x1).length))/\((0=0/\0=0)/\((0=0/\((Prod.snd x1).length=(Prod.snd x1).length))/\True)))))))))/\(((0=0/\((Prod.fst x3++byZ (Prod.snd x3)).length=(wlW x1 x4).length))/\True)/\(((RLe (wlW x1 x4).length (Prod.fst x3++byZ (Prod.snd x3)).length)/\(RowsEq (.int IntKind.u8::[]) (wlW x1 x4).length (encL encI (Prod.fst x3++byZ (Prod.snd x3))) (encL encI (wlW x1 x4))))/\(True/\(((RLe (Prod.snd x1).length (Prod.snd x1).length)/\(RowsEq [.int .i64] (Prod.snd x1).length (encL encI (Prod.snd x1)) (encL encI (Prod.snd x1))))/\True))))))/\(∀ x5:Nat,((x5<=(Prod.snd x1).length)->(((decide ((x5:Int)<(↑(Prod.snd x1).length:Int))=true)->((((0:Int)<=(x5:Int))/\((x5:Int)<(↑(Prod.snd x1).length:Int)))/\((0+Int.toNat (x5:Int)<(Prod.snd x1).length)/\(∃ x8:List Int × Int,(((r64 (Prod.snd x8))/\((Prod.fst x8).length<=(1000000:Nat)))/\(((0=0/\0=0)/\(((Prod.snd x1).getD (0+Int.toNat (x5:Int)) default=Prod.snd x8)/\True))/\((((0=0/\((wlW x1 x5).length=(Prod.fst x8).length))/\True)/\(((RLe (Prod.fst x8).length (wlW x1 x5).length)/\(RowsEq (.int IntKind.u8::[]) (Prod.fst x8).length (encL encI (wlW x1 x5)) (encL encI (Prod.fst x8))))/\True))/\((((-9223372036854775808:Int)<=(x5:Int)+1)/\((x5:Int)+1<=(9223372036854775807:Int)))/\(∃ x9:Nat,(((Prod.snd x1).length-x9<(Prod.snd x1).length-x5)/\((x9<=(Prod.snd x1).length)/\(((0=0/\0=0)/\((0=0/\((Prod.snd x1).length=(Prod.snd x1).length))/\(((↑(Prod.snd x1).length:Int)=(↑(Prod.snd x1).length:Int))/\(((x5:Int)+1=(x9:Int))/\(True/\(((↑(Prod.snd x1).length:Int)=(↑(Prod.snd x1).length:Int))/\((0=0/\((Prod.snd x1).length=(Prod.snd x1).length))/\((0=0/\0=0)/\((0=0/\((Prod.snd x1).length=(Prod.snd x1).length))/\True)))))))))/\(((0=0/\((Prod.fst x8++byZ (Prod.snd x8)).length=(wlW x1 x9).length))/\True)/\(((RLe (wlW x1 x9).length (Prod.fst x8++byZ (Prod.snd x8)).length)/\(RowsEq (.int IntKind.u8::[]) (wlW x1 x9).length (encL encI (Prod.fst x8++byZ (Prod.snd x8))) (encL encI (wlW x1 x9))))/\(True/\(((RLe (Prod.snd x1).length (Prod.snd x1).length)/\(RowsEq [.int .i64] (Prod.snd x1).length (encL encI (Prod.snd x1)) (encL encI (Prod.snd x1))))/\True))))))))))))))))/\((decide ((x5:Int)<(↑(Prod.snd x1).length:Int))=false)->(True/\(((0=0/\((wlW x1 x5).length=(Prod.fst x1++byLs (Prod.snd x1)).length))/\True)/\(((RLe (Prod.fst x1++byLs (Prod.snd x1)).length (wlW x1 x5).length)/\(RowsEq (.int IntKind.u8::[]) (Prod.fst x1++byLs (Prod.snd x1)).length (encL encI (wlW x1 x5)) (encL encI (Prod.fst x1++byLs (Prod.snd x1)))))/\(True/\True)))))))))))))))))=(Keeps cfgW1 Tryd.f38 wlC wlI) by kernel_rfl) (fun x1=>fun h2=>⟨((Prod.fst x1,(↑(List.length (Prod.snd x1)):Int))),
⟨(by(try dsimp only at *);exact r64_len h2.2.1),
(by(try dsimp only at *);omega)⟩,
⟨⟨rfl,rfl⟩,rfl,trivial⟩,
⟨⟨⟨rfl,rfl⟩,trivial⟩,
⟨rl,rr⟩,trivial⟩,
((0:Nat)),
⟨(by(try dsimp only at *);omega),
⟨⟨rfl,rfl⟩,
⟨rfl,rfl⟩,rfl,
(by(try dsimp only at *);omega),trivial,rfl,
⟨rfl,rfl⟩,
⟨rfl,rfl⟩,
⟨rfl,rfl⟩,trivial⟩,
⟨⟨rfl,
(by(try dsimp only at *);exact qL (wlW_0 (x:=x1)).symm)⟩,trivial⟩,
⟨⟨(by(try dsimp only at *);exact qG (wlW_0 (x:=x1)).symm)⟩,
(by(try dsimp only at *);exact qR (wlW_0 (x:=x1)).symm)⟩,trivial,
⟨rl,rr⟩,trivial⟩,
fun x5=>fun h6=>⟨fun g7=>have h7:=dT g7;⟨⟨(by(try dsimp only at *);omega),
(by(try dsimp only at *);omega)⟩,
(by(try dsimp only at *);omega),
((wlW x1 x5,List.getD (Prod.snd x1) ((0:Nat)+Int.toNat (↑x5:Int)) default)),
⟨(by(try dsimp only at *);grind),
(by(try dsimp only at *);exact wlW_len _ h2)⟩,
⟨⟨rfl,rfl⟩,rfl,trivial⟩,
⟨⟨⟨rfl,rfl⟩,trivial⟩,
⟨rl,rr⟩,trivial⟩,
⟨(by(try dsimp only at *);omega),
(by(try dsimp only at *);omega)⟩,
(x5+(1:Nat)),
(by(try dsimp only at *);omega),
(by(try dsimp only at *);omega),
⟨⟨rfl,rfl⟩,
⟨rfl,rfl⟩,rfl,
(by(try dsimp only at *);omega),trivial,rfl,
⟨rfl,rfl⟩,
⟨rfl,rfl⟩,
⟨rfl,rfl⟩,trivial⟩,
⟨⟨rfl,
(by(try dsimp only at *);exact qL (wlW_s (x:=x1) h7).symm)⟩,trivial⟩,
⟨⟨(by(try dsimp only at *);exact qG (wlW_s (x:=x1) h7).symm)⟩,
(by(try dsimp only at *);exact qR (wlW_s (x:=x1) h7).symm)⟩,trivial,
⟨rl,rr⟩,trivial⟩,
fun g10=>have h10:=dF g10;⟨trivial,
⟨⟨rfl,
(by(try dsimp only at *);exact qL (wlW_t (x:=x1) h10))⟩,trivial⟩,
⟨⟨(by(try dsimp only at *);exact qG (wlW_t (x:=x1) h10))⟩,
(by(try dsimp only at *);exact qR (wlW_t (x:=x1) h10))⟩,trivial,trivial⟩⟩⟩)
theorem wl_good:Good Tryd.prog 38 wlC/\FnOk Tryd.prog 38:=good_of tok conW1 (fn:=Tryd.f38) rfl (by decide+kernel) (fun _=>rfl) wl_keeps
def weC:CT where
 X:=List Int
 pre:=fun x=>x.length<=1000000
 args:=fun x=>[.p 100000 0 0]
 g0:=fun x=>[(100000,.one .bor [.sl 100001 0 x.length]),(100001,.rows .bor kB x.length (encL encI x))]
 res:=fun x=>.sl 1 0 x.length
 g1:=fun x=>[(1,.rows .own kB x.length (encL encI x))]
theorem cpy_all {ks:List Kd} {n m:Nat} {f g:Nat->Nat->D} (h:n<=m):RowsEq ks n (cpyRows f 0 m g 0) g:=
 ⟨fun r hr=>rowEq_of_eq (by funext j;unfold cpyRows;rw[if_pos (by omega),Nat.zero_add,Nat.sub_zero])⟩
set_option maxRecDepth 100000 in
theorem we_keeps:Keeps cfgW1 Tryd.f39 weC noIv:=Eq.mp (show((∀ x1:List Int,((x1.length<=(1000000:Nat))->((((0:Int)<=(x1.length:Int))/\(((x1.length:Int)<=(x1.length:Int))/\((x1.length:Int)<=(↑(1073741824:Nat):Int))))/\(((0+Int.toNat (x1.length:Int)<=Int.toNat (x1.length:Int))/\((0:Nat)+x1.length<=x1.length))/\((0=0/\(Int.toNat (x1.length:Int)=x1.length))/\(((RLe x1.length (Int.toNat (x1.length:Int)))/\(RowsEq (.int IntKind.u8::[]) x1.length (cpyRows (fun(x j:Nat)=>zRow (.int IntKind.u8::[]) j) 0 (min x1.length (Int.toNat (x1.length:Int))) (encL encI x1) 0) (encL encI x1)))/\True)))))))=(Keeps cfgW1 Tryd.f39 weC noIv) by kernel_rfl) (fun x1=>fun h2=>⟨⟨(by omega),
(by omega),
(by omega)⟩,
⟨(by omega),
(by omega)⟩,
⟨rfl,
(by omega)⟩,
⟨⟨(by omega)⟩,
(by exact cpy_all (by omega))⟩,trivial⟩)
theorem we_good:Good Tryd.prog 39 weC/\FnOk Tryd.prog 39:=good_of tok conW1 (fn:=Tryd.f39) rfl (by decide+kernel) (fun _=>rfl) we_keeps
end Go.Sym