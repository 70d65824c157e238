import Derived.Test.YtcghhlodddpmaaaDoorV5
import Derived.Test.YtcghhlodddpmaaaDoorXD
namespace Go.Sym
set_option linter.unusedVariables false
set_option linter.unusedSimpArgs false
open Go.Proofs
set_option maxRecDepth 100000
set_option maxHeartbeats 4000000
def cfgI:Cfg:=⟨T,[6,7,13,14,15,22,23,30],[],noInv,60,{}⟩
theorem conI:ConOk Tryd.prog cfgI:=ConL.ok .nil
def iiC:CT where
 X:=Int
 pre:=r64
 args:=fun n=>[.i .i64 n]
 g0:=fun _=>[]
 res:=fun n=>.sl 1 0 (byZ n).length
 g1:=fun n=>[(1,.rows .own kB (byZ n).length (encL encI (byZ n)))]
def iiP (n:Int) (s:WI):Prop:=wiP ([],n) s/\s.u<18446744073709551616
def iiI (n:Int) (id:Nat):Option Inv:=match id with
 |0=>some { X:=WI,ok:=fun s=>iiP n s,fr:=fun s=>[(3,.i .u64 s.u),(4,.sl 331 0 s.W.length)],hp:=fun s=>[(331,.rows .own kB s.W.length (encL encI s.W))],me:=fun s=>s.k }
 |_=>none
theorem ii_a {n:Int} (h:r64 n) (h1:n<0): -9223372036854775808<=n+1:=by unfold r64 at h;omega
theorem ii_b {n:Int} (h:r64 n) (h1:n<0):0-(n+1)<=9223372036854775807:=by unfold r64 at h;omega
theorem ii_0 {n:Int} (h:r64 n):iiP n ⟨[],10,zz n⟩:=⟨wi_0 (x:=([],n)) h,zz_lt h⟩
theorem ii_n {n:Int} (h:r64 n) (h1:n<0):IntKind.u64.wrap (IntKind.u64.wrap (IntKind.u64.wrap (0-(n+1))*2)+1)=((zz n:Nat):Int):=by
 unfold r64 at h
 rw[wrap64,wrap64,wrap64]
 unfold zz
 rw[if_neg (by omega)]
 omega
theorem ii_p {n:Int} (h:r64 n) (h1:¬ n<0):IntKind.u64.wrap (IntKind.u64.wrap n*2)=((zz n:Nat):Int):=by
 unfold r64 at h
 rw[wrap64,wrap64]
 unfold zz
 rw[if_pos (by omega)]
 omega
theorem ii_l {n:Int} {s:WI} (h:iiP n s):s.W.length+1<=1073741824:=wi_len h.1 (Nat.zero_le _)
theorem ii_s {n:Int} {s:WI} (h:iiP n s) (h1:128<=(s.u:Int)):iiP n ⟨s.W++[((s.u%128+128:Nat):Int)],s.k-1,s.u / 128⟩/\s.k-1<s.k:=by
 have h2:=wi_s h.1 h1
 have h3:=h.2
 exact⟨⟨h2.1,(by show s.u / 128<_;omega)⟩,h2.2⟩
theorem ii_q {n:Int} {s:WI} (h:iiP n s):(s.u:Int) / 128<=18446744073709551615:=by have:=h.2;omega
theorem ii_8 (u:Nat):IntKind.u8.wrap (IntKind.u8.wrap ((u:Int)%128)+128)=((u%128+128:Nat):Int):=by
 have w8:∀ a:Int,IntKind.u8.wrap a=a%256:=fun a=>by simp[IntKind.wrap,IntKind.signed,IntKind.bits]
 rw[w8,w8]
 omega
theorem ii_t1 {n:Int} {s:WI} (h:iiP n s) (h1:¬ 128<=(s.u:Int)):s.W.length+1=(byZ n).length:=wi_t1 h.1 h1
theorem ii_t3 {n:Int} {s:WI} (h:iiP n s) (h1:¬ 128<=(s.u:Int)):RowsEq kB (byZ n).length (appRows s.W.length (encL encI s.W) 0 (litRows [[D.i (IntKind.u8.wrap s.u)]])) (encL encI (byZ n)):=wi_t3 h.1 h1
set_option maxRecDepth 100000 in
theorem ii_keeps:Keeps cfgI Tryd.f64 iiC iiI:=Eq.mp (show((∀ x1:Int,((r64 x1)->(((decide (x1<0)=true)->((((-9223372036854775808:Int)<=x1+1)/\(x1+1<=(9223372036854775807:Int)))/\((((-9223372036854775808:Int)<=(0:Int)-(x1+1))/\((0:Int)-(x1+1)<=(9223372036854775807:Int)))/\(True/\(∃ x4:WI,(((iiP x1 x4)/\(((IntKind.wrap .u64 (IntKind.wrap .u64 (IntKind.wrap .u64 ((0:Int)-(x1+1))*2)+1)=(x4.u:Int))/\((0=0/\((0:Nat)=x4.W.length))/\((IntKind.wrap .u64 (IntKind.wrap .u64 (IntKind.wrap .u64 ((0:Int)-(x1+1))*2)+1)=IntKind.wrap .u64 (IntKind.wrap .u64 (IntKind.wrap .u64 ((0:Int)-(x1+1))*2)+1))/\((IntKind.wrap .u64 (IntKind.wrap .u64 ((0:Int)-(x1+1))*2)=IntKind.wrap .u64 (IntKind.wrap .u64 ((0:Int)-(x1+1))*2))/\((IntKind.wrap .u64 ((0:Int)-(x1+1))=IntKind.wrap .u64 ((0:Int)-(x1+1)))/\(((0:Int)-(x1+1)=(0:Int)-(x1+1))/\((x1+1=x1+1)/\(x1=x1/\((decide (x1<0)=decide (x1<0))/\(x1=x1/\((IntKind.wrap .u64 (IntKind.wrap .u64 x1*2)=IntKind.wrap .u64 (IntKind.wrap .u64 x1*2))/\((IntKind.wrap .u64 x1=IntKind.wrap .u64 x1)/\(x1=x1/\(True/\(x1=x1/\True)))))))))))))))/\(((RLe x4.W.length 0)/\(RowsEq (.int IntKind.u8::[]) x4.W.length (litRows (@List.nil (List D))) (encL encI x4.W)))/\True)))/\(∀ x5:WI,((iiP x1 x5)->(((decide ((128:Int)<=(x5.u:Int))=true)->((((0:Int)<=(x5.u:Int))/\((0:Int)<128))/\(((True/\True)/\True)/\((0=0/\((x5.W.length<=x5.W.length)/\(((1:Nat)<=(1:Nat))/\(x5.W.length+(1:Nat)<=(1073741824:Nat)))))/\((((0:Int)<=(x5.u:Int))/\(((0:Int)<128)/\(((0:Int)<=(x5.u:Int) / 128)/\((x5.u:Int) / 128<=(18446744073709551615:Int)))))/\(∃ x8:WI,((x8.k<x5.k)/\((iiP x1 x8)/\((((x5.u:Int) / 128=(x8.u:Int))/\((0=0/\(x5.W.length+(1:Nat)=x8.W.length))/\((IntKind.wrap .u64 (IntKind.wrap .u64 (IntKind.wrap .u64 ((0:Int)-(x1+1))*2)+1)=IntKind.wrap .u64 (IntKind.wrap .u64 (IntKind.wrap .u64 ((0:Int)-(x1+1))*2)+1))/\((IntKind.wrap .u64 (IntKind.wrap .u64 ((0:Int)-(x1+1))*2)=IntKind.wrap .u64 (IntKind.wrap .u64 ((0:Int)-(x1+1))*2))/\((IntKind.wrap .u64 ((0:Int)-(x1+1))=IntKind.wrap .u64 ((0:Int)-(x1+1)))/\(((0:Int)-(x1+1)=(0:Int)-(x1+1))/\((x1+1=x1+1)/\(x1=x1/\((decide (x1<0)=decide (x1<0))/\(x1=x1/\((IntKind.wrap .u64 (IntKind.wrap .u64 x1*2)=IntKind.wrap .u64 (IntKind.wrap .u64 x1*2))/\((IntKind.wrap .u64 x1=IntKind.wrap .u64 x1)/\(x1=x1/\(True/\(x1=x1/\True)))))))))))))))/\(((RLe x8.W.length (x5.W.length+(1:Nat)))/\(RowsEq (.int IntKind.u8::[]) x8.W.length (appRows x5.W.length (encL encI x5.W) 0 (litRows ((D.i (IntKind.wrap IntKind.u8 (IntKind.wrap IntKind.u8 ((x5.u:Int)%128)+128))::@List.nil D)::@List.nil (List D)))) (encL encI x8.W)))/\True))))))))))/\((decide ((128:Int)<=(x5.u:Int))=false)->(((True/\True)/\True)/\((0=0/\((x5.W.length<=x5.W.length)/\(((1:Nat)<=(1:Nat))/\(x5.W.length+(1:Nat)<=(1073741824:Nat)))))/\((0=0/\(x5.W.length+(1:Nat)=(byZ x1).length))/\(((RLe (byZ x1).length (x5.W.length+(1:Nat)))/\(RowsEq (.int IntKind.u8::[]) (byZ x1).length (appRows x5.W.length (encL encI x5.W) 0 (litRows ((D.i (IntKind.wrap IntKind.u8 (x5.u:Int))::@List.nil D)::@List.nil (List D)))) (encL encI (byZ x1))))/\True))))))))))))))/\((decide (x1<0)=false)->(True/\(∃ x11:WI,(((iiP x1 x11)/\(((IntKind.wrap .u64 (IntKind.wrap .u64 x1*2)=(x11.u:Int))/\((0=0/\((0:Nat)=x11.W.length))/\((decide (x1<0)=decide (x1<0))/\(x1=x1/\((IntKind.wrap .u64 (IntKind.wrap .u64 x1*2)=IntKind.wrap .u64 (IntKind.wrap .u64 x1*2))/\((IntKind.wrap .u64 x1=IntKind.wrap .u64 x1)/\(x1=x1/\(True/\(x1=x1/\True)))))))))/\(((RLe x11.W.length 0)/\(RowsEq (.int IntKind.u8::[]) x11.W.length (litRows (@List.nil (List D))) (encL encI x11.W)))/\True)))/\(∀ x12:WI,((iiP x1 x12)->(((decide ((128:Int)<=(x12.u:Int))=true)->((((0:Int)<=(x12.u:Int))/\((0:Int)<128))/\(((True/\True)/\True)/\((0=0/\((x12.W.length<=x12.W.length)/\(((1:Nat)<=(1:Nat))/\(x12.W.length+(1:Nat)<=(1073741824:Nat)))))/\((((0:Int)<=(x12.u:Int))/\(((0:Int)<128)/\(((0:Int)<=(x12.u:Int) / 128)/\((x12.u:Int) / 128<=(18446744073709551615:Int)))))/\(∃ x15:WI,((x15.k<x12.k)/\((iiP x1 x15)/\((((x12.u:Int) / 128=(x15.u:Int))/\((0=0/\(x12.W.length+(1:Nat)=x15.W.length))/\((decide (x1<0)=decide (x1<0))/\(x1=x1/\((IntKind.wrap .u64 (IntKind.wrap .u64 x1*2)=IntKind.wrap .u64 (IntKind.wrap .u64 x1*2))/\((IntKind.wrap .u64 x1=IntKind.wrap .u64 x1)/\(x1=x1/\(True/\(x1=x1/\True)))))))))/\(((RLe x15.W.length (x12.W.length+(1:Nat)))/\(RowsEq (.int IntKind.u8::[]) x15.W.length (appRows x12.W.length (encL encI x12.W) 0 (litRows ((D.i (IntKind.wrap IntKind.u8 (IntKind.wrap IntKind.u8 ((x12.u:Int)%128)+128))::@List.nil D)::@List.nil (List D)))) (encL encI x15.W)))/\True))))))))))/\((decide ((128:Int)<=(x12.u:Int))=false)->(((True/\True)/\True)/\((0=0/\((x12.W.length<=x12.W.length)/\(((1:Nat)<=(1:Nat))/\(x12.W.length+(1:Nat)<=(1073741824:Nat)))))/\((0=0/\(x12.W.length+(1:Nat)=(byZ x1).length))/\(((RLe (byZ x1).length (x12.W.length+(1:Nat)))/\(RowsEq (.int IntKind.u8::[]) (byZ x1).length (appRows x12.W.length (encL encI x12.W) 0 (litRows ((D.i (IntKind.wrap IntKind.u8 (x12.u:Int))::@List.nil D)::@List.nil (List D)))) (encL encI (byZ x1))))/\True))))))))))))))))=(Keeps cfgI Tryd.f64 iiC iiI) by kernel_rfl) (fun x1=>fun h2=>⟨fun g3=>have h3:=dT g3;⟨⟨(by exact ii_a h2 h3),
(by omega)⟩,
⟨(by omega),
(by exact ii_b h2 h3)⟩,trivial,
({ W:=@List.nil Int,k:=(10:Nat),u:=zz x1:WI }),
⟨(by(try dsimp only at *);exact ii_0 h2),
⟨(by(try dsimp only at *);exact ii_n h2 h3),
⟨rfl,
(by(try dsimp only at *);grind)⟩,rfl,rfl,rfl,rfl,rfl,rfl,rfl,rfl,rfl,rfl,rfl,trivial,rfl,trivial⟩,
⟨⟨(by(try dsimp only at *);grind)⟩,
(by(try dsimp only at *);exact rr)⟩,trivial⟩,
fun x5=>fun h6=>⟨fun g7=>have h7:=dT g7;⟨⟨(by(try dsimp only at *);omega),
(by(try dsimp only at *);omega)⟩,
⟨⟨trivial,trivial⟩,trivial⟩,
⟨rfl,
(by(try dsimp only at *);omega),
(by(try dsimp only at *);omega),
(by(try dsimp only at *);exact ii_l ‹_›)⟩,
⟨(by(try dsimp only at *);omega),
(by(try dsimp only at *);omega),
(by(try dsimp only at *);omega),
(by(try dsimp only at *);exact ii_q ‹_›)⟩,
({ W:=WI.W x5++(↑(WI.u x5%(128:Nat)+(128:Nat)):Int)::@List.nil Int,k:=WI.k x5-(1:Nat),u:=WI.u x5 / (128:Nat):WI }),
(by(try dsimp only at *);exact(ii_s ‹_› ‹_›).2),
(by(try dsimp only at *);exact(ii_s ‹_› ‹_›).1),
⟨(by(try dsimp only at *);omega),
⟨rfl,
(by(try dsimp only at *);grind)⟩,rfl,rfl,rfl,rfl,rfl,rfl,rfl,rfl,rfl,rfl,rfl,trivial,rfl,trivial⟩,
⟨⟨(by(try dsimp only at *);grind)⟩,
(by(try dsimp only at *);exact wi_r (ii_8 _) (Nat.le_of_eq app_len.symm))⟩,trivial⟩,
fun g9=>have h9:=dF g9;⟨⟨⟨trivial,trivial⟩,trivial⟩,
⟨rfl,
(by(try dsimp only at *);omega),
(by(try dsimp only at *);omega),
(by(try dsimp only at *);exact ii_l ‹_›)⟩,
⟨rfl,
(by(try dsimp only at *);exact ii_t1 ‹_› ‹_›)⟩,
⟨⟨(by(try dsimp only at *);exact Nat.le_of_eq (ii_t1 ‹_› ‹_›).symm)⟩,
(by(try dsimp only at *);exact ii_t3 ‹_› ‹_›)⟩,trivial⟩⟩⟩,
fun g10=>have h10:=dF g10;⟨trivial,
({ W:=@List.nil Int,k:=(10:Nat),u:=zz x1:WI }),
⟨(by(try dsimp only at *);exact ii_0 h2),
⟨(by(try dsimp only at *);exact ii_p h2 h10),
⟨rfl,
(by(try dsimp only at *);grind)⟩,rfl,rfl,rfl,rfl,rfl,trivial,rfl,trivial⟩,
⟨⟨(by(try dsimp only at *);grind)⟩,
(by(try dsimp only at *);exact rr)⟩,trivial⟩,
fun x12=>fun h13=>⟨fun g14=>have h14:=dT g14;⟨⟨(by(try dsimp only at *);omega),
(by(try dsimp only at *);omega)⟩,
⟨⟨trivial,trivial⟩,trivial⟩,
⟨rfl,
(by(try dsimp only at *);omega),
(by(try dsimp only at *);omega),
(by(try dsimp only at *);exact ii_l ‹_›)⟩,
⟨(by(try dsimp only at *);omega),
(by(try dsimp only at *);omega),
(by(try dsimp only at *);omega),
(by(try dsimp only at *);exact ii_q ‹_›)⟩,
({ W:=WI.W x12++(↑(WI.u x12%(128:Nat)+(128:Nat)):Int)::@List.nil Int,k:=WI.k x12-(1:Nat),u:=WI.u x12 / (128:Nat):WI }),
(by(try dsimp only at *);exact(ii_s ‹_› ‹_›).2),
(by(try dsimp only at *);exact(ii_s ‹_› ‹_›).1),
⟨(by(try dsimp only at *);omega),
⟨rfl,
(by(try dsimp only at *);grind)⟩,rfl,rfl,rfl,rfl,rfl,trivial,rfl,trivial⟩,
⟨⟨(by(try dsimp only at *);grind)⟩,
(by(try dsimp only at *);exact wi_r (ii_8 _) (Nat.le_of_eq app_len.symm))⟩,trivial⟩,
fun g16=>have h16:=dF g16;⟨⟨⟨trivial,trivial⟩,trivial⟩,
⟨rfl,
(by(try dsimp only at *);omega),
(by(try dsimp only at *);omega),
(by(try dsimp only at *);exact ii_l ‹_›)⟩,
⟨rfl,
(by(try dsimp only at *);exact ii_t1 ‹_› ‹_›)⟩,
⟨⟨(by(try dsimp only at *);exact Nat.le_of_eq (ii_t1 ‹_› ‹_›).symm)⟩,
(by(try dsimp only at *);exact ii_t3 ‹_› ‹_›)⟩,trivial⟩⟩⟩⟩)
theorem ii_good:Good Tryd.prog 64 iiC/\FnOk Tryd.prog 64:=good_of tok conI (fn:=Tryd.f64) rfl (by decide+kernel) (fun _=>rfl) ii_keeps
def cfgI1:Cfg:=⟨T,[],[(64,.one iiC)],noInv,60,{}⟩
theorem conI1:ConOk Tryd.prog cfgI1:=ConL.ok (.cons (ConL.one ii_good) .nil)
theorem appE {n:Nat} {a b:List Int} (hn:n=a.length):appRows n (encL encI a) 0 (encL encI b)=encL encI (a++b):=by
 subst hn
 funext i j
 unfold appRows encL encI
 congr 1
 by_cases h:i<a.length
 ·simp[h,List.getD_eq_getElem?_getD,List.getElem?_append_left h]
 ·simp[h,List.getD_eq_getElem?_getD,List.getElem?_append_right (Nat.not_lt.1 h)]
def isC:CT where
 X:=List Int
 pre:=fun x=>x.length<=3000/\∀ n∈x,r64 n
 args:=fun x=>[.sl 100001 0 x.length]
 g0:=fun x=>[(100001,.rows .bor kN x.length (encL encI x))]
 res:=fun x=>.sl 1 0 (byIs x).length
 g1:=fun x=>[(1,.rows .own kB (byIs x).length (encL encI (byIs x)))]
def isW (x:List Int) (i:Nat):List Int:=byIs (x.take i)
theorem isW_s {x:List Int} {i:Nat} (h:(i:Int)<x.length):isW x i++byZ (x.getD (0+(i:Int).toNat) default)=isW x (i+1):=by
 have h:i<x.length:=by omega
 unfold isW byIs
 rw[List.take_add_one,List.getElem?_eq_getElem h,Nat.zero_add,List.getD_eq_getElem?_getD,show(i:Int).toNat=i from rfl,List.getElem?_eq_getElem h,List.flatMap_append]
 simp only[Option.toList_some,List.flatMap_cons,List.flatMap_nil,List.append_nil,Option.getD_some]
theorem isW_t {x:List Int} {i:Nat} (h:¬ (i:Int)<x.length):isW x i=byIs x:=by unfold isW;rw[List.take_of_length_le (by omega)]
theorem isW_len {x:List Int} {i:Nat} (h:x.length<=3000) (n:Int):(isW x i).length+(byZ n).length<=1073741824:=by
 have h1:=byIs_len (x.take i)
 have h2:=byZ_len n
 have h3:(x.take i).length<=x.length:=by rw[List.length_take];exact Nat.min_le_right _ _
 unfold isW
 omega
def isI (x:List Int) (id:Nat):Option Inv:=match id with
 | 0 => some { X := Nat, ok := fun i => i <= x.length, fr := fun i => [(0, .sl 100001 0 x.length), (3, .sl 331 0 (isW x i).length), (4, .i .i64 i)],
               hp:=fun i=>[(100001,.rows .bor kN x.length (encL encI x)),(331,.rows .own kB (isW x i).length (encL encI (isW x i)))],me:=fun i=>x.length-i }
 |_=>none
theorem is_rows {x:List Int} {i k:Nat} (h:(i:Int)<x.length):RowsEq kB k (appRows (isW x i).length (encL encI (isW x i)) 0 (encL encI (byZ (x.getD (0+(i:Int).toNat) default)))) (encL encI (isW x (i+1))):=by rw[appE rfl,isW_s h];exact rr
theorem is_len {x:List Int} {i:Nat} (h:(i:Int)<x.length):(isW x i).length+(byZ (x.getD (0+(i:Int).toNat) default)).length=(isW x (i+1)).length:=by rw[<- isW_s h,List.length_append]
set_option maxRecDepth 100000 in
theorem is_keeps:Keeps cfgI1 Tryd.f40 isC isI:=Eq.mp (show((∀ x1:List Int,((x1.length<=(3000:Nat)/\∀(n:Int),n∈x1->r64 n)->(∃ x3:Nat,(((x3<=x1.length)/\(((0=0/\x1.length=x1.length)/\((True/\(0=0/\((isW x1 x3).length=(0:Nat))))/\((0=(x3:Int))/\(True/\True))))/\(((RLe x1.length x1.length)/\(RI x1.length x1 x1))/\(((isW x1 x3).length=(0:Nat))/\True))))/\(∀ x4:Nat,((x4<=x1.length)->(((decide ((x4:Int)<(x1.length:Int))=true)->((((0:Int)<=(x4:Int))/\((x4:Int)<(x1.length:Int)))/\((0+Int.toNat (x4:Int)<x1.length)/\(∃ x7:Int,((r64 x7)/\(((x1.getD (0+Int.toNat (x4:Int)) default=x7)/\True)/\(True/\((0=0/\(((isW x1 x4).length<=(isW x1 x4).length)/\(((0:Nat)+(byZ x7).length<=(byZ x7).length)/\((isW x1 x4).length+(byZ x7).length<=(1073741824:Nat)))))/\((((-9223372036854775808:Int)<=(x4:Int)+1)/\((x4:Int)+1<=(9223372036854775807:Int)))/\(∃ x8:Nat,((x1.length-x8<x1.length-x4)/\((x8<=x1.length)/\(((0=0/\x1.length=x1.length)/\((0=0/\((isW x1 x4).length+(byZ x7).length=(isW x1 x8).length))/\(((x4:Int)+1=(x8:Int))/\(True/\True))))/\(((RLe x1.length x1.length)/\(RI x1.length x1 x1))/\(((RLe (isW x1 x8).length ((isW x1 x4).length+(byZ x7).length))/\(RowsEq (.int IntKind.u8::[]) (isW x1 x8).length (appRows (isW x1 x4).length (encL encI (isW x1 x4)) 0 (encL encI (byZ x7))) (encL encI (isW x1 x8))))/\True)))))))))))))))/\((decide ((x4:Int)<(x1.length:Int))=false)->((0=0/\((isW x1 x4).length=(byIs x1).length))/\(((RLe (byIs x1).length (isW x1 x4).length)/\(RowsEq (.int IntKind.u8::[]) (byIs x1).length (encL encI (isW x1 x4)) (encL encI (byIs x1))))/\True)))))))))))=(Keeps cfgI1 Tryd.f40 isC isI) by kernel_rfl) (fun x1=>fun h2=>⟨((0:Nat)),
⟨(by(try dsimp only at *);omega),
⟨⟨rfl,rfl⟩,
⟨trivial,rfl,
(by(try dsimp only at *);rfl)⟩,
(by(try dsimp only at *);omega),trivial,trivial⟩,
⟨rl,rr⟩,
(by(try dsimp only at *);rfl),trivial⟩,
fun x4=>fun h5=>⟨fun g6=>have h6:=dT g6;⟨⟨(by(try dsimp only at *);omega),
(by(try dsimp only at *);omega)⟩,
(by(try dsimp only at *);omega),
(List.getD x1 ((0:Nat)+Int.toNat (↑x4:Int)) default),
(by(try dsimp only at *);grind),
⟨rfl,trivial⟩,trivial,
⟨rfl,
(by(try dsimp only at *);omega),
(by(try dsimp only at *);omega),
(by(try dsimp only at *);exact isW_len h2.1 _)⟩,
⟨(by(try dsimp only at *);omega),
(by(try dsimp only at *);omega)⟩,
(x4+(1:Nat)),
(by(try dsimp only at *);omega),
(by(try dsimp only at *);omega),
⟨⟨rfl,rfl⟩,
⟨rfl,
(by(try dsimp only at *);exact is_len h6)⟩,
(by(try dsimp only at *);omega),trivial,trivial⟩,
⟨rl,rr⟩,
⟨⟨(by(try dsimp only at *);exact Nat.le_of_eq (is_len h6).symm)⟩,
(by(try dsimp only at *);exact is_rows h6)⟩,trivial⟩,
fun g9=>have h9:=dF g9;⟨⟨rfl,
(by(try dsimp only at *);exact qL (isW_t h9))⟩,
⟨⟨(by(try dsimp only at *);exact qG (isW_t h9))⟩,
(by(try dsimp only at *);exact qR (isW_t h9))⟩,trivial⟩⟩⟩)
theorem is_good:Good Tryd.prog 40 isC/\FnOk Tryd.prog 40:=good_of tok conI1 (fn:=Tryd.f40) rfl (by decide+kernel) (fun _=>rfl) is_keeps
def cfgI2:Cfg:=⟨T,[],[(40,.one isC)],noInv,60,{}⟩
theorem conI2:ConOk Tryd.prog cfgI2:=ConL.ok (.cons (ConL.one is_good) .nil)
theorem lit1 {n:Int}:RowsEq kN [n].length (litRows [[D.i n]]) (encL encI [n]):=by
 refine⟨fun r hr=>?_⟩
 have hr:r<1:=hr
 have:r=0:=by omega
 subst this
 exact⟨rfl,trivial⟩
theorem byIs1 (n:Int):byIs [n]=byZ n:=by unfold byIs;simp
theorem is1 {n:Int} (h:r64 n):[n].length<=3000/\∀ m∈[n],r64 m:=⟨(by show 1<=3000;omega),fun m hm=>by simp at hm;subst hm;exact h⟩
def txC:CT where
 X:=ByteArray
 pre:=fun x=>x.size<=100000
 args:=fun x=>[.s x]
 g0:=fun _=>[]
 res:=fun x=>.sl 1 0 (bySt x).length
 g1:=fun x=>[(1,.rows .own kB (bySt x).length (encL encI (bySt x)))]
theorem tx_len {x:ByteArray}:(byIs [(x.size:Int)]).length+x.size=(bySt x).length:=by
 unfold bySt
 rw[byIs1,List.length_append,strL_len]
theorem tx_cap {x:ByteArray} (h:x.size<=100000):(byIs [(x.size:Int)]).length+x.size<=1073741824:=by
 have:=byZ_len (x.size:Int)
 rw[byIs1]
 omega
theorem tx_rows {x:ByteArray} {k:Nat}:RowsEq kB k (appRows (byIs [(x.size:Int)]).length (encL encI (byIs [(x.size:Int)])) 0 (strRows x)) (encL encI (bySt x)):=by
 rw[strL_rows,appE rfl,byIs1]
 exact rr
theorem tx_r {x:ByteArray} (h:x.size<=100000):r64 (x.size:Int):=by unfold r64;omega
set_option maxRecDepth 100000 in
theorem tx_keeps:Keeps cfgI2 Tryd.f41 txC noIv:=Eq.mp (show((∀ x1:ByteArray,((ByteArray.size x1<=(100000:Nat))->(((True/\True)/\True)/\(∃ x3:List Int,(((x3.length<=(3000:Nat))/\(∀ n4:Int,((n4∈x3)->(r64 n4))))/\(((0=0/\((1:Nat)=x3.length))/\True)/\((((RLe x3.length 1)/\(RowsEq [.int .i64] x3.length (litRows ((D.i (↑(ByteArray.size x1):Int)::@List.nil D)::@List.nil (List D))) (encL encI x3)))/\True)/\((0=0/\(((byIs x3).length<=(byIs x3).length)/\((byIs x3).length+ByteArray.size x1<=(1073741824:Nat))))/\((0=0/\((byIs x3).length+ByteArray.size x1=(bySt x1).length))/\(((RLe (bySt x1).length ((byIs x3).length+ByteArray.size x1))/\(RowsEq (.int IntKind.u8::[]) (bySt x1).length (appRows (byIs x3).length (encL encI (byIs x3)) 0 (strRows x1)) (encL encI (bySt x1))))/\True)))))))))))=(Keeps cfgI2 Tryd.f41 txC noIv) by kernel_rfl) (fun x1=>fun h2=>⟨⟨⟨trivial,trivial⟩,trivial⟩,
((↑(ByteArray.size x1):Int)::@List.nil Int),
⟨(by(try dsimp only at *);grind),
fun n4=>fun h5=>(by(try dsimp only at *);exact(is1 (tx_r h2)).2 _ ‹_›)⟩,
⟨⟨rfl,
(by(try dsimp only at *);grind)⟩,trivial⟩,
⟨⟨⟨(by(try dsimp only at *);grind)⟩,
(by(try dsimp only at *);exact lit1)⟩,trivial⟩,
⟨rfl,
(by(try dsimp only at *);omega),
(by(try dsimp only at *);exact tx_cap h2)⟩,
⟨rfl,
(by(try dsimp only at *);exact tx_len)⟩,
⟨⟨(by(try dsimp only at *);exact Nat.le_of_eq tx_len.symm)⟩,
(by(try dsimp only at *);exact tx_rows)⟩,trivial⟩)
theorem tx_good:Good Tryd.prog 41 txC/\FnOk Tryd.prog 41:=good_of tok conI2 (fn:=Tryd.f41) rfl (by decide+kernel) (fun _=>rfl) tx_keeps
def liC:CT where
 X:=List Int
 pre:=fun x=>x.length<=2000/\∀ n∈x,r64 n
 args:=fun x=>[.sl 100001 0 x.length]
 g0:=fun x=>[(100001,.rows .bor kN x.length (encL encI x))]
 res:=fun x=>.sl 1 0 (byLs x).length
 g1:=fun x=>[(1,.rows .own kB (byLs x).length (encL encI (byLs x)))]
def liW (x:List Int) (i:Nat):List Int:=byIs [(x.length:Int)]++byIs (x.take i)
theorem liW_s {x:List Int} {i:Nat} (h:(i:Int)<x.length):liW x i++byIs [x.getD (0+(i:Int).toNat) default]=liW x (i+1):=by
 unfold liW
 rw[List.append_assoc,byIs1 (x.getD _ _),show byIs (x.take i)++byZ (x.getD (0+(i:Int).toNat) default)=byIs (x.take (i+1))from isW_s h]
theorem liW_t {x:List Int} {i:Nat} (h:¬ (i:Int)<x.length):liW x i=byLs x:=by unfold liW byLs;rw[List.take_of_length_le (by omega),byIs1]
theorem liW_0 {x:List Int}:byIs [(x.length:Int)]=liW x 0:=by unfold liW;simp[byIs]
theorem li_cap {x:List Int} {i:Nat} (h:x.length<=2000) (n:Int):(liW x i).length+(byIs [n]).length<=1073741824:=by
 have h1:=byIs_len (x.take i)
 have h2:=byZ_len n
 have h4:=byZ_len (x.length:Int)
 have h3:(x.take i).length<=x.length:=by rw[List.length_take];exact Nat.min_le_right _ _
 unfold liW
 rw[byIs1,byIs1,List.length_append]
 omega
theorem li_len {x:List Int} {i:Nat} (h:(i:Int)<x.length):(liW x i).length+(byIs [x.getD (0+(i:Int).toNat) default]).length=(liW x (i+1)).length:=by rw[<- liW_s h,List.length_append]
theorem li_rows {x:List Int} {i k:Nat} (h:(i:Int)<x.length):RowsEq kB k (appRows (liW x i).length (encL encI (liW x i)) 0 (encL encI (byIs [x.getD (0+(i:Int).toNat) default]))) (encL encI (liW x (i+1))):=by rw[appE rfl,liW_s h];exact rr
def liI (x:List Int) (id:Nat):Option Inv:=match id with
 | 0 => some { X := Nat, ok := fun i => i <= x.length, fr := fun i => [(0, .sl 100001 0 x.length), (3, .sl 331 0 (liW x i).length), (4, .i .i64 i)],
               hp:=fun i=>[(100001,.rows .bor kN x.length (encL encI x)),(331,.rows .own kB (liW x i).length (encL encI (liW x i)))],me:=fun i=>x.length-i }
 |_=>none
set_option maxRecDepth 100000 in
theorem li_keeps:Keeps cfgI2 Tryd.f42 liC liI:=Eq.mp (show((∀ x1:List Int,((x1.length<=(2000:Nat)/\∀(n:Int),n∈x1->r64 n)->(((True/\True)/\True)/\(∃ x3:List Int,(((x3.length<=(3000:Nat))/\(∀ n4:Int,((n4∈x3)->(r64 n4))))/\(((0=0/\((1:Nat)=x3.length))/\True)/\((((RLe x3.length 1)/\(RowsEq [.int .i64] x3.length (litRows ((D.i (x1.length:Int)::@List.nil D)::@List.nil (List D))) (encL encI x3)))/\True)/\(∃ x6:Nat,(((x6<=x1.length)/\(((0=0/\x1.length=x1.length)/\((0=0/\((byIs x3).length=(liW x1 x6).length))/\((0=(x6:Int))/\((0=0/\((1:Nat)=(1:Nat)))/\(((x1.length:Int)=(x1.length:Int))/\((0=0/\x1.length=x1.length)/\(True/\True)))))))/\(((RLe x1.length x1.length)/\(RI x1.length x1 x1))/\(((RLe (liW x1 x6).length (byIs x3).length)/\(RowsEq (.int IntKind.u8::[]) (liW x1 x6).length (encL encI (byIs x3)) (encL encI (liW x1 x6))))/\((RLe 1 1/\(RowsEq [.int .i64] 1 (litRows ((D.i (x1.length:Int)::@List.nil D)::@List.nil (List D))) (litRows ((D.i (x1.length:Int)::@List.nil D)::@List.nil (List D)))))/\True)))))/\(∀ x7:Nat,((x7<=x1.length)->(((decide ((x7:Int)<(x1.length:Int))=true)->((((0:Int)<=(x7:Int))/\((x7:Int)<(x1.length:Int)))/\((0+Int.toNat (x7:Int)<x1.length)/\(((True/\True)/\True)/\(∃ x10:List Int,(((x10.length<=(3000:Nat))/\(∀ n11:Int,((n11∈x10)->(r64 n11))))/\(((0=0/\((1:Nat)=x10.length))/\True)/\((((RLe x10.length 1)/\(RowsEq [.int .i64] x10.length (litRows ((D.i (x1.getD (0+Int.toNat (x7:Int)) default)::@List.nil D)::@List.nil (List D))) (encL encI x10)))/\True)/\((0=0/\(((liW x1 x7).length<=(liW x1 x7).length)/\(((0:Nat)+(byIs x10).length<=(byIs x10).length)/\((liW x1 x7).length+(byIs x10).length<=(1073741824:Nat)))))/\((((-9223372036854775808:Int)<=(x7:Int)+1)/\((x7:Int)+1<=(9223372036854775807:Int)))/\(∃ x13:Nat,((x1.length-x13<x1.length-x7)/\((x13<=x1.length)/\(((0=0/\x1.length=x1.length)/\((0=0/\((liW x1 x7).length+(byIs x10).length=(liW x1 x13).length))/\(((x7:Int)+1=(x13:Int))/\((0=0/\((1:Nat)=(1:Nat)))/\(((x1.length:Int)=(x1.length:Int))/\((0=0/\x1.length=x1.length)/\(True/\True)))))))/\(((RLe x1.length x1.length)/\(RI x1.length x1 x1))/\(((RLe (liW x1 x13).length ((liW x1 x7).length+(byIs x10).length))/\(RowsEq (.int IntKind.u8::[]) (liW x1 x13).length (appRows (liW x1 x7).length (encL encI (liW x1 x7)) 0 (encL encI (byIs x10))) (encL encI (liW x1 x13))))/\((RLe 1 1/\(RowsEq [.int .i64] 1 (litRows ((D.i (x1.length:Int)::@List.nil D)::@List.nil (List D))) (litRows ((D.i (x1.length:Int)::@List.nil D)::@List.nil (List D)))))/\True)))))))))))))))))/\((decide ((x7:Int)<(x1.length:Int))=false)->((0=0/\((liW x1 x7).length=(byLs x1).length))/\(((RLe (byLs x1).length (liW x1 x7).length)/\(RowsEq (.int IntKind.u8::[]) (byLs x1).length (encL encI (liW x1 x7)) (encL encI (byLs x1))))/\True))))))))))))))))=(Keeps cfgI2 Tryd.f42 liC liI) by kernel_rfl) (fun x1=>fun h2=>⟨⟨⟨trivial,trivial⟩,trivial⟩,
((↑(List.length x1):Int)::@List.nil Int),
⟨(by(try dsimp only at *);grind),
fun n4=>fun h5=>(by(try dsimp only at *);exact(is1 (r64_len h2.1)).2 _ ‹_›)⟩,
⟨⟨rfl,
(by(try dsimp only at *);grind)⟩,trivial⟩,
⟨⟨⟨(by(try dsimp only at *);grind)⟩,
(by(try dsimp only at *);exact lit1)⟩,trivial⟩,
((0:Nat)),
⟨(by(try dsimp only at *);omega),
⟨⟨rfl,rfl⟩,
⟨rfl,
(by(try dsimp only at *);exact qL liW_0)⟩,
(by(try dsimp only at *);omega),
⟨rfl,rfl⟩,rfl,
⟨rfl,rfl⟩,trivial,trivial⟩,
⟨rl,rr⟩,
⟨⟨(by(try dsimp only at *);exact qG liW_0)⟩,
(by(try dsimp only at *);exact qR liW_0)⟩,
⟨rl,rr⟩,trivial⟩,
fun x7=>fun h8=>⟨fun g9=>have h9:=dT g9;⟨⟨(by(try dsimp only at *);omega),
(by(try dsimp only at *);omega)⟩,
(by(try dsimp only at *);omega),
⟨⟨trivial,trivial⟩,trivial⟩,
(List.getD x1 ((0:Nat)+Int.toNat (↑x7:Int)) default::@List.nil Int),
⟨(by(try dsimp only at *);grind),
fun n11=>fun h12=>(by(try dsimp only at *);grind)⟩,
⟨⟨rfl,
(by(try dsimp only at *);grind)⟩,trivial⟩,
⟨⟨⟨(by(try dsimp only at *);grind)⟩,
(by(try dsimp only at *);exact lit1)⟩,trivial⟩,
⟨rfl,
(by(try dsimp only at *);omega),
(by(try dsimp only at *);omega),
(by(try dsimp only at *);exact li_cap h2.1 _)⟩,
⟨(by(try dsimp only at *);omega),
(by(try dsimp only at *);omega)⟩,
(x7+(1:Nat)),
(by(try dsimp only at *);omega),
(by(try dsimp only at *);omega),
⟨⟨rfl,rfl⟩,
⟨rfl,
(by(try dsimp only at *);exact li_len h9)⟩,
(by(try dsimp only at *);omega),
⟨rfl,rfl⟩,rfl,
⟨rfl,rfl⟩,trivial,trivial⟩,
⟨rl,rr⟩,
⟨⟨(by(try dsimp only at *);exact Nat.le_of_eq (li_len h9).symm)⟩,
(by(try dsimp only at *);exact li_rows h9)⟩,
⟨rl,rr⟩,trivial⟩,
fun g14=>have h14:=dF g14;⟨⟨rfl,
(by(try dsimp only at *);exact qL (liW_t h14))⟩,
⟨⟨(by(try dsimp only at *);exact qG (liW_t h14))⟩,
(by(try dsimp only at *);exact qR (liW_t h14))⟩,trivial⟩⟩⟩)
theorem li_good:Good Tryd.prog 42 liC/\FnOk Tryd.prog 42:=good_of tok conI2 (fn:=Tryd.f42) rfl (by decide+kernel) (fun _=>rfl) li_keeps
end Go.Sym