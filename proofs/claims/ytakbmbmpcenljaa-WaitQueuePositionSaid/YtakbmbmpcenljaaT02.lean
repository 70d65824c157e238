import Derived.Test.YtakbmbmpcenljaaT01
import Derived.Sort.AssemblyPlain
import Derived.Test.YtakbmbmpcenljaaXD
namespace Go.Sym
set_option linter.unusedVariables false
set_option linter.unusedSimpArgs false
open Go.Proofs
set_option maxRecDepth 100000
set_option maxHeartbeats 4000000
theorem gA (d:Array Pl) (i:Nat):d[i]! =d.toList.getD i default:=by
 rw[List.getD_eq_getElem?_getD,Array.getElem?_toList]
 by_cases h:i<d.size
 ·rw[getElem!_pos d i h,Array.getElem?_eq_getElem h];rfl
 ·rw[getElem!_neg d i h,Array.getElem?_eq_none (by omega)];rfl
theorem lt_yes {d:Array Pl} {i j:Nat} (h:cmpP (d.toList.getD i default) (d.toList.getD j default)<0):ltP d[i]! d[j]! =true:=by
 rw[gA,gA];exact decide_eq_true h
theorem lt_no {d:Array Pl} {i j:Nat} (h:¬ cmpP (d.toList.getD i default) (d.toList.getD j default)<0):ltP d[i]! d[j]! =false:=by
 rw[gA,gA];exact decide_eq_false h
theorem swp_size (d:Array Pl) (i j:Nat):(Sort.swp d i j).size=d.size:=by simp[Sort.swp]
theorem swp_toList (d:Array Pl) (i j:Nat):(Sort.swp d i j).toList=(d.toList.set i (d.toList.getD j default)).set j (d.toList.getD i default):=by
 unfold Sort.swp
 rw[Array.toList_setIfInBounds,Array.toList_setIfInBounds,gA,gA]
def aR (d:Array Pl):Nat->Nat->D:=encL encP d.toList
theorem row3 (g:Nat->D) (p:Pl):rowEq kP (putD g 0 [.i p.rk,.i p.si,.i p.ca]) (encP p) 0:=⟨rfl,rfl,rfl,trivial⟩
theorem swp_rowsP {d:Array Pl} {i j n:Nat} (hn:n=d.size) (hi:i<n) (hj:j<n):
  RowsEq kP n (setRow (setRow (encL encP d.toList) i 0 [.i (d.toList.getD j default).rk,.i (d.toList.getD j default).si,.i (d.toList.getD j default).ca]) j 0 [.i (d.toList.getD i default).rk,.i (d.toList.getD i default).si,.i (d.toList.getD i default).ca]) (encL encP (Sort.swp d i j).toList):=by
 rw[swp_toList]
 have hl:d.toList.length=d.size:=Array.length_toList
 refine rowsEq_setOf ?_ hj (by rw[List.length_set];omega) (row3 _ _)
 have:=rowsEq_set (ks:=kP) (e:=encP) (xs:=d.toList) (n:=n) (r:=i) (c:=0) (ds:=[.i (d.toList.getD j default).rk,.i (d.toList.getD j default).si,.i (d.toList.getD j default).ca]) (v:=d.toList.getD j default) (by omega) (row3 _ _)
 exact this
def cmA:SV:=.fn 35 []
def o2F (d:Array Pl) (a b s:Nat):Nat × Nat × Nat:=Sort.order2 ltP d a b s
def meF (d:Array Pl) (a b c s:Nat):Nat × Nat:=Sort.median ltP d a b c s
def chF (d:Array Pl) (a b:Nat):Nat × Sort.Hint:=Sort.choosePivot ltP d a b
def hC:Sort.Hint->Int| .unknown=>0| .increasing=>1| .decreasing=>2
structure O2x where
 d:Array Pl
 a:Nat
 b:Nat
 s:Nat
structure O2ok (x:O2x):Prop where
 n:x.d.size<=1000
 a:x.a<x.d.size
 b:x.b<x.d.size
 s:x.s<=1000
def o2C:CT where
 X:=O2x
 pre:=O2ok
 args:=fun x=>[.sl 100000 0 x.d.size,.i .i64 x.a,.i .i64 x.b,.p 100001 0 0,cmA]
 g0:=fun x=>[(100000,.rows .bor kP x.d.size (aR x.d)),(100001,.one .own [.i .i64 x.s])]
 res:=fun x=>.tup [.i .i64 (o2F x.d x.a x.b x.s).1,.i .i64 (o2F x.d x.a x.b x.s).2.1]
 g1:=fun x=>[(100001,.one .own [.i .i64 (o2F x.d x.a x.b x.s).2.2])]
def cfgO2:Cfg:=⟨T,[],[(35,.one qcC)],noInv,40,{}⟩
theorem conO2:ConOk Try.prog cfgO2:=ConL.ok (.cons (ConL.one qc_good) .nil)
theorem o2_yes {d:Array Pl} {a b s:Nat} (h:cmpP (d.toList.getD (0+(b:Int).toNat) default) (d.toList.getD (0+(a:Int).toNat) default)<0):o2F d a b s=(b,a,s+1):=by
 rw[nat0,nat0]at h
 unfold o2F Sort.order2;rw[if_pos (lt_yes h)]
theorem o2_no {d:Array Pl} {a b s:Nat} (h:¬ cmpP (d.toList.getD (0+(b:Int).toNat) default) (d.toList.getD (0+(a:Int).toNat) default)<0):o2F d a b s=(a,b,s):=by
 rw[nat0,nat0]at h
 unfold o2F Sort.order2;rw[if_neg (by rw[lt_no h];simp)]
set_option maxRecDepth 100000 in
theorem o2_keeps:Keeps cfgO2 Try.f63 o2C noIv:=Eq.mp (show((∀ x1:O2x,((O2ok x1)->((((0:Int)<=(x1.b:Int))/\((x1.b:Int)<(↑(Array.size x1.d):Int)))/\((0+Int.toNat (x1.b:Int)<Array.size x1.d)/\((((0:Int)<=(x1.a:Int))/\((x1.a:Int)<(↑(Array.size x1.d):Int)))/\((0+Int.toNat (x1.a:Int)<Array.size x1.d)/\(∃ x3:P2x,(True/\((((((Array.toList x1.d).getD (0+Int.toNat (x1.b:Int)) default).rk=x3.a.rk)/\((((Array.toList x1.d).getD (0+Int.toNat (x1.b:Int)) default).si=x3.a.si)/\((((Array.toList x1.d).getD (0+Int.toNat (x1.b:Int)) default).ca=x3.a.ca)/\True)))/\(((((Array.toList x1.d).getD (0+Int.toNat (x1.a:Int)) default).rk=x3.b.rk)/\((((Array.toList x1.d).getD (0+Int.toNat (x1.a:Int)) default).si=x3.b.si)/\((((Array.toList x1.d).getD (0+Int.toNat (x1.a:Int)) default).ca=x3.b.ca)/\True)))/\True))/\(True/\(((decide (cmpP x3.a x3.b<(0:Int))=true)->((((-9223372036854775808:Int)<=(x1.s:Int)+1)/\((x1.s:Int)+1<=(9223372036854775807:Int)))/\((((x1.b:Int)=(↑(Prod.fst (o2F x1.d x1.a x1.b x1.s)):Int))/\(((x1.a:Int)=(↑(Prod.fst (Prod.snd (o2F x1.d x1.a x1.b x1.s))):Int))/\True))/\((((x1.s:Int)+1=(↑(Prod.snd (Prod.snd (o2F x1.d x1.a x1.b x1.s))):Int))/\True)/\True))))/\((decide (cmpP x3.a x3.b<(0:Int))=false)->((((x1.a:Int)=(↑(Prod.fst (o2F x1.d x1.a x1.b x1.s)):Int))/\(((x1.b:Int)=(↑(Prod.fst (Prod.snd (o2F x1.d x1.a x1.b x1.s))):Int))/\True))/\((((x1.s:Int)=(↑(Prod.snd (Prod.snd (o2F x1.d x1.a x1.b x1.s))):Int))/\True)/\True)))))))))))))))=(Keeps cfgO2 Try.f63 o2C noIv) by kernel_rfl) (fun x1=>fun h2=>⟨⟨(by omega),
(by(have:=h2.a;have:=h2.b;have:=h2.n;have:=h2.s;omega))⟩,
(by(have:=h2.a;have:=h2.b;have:=h2.n;have:=h2.s;omega)),
⟨(by omega),
(by(have:=h2.a;have:=h2.b;have:=h2.n;have:=h2.s;omega))⟩,
(by(have:=h2.a;have:=h2.b;have:=h2.n;have:=h2.s;omega)),
({ a:=List.getD (Array.toList (O2x.d x1)) ((0:Nat)+Int.toNat (↑(O2x.b x1):Int)) default,b:=List.getD (Array.toList (O2x.d x1)) ((0:Nat)+Int.toNat (↑(O2x.a x1):Int)) default:P2x }),trivial,
⟨⟨rfl,rfl,rfl,trivial⟩,
⟨rfl,rfl,rfl,trivial⟩,trivial⟩,trivial,
fun g4=>have h4:=dT g4;⟨⟨(by(try dsimp only at *);omega),
(by(try dsimp only at *);(have:=h2.a;have:=h2.b;have:=h2.n;have:=h2.s;omega))⟩,
⟨(by(try dsimp only at *);(rw[o2_yes ‹_›];done)),
(by(try dsimp only at *);(rw[o2_yes ‹_›];done)),trivial⟩,
⟨(by(try dsimp only at *);(rw[o2_yes ‹_›];show(x1.s:Int)+1=((x1.s+1:Nat):Int);omega)),trivial⟩,trivial⟩,
fun g5=>have h5:=dF g5;⟨⟨(by(try dsimp only at *);(rw[o2_no ‹_›];done)),
(by(try dsimp only at *);(rw[o2_no ‹_›];done)),trivial⟩,
⟨(by(try dsimp only at *);(rw[o2_no ‹_›];done)),trivial⟩,trivial⟩⟩)
theorem o2_good:Good Try.prog 63 o2C/\FnOk Try.prog 63:=good_of tok conO2 (fn:=Try.f63) rfl (by decide+kernel) (fun _=>rfl) o2_keeps
theorem o2_rng (d:Array Pl) {a b n:Nat} (ha:a<n) (hb:b<n) (s:Nat):(o2F d a b s).1<n/\(o2F d a b s).2.1<n/\(o2F d a b s).2.2<=s+1:=by
 unfold o2F Sort.order2
 split
 ·exact⟨hb,ha,Nat.le_refl _⟩
 ·exact⟨ha,hb,by show s<=s+1;omega⟩
structure MEx where
 d:Array Pl
 a:Nat
 b:Nat
 c:Nat
 s:Nat
structure MEok (x:MEx):Prop where
 n:x.d.size<=1000
 a:x.a<x.d.size
 b:x.b<x.d.size
 c:x.c<x.d.size
 s:x.s<=990
def meC:CT where
 X:=MEx
 pre:=MEok
 args:=fun x=>[.sl 100000 0 x.d.size,.i .i64 x.a,.i .i64 x.b,.i .i64 x.c,.p 100001 0 0,cmA]
 g0:=fun x=>[(100000,.rows .bor kP x.d.size (aR x.d)),(100001,.one .own [.i .i64 x.s])]
 res:=fun x=>.i .i64 (meF x.d x.a x.b x.c x.s).1
 g1:=fun x=>[(100001,.one .own [.i .i64 (meF x.d x.a x.b x.c x.s).2])]
def m1 (x:MEx):Nat × Nat × Nat:=o2F x.d x.a x.b x.s
def m2 (x:MEx):Nat × Nat × Nat:=o2F x.d (m1 x).2.1 x.c (m1 x).2.2
def m3 (x:MEx):Nat × Nat × Nat:=o2F x.d (m1 x).1 (m2 x).1 (m2 x).2.2
structure M3 (x:MEx):Prop where
 h1:(m1 x).1<x.d.size/\(m1 x).2.1<x.d.size/\(m1 x).2.2<=x.s+1
 h2:(m2 x).1<x.d.size/\(m2 x).2.1<x.d.size/\(m2 x).2.2<=x.s+2
 h3:(m3 x).1<x.d.size/\(m3 x).2.1<x.d.size/\(m3 x).2.2<=x.s+3
theorem me_rng {x:MEx} (h:MEok x):M3 x:=by
 have a:_/\_/\_:=o2_rng x.d h.a h.b x.s
 have b:_/\_/\_:=o2_rng x.d (a:=(m1 x).2.1) (b:=x.c) a.2.1 h.c (m1 x).2.2
 have c:_/\_/\_:=o2_rng x.d (a:=(m1 x).1) (b:=(m2 x).1) a.1 b.1 (m2 x).2.2
 have a3:(m1 x).2.2<=x.s+1:=a.2.2
 have b3:(m2 x).2.2<=(m1 x).2.2+1:=b.2.2
 have c3:(m3 x).2.2<=(m2 x).2.2+1:=c.2.2
 exact⟨⟨a.1,a.2.1,a3⟩,⟨b.1,b.2.1,by omega⟩,⟨c.1,c.2.1,by omega⟩⟩
def cfgMe:Cfg:=⟨T,[],[(63,.one o2C)],noInv,40,{}⟩
theorem conMe:ConOk Try.prog cfgMe:=ConL.ok (.cons (ConL.one o2_good) .nil)
set_option maxRecDepth 100000 in
theorem me_keeps:Keeps cfgMe Try.f62 meC noIv:=Eq.mp (show((∀ x1:MEx,((MEok x1)->(∃ x3:O2x,((O2ok x3)/\(((0=0/\(Array.size x1.d=Array.size x3.d))/\(((x1.a:Int)=(x3.a:Int))/\(((x1.b:Int)=(x3.b:Int))/\((0=0/\0=0)/\(True/\True)))))/\((((RLe (Array.size x3.d) (Array.size x1.d))/\(RowsEq [.int .i64,.int .i64,.int .i64] (Array.size x3.d) (aR x1.d) (aR x3.d)))/\((((x1.s:Int)=(x3.s:Int))/\True)/\True))/\(∃ x4:O2x,((O2ok x4)/\(((0=0/\(Array.size x1.d=Array.size x4.d))/\(((↑(Prod.fst (Prod.snd (o2F x3.d x3.a x3.b x3.s))):Int)=(x4.a:Int))/\(((x1.c:Int)=(x4.b:Int))/\((0=0/\0=0)/\(True/\True)))))/\((((RLe (Array.size x4.d) (Array.size x1.d))/\(RowsEq [.int .i64,.int .i64,.int .i64] (Array.size x4.d) (aR x1.d) (aR x4.d)))/\((((↑(Prod.snd (Prod.snd (o2F x3.d x3.a x3.b x3.s))):Int)=(x4.s:Int))/\True)/\True))/\(∃ x5:O2x,((O2ok x5)/\(((0=0/\(Array.size x1.d=Array.size x5.d))/\(((↑(Prod.fst (o2F x3.d x3.a x3.b x3.s)):Int)=(x5.a:Int))/\(((↑(Prod.fst (o2F x4.d x4.a x4.b x4.s)):Int)=(x5.b:Int))/\((0=0/\0=0)/\(True/\True)))))/\((((RLe (Array.size x5.d) (Array.size x1.d))/\(RowsEq [.int .i64,.int .i64,.int .i64] (Array.size x5.d) (aR x1.d) (aR x5.d)))/\((((↑(Prod.snd (Prod.snd (o2F x4.d x4.a x4.b x4.s))):Int)=(x5.s:Int))/\True)/\True))/\(((↑(Prod.fst (Prod.snd (o2F x5.d x5.a x5.b x5.s))):Int)=(↑(Prod.fst (meF x1.d x1.a x1.b x1.c x1.s)):Int))/\((((↑(Prod.snd (Prod.snd (o2F x5.d x5.a x5.b x5.s))):Int)=(↑(Prod.snd (meF x1.d x1.a x1.b x1.c x1.s)):Int))/\True)/\True)))))))))))))))))=(Keeps cfgMe Try.f62 meC noIv) by kernel_rfl) (fun x1=>fun h2=>⟨({ d:=MEx.d x1,a:=MEx.a x1,b:=MEx.b x1,s:=MEx.s x1:O2x }),
(by(try dsimp only at *);exact⟨h2.n,h2.a,h2.b,by have:=h2.s;show x1.s<=1000;omega⟩),
⟨⟨rfl,rfl⟩,rfl,rfl,
⟨rfl,rfl⟩,trivial,trivial⟩,
⟨⟨rl,rr⟩,
⟨rfl,trivial⟩,trivial⟩,
({ d:=MEx.d x1,a:=Prod.fst (Prod.snd (m1 x1)),b:=MEx.c x1,s:=Prod.snd (Prod.snd (m1 x1)):O2x }),
(by(try dsimp only at *);exact⟨h2.n,(me_rng h2).h1.2.1,h2.c,by have:=h2.s;have:=(me_rng h2).h1.2.2;show(m1 x1).2.2<=1000;omega⟩),
⟨⟨rfl,rfl⟩,
(by(try dsimp only at *);rfl),rfl,
⟨rfl,rfl⟩,trivial,trivial⟩,
⟨⟨rl,rr⟩,
⟨(by(try dsimp only at *);rfl),trivial⟩,trivial⟩,
({ d:=MEx.d x1,a:=Prod.fst (m1 x1),b:=Prod.fst (m2 x1),s:=Prod.snd (Prod.snd (m2 x1)):O2x }),
(by(try dsimp only at *);exact⟨h2.n,(me_rng h2).h1.1,(me_rng h2).h2.1,by have:=h2.s;have:=(me_rng h2).h2.2.2;show(m2 x1).2.2<=1000;omega⟩),
⟨⟨rfl,rfl⟩,
(by(try dsimp only at *);rfl),
(by(try dsimp only at *);rfl),
⟨rfl,rfl⟩,trivial,trivial⟩,
⟨⟨rl,rr⟩,
⟨(by(try dsimp only at *);rfl),trivial⟩,trivial⟩,
(by(try dsimp only at *);rfl),
⟨(by(try dsimp only at *);rfl),trivial⟩,trivial⟩)
theorem me_good:Good Try.prog 62 meC/\FnOk Try.prog 62:=good_of tok conMe (fn:=Try.f62) rfl (by decide+kernel) (fun _=>rfl) me_keeps
structure SAx where
 d:Array Pl
 a:Nat
 b:Nat
structure SAok (x:SAx):Prop where
 n:x.d.size<=30
 b:x.b<=x.d.size
 a:x.a<x.b
def chC:CT where
 X:=SAx
 pre:=SAok
 args:=fun x=>[.sl 100000 0 x.d.size,.i .i64 x.a,.i .i64 x.b,cmA]
 g0:=fun x=>[(100000,.rows .bor kP x.d.size (aR x.d))]
 res:=fun x=>.tup [.i .i64 (chF x.d x.a x.b).1,.i .i64 (hC (chF x.d x.a x.b).2)]
 g1:=fun _=>[]
def chM (x:SAx):MEx:=⟨x.d,x.a+(x.b-x.a) / 4*1,x.a+(x.b-x.a) / 4*2,x.a+(x.b-x.a) / 4*3,0⟩
theorem chM_ok {x:SAx} (h:SAok x) (h8:8<=x.b-x.a):MEok (chM x):=by
 have:=h.n;have:=h.b;have:=h.a
 refine⟨by show x.d.size<=1000;omega,?_,?_,?_,by show 0<=990;omega⟩
 ·show x.a+(x.b-x.a) / 4*1<x.d.size;omega
 ·show x.a+(x.b-x.a) / 4*2<x.d.size;omega
 ·show x.a+(x.b-x.a) / 4*3<x.d.size;omega
def chS (n:Nat):Sort.Hint:=if n=0 then .increasing else if n=12 then .decreasing else .unknown
theorem ch_small {x:SAx} (h:¬ (8:Int)<=(x.b:Int)-x.a) (ha:x.a<x.b):chF x.d x.a x.b=(x.a+(x.b-x.a) / 4*2,.increasing):=by
 unfold chF Sort.choosePivot
 have h8:¬ x.b-x.a ≥ 8:=by omega
 simp only[if_neg h8,if_true]
theorem ch_big {x:SAx} (h:SAok x) (h8:(8:Int)<=(x.b:Int)-x.a):chF x.d x.a x.b=((meF (chM x).d (chM x).a (chM x).b (chM x).c (chM x).s).1,chS (meF (chM x).d (chM x).a (chM x).b (chM x).c (chM x).s).2):=by
 have:=h.n;have:=h.b;have:=h.a
 unfold chF Sort.choosePivot
 have h8:x.b-x.a ≥ 8:=by omega
 have h50:¬ x.b-x.a ≥ 50:=by omega
 simp only[if_pos h8,if_neg h50]
 rfl
theorem chS0 {n:Nat} (h:(n:Int)=0):(1:Int)=hC (chS n):=by unfold chS;rw[if_pos (by omega)];rfl
theorem chS12 {n:Nat} (h:(n:Int)=12):(2:Int)=hC (chS n):=by unfold chS;rw[if_neg (by omega),if_pos (by omega)];rfl
theorem chSx {n:Nat} (h:¬ (n:Int)=0) (h2:¬ (n:Int)=12):(0:Int)=hC (chS n):=by unfold chS;rw[if_neg (by omega),if_neg (by omega)];rfl
def cfgCh:Cfg:=⟨T,[],[(62,.one meC)],noInv,40,{}⟩
theorem conCh:ConOk Try.prog cfgCh:=ConL.ok (.cons (ConL.one me_good) .nil)
set_option maxRecDepth 100000 in
theorem ch_keeps:Keeps cfgCh Try.f50 chC noIv:=Eq.mp (show((∀ x1:SAx,((SAok x1)->((((-9223372036854775808:Int)<=(x1.b:Int)-(x1.a:Int))/\((x1.b:Int)-(x1.a:Int)<=(9223372036854775807:Int)))/\((((0:Int)<=(x1.b:Int)-(x1.a:Int))/\(((0:Int)<4)/\(((-9223372036854775808:Int)<=((x1.b:Int)-(x1.a:Int)) / 4)/\(((x1.b:Int)-(x1.a:Int)) / 4<=(9223372036854775807:Int)))))/\((((-9223372036854775808:Int)<=((x1.b:Int)-(x1.a:Int)) / 4*1)/\(((x1.b:Int)-(x1.a:Int)) / 4*1<=(9223372036854775807:Int)))/\((((-9223372036854775808:Int)<=(x1.a:Int)+((x1.b:Int)-(x1.a:Int)) / 4*1)/\((x1.a:Int)+((x1.b:Int)-(x1.a:Int)) / 4*1<=(9223372036854775807:Int)))/\((((0:Int)<=(x1.b:Int)-(x1.a:Int))/\(((0:Int)<4)/\(((-9223372036854775808:Int)<=((x1.b:Int)-(x1.a:Int)) / 4)/\(((x1.b:Int)-(x1.a:Int)) / 4<=(9223372036854775807:Int)))))/\((((-9223372036854775808:Int)<=((x1.b:Int)-(x1.a:Int)) / 4*2)/\(((x1.b:Int)-(x1.a:Int)) / 4*2<=(9223372036854775807:Int)))/\((((-9223372036854775808:Int)<=(x1.a:Int)+((x1.b:Int)-(x1.a:Int)) / 4*2)/\((x1.a:Int)+((x1.b:Int)-(x1.a:Int)) / 4*2<=(9223372036854775807:Int)))/\((((0:Int)<=(x1.b:Int)-(x1.a:Int))/\(((0:Int)<4)/\(((-9223372036854775808:Int)<=((x1.b:Int)-(x1.a:Int)) / 4)/\(((x1.b:Int)-(x1.a:Int)) / 4<=(9223372036854775807:Int)))))/\((((-9223372036854775808:Int)<=((x1.b:Int)-(x1.a:Int)) / 4*3)/\(((x1.b:Int)-(x1.a:Int)) / 4*3<=(9223372036854775807:Int)))/\((((-9223372036854775808:Int)<=(x1.a:Int)+((x1.b:Int)-(x1.a:Int)) / 4*3)/\((x1.a:Int)+((x1.b:Int)-(x1.a:Int)) / 4*3<=(9223372036854775807:Int)))/\(((decide ((8:Int)<=(x1.b:Int)-(x1.a:Int))=true)->(((decide ((50:Int)<=(x1.b:Int)-(x1.a:Int))=true)->(Stuck 2 61))/\((decide ((50:Int)<=(x1.b:Int)-(x1.a:Int))=false)->(∃ x6:MEx,((MEok x6)/\(((0=0/\(Array.size x1.d=Array.size x6.d))/\(((x1.a:Int)+((x1.b:Int)-(x1.a:Int)) / 4*1=(x6.a:Int))/\(((x1.a:Int)+((x1.b:Int)-(x1.a:Int)) / 4*2=(x6.b:Int))/\(((x1.a:Int)+((x1.b:Int)-(x1.a:Int)) / 4*3=(x6.c:Int))/\((0=0/\0=0)/\(True/\True))))))/\((((RLe (Array.size x6.d) (Array.size x1.d))/\(RowsEq [.int .i64,.int .i64,.int .i64] (Array.size x6.d) (aR x1.d) (aR x6.d)))/\(((0=(x6.s:Int))/\True)/\True))/\(((decide ((↑(Prod.snd (meF x6.d x6.a x6.b x6.c x6.s)):Int)=0)=true)->((((↑(Prod.fst (meF x6.d x6.a x6.b x6.c x6.s)):Int)=(↑(Prod.fst (chF x1.d x1.a x1.b)):Int))/\(((1:Int)=hC (Prod.snd (chF x1.d x1.a x1.b)))/\True))/\True))/\((decide ((↑(Prod.snd (meF x6.d x6.a x6.b x6.c x6.s)):Int)=0)=false)->(((decide ((↑(Prod.snd (meF x6.d x6.a x6.b x6.c x6.s)):Int)=12)=true)->((((↑(Prod.fst (meF x6.d x6.a x6.b x6.c x6.s)):Int)=(↑(Prod.fst (chF x1.d x1.a x1.b)):Int))/\(((2:Int)=hC (Prod.snd (chF x1.d x1.a x1.b)))/\True))/\True))/\((decide ((↑(Prod.snd (meF x6.d x6.a x6.b x6.c x6.s)):Int)=12)=false)->((((↑(Prod.fst (meF x6.d x6.a x6.b x6.c x6.s)):Int)=(↑(Prod.fst (chF x1.d x1.a x1.b)):Int))/\(((0:Int)=hC (Prod.snd (chF x1.d x1.a x1.b)))/\True))/\True))))))))))))/\((decide ((8:Int)<=(x1.b:Int)-(x1.a:Int))=false)->(((decide ((0:Int)=0)=true)->((((x1.a:Int)+((x1.b:Int)-(x1.a:Int)) / 4*2=(↑(Prod.fst (chF x1.d x1.a x1.b)):Int))/\(((1:Int)=hC (Prod.snd (chF x1.d x1.a x1.b)))/\True))/\True))/\((decide ((0:Int)=0)=false)->(((decide ((0:Int)=12)=true)->((((x1.a:Int)+((x1.b:Int)-(x1.a:Int)) / 4*2=(↑(Prod.fst (chF x1.d x1.a x1.b)):Int))/\(((2:Int)=hC (Prod.snd (chF x1.d x1.a x1.b)))/\True))/\True))/\((decide ((0:Int)=12)=false)->((((x1.a:Int)+((x1.b:Int)-(x1.a:Int)) / 4*2=(↑(Prod.fst (chF x1.d x1.a x1.b)):Int))/\(((0:Int)=hC (Prod.snd (chF x1.d x1.a x1.b)))/\True))/\True))))))))))))))))))))=(Keeps cfgCh Try.f50 chC noIv) by kernel_rfl) (fun x1=>fun h2=>⟨⟨(by(have:=h2.n;have:=h2.b;have:=h2.a;omega)),
(by(have:=h2.n;have:=h2.b;have:=h2.a;omega))⟩,
⟨(by(have:=h2.n;have:=h2.b;have:=h2.a;omega)),
(by omega),
(by(have:=h2.n;have:=h2.b;have:=h2.a;omega)),
(by(have:=h2.n;have:=h2.b;have:=h2.a;omega))⟩,
⟨(by(have:=h2.n;have:=h2.b;have:=h2.a;omega)),
(by(have:=h2.n;have:=h2.b;have:=h2.a;omega))⟩,
⟨(by omega),
(by(have:=h2.n;have:=h2.b;have:=h2.a;omega))⟩,
⟨(by(have:=h2.n;have:=h2.b;have:=h2.a;omega)),
(by omega),
(by(have:=h2.n;have:=h2.b;have:=h2.a;omega)),
(by(have:=h2.n;have:=h2.b;have:=h2.a;omega))⟩,
⟨(by(have:=h2.n;have:=h2.b;have:=h2.a;omega)),
(by(have:=h2.n;have:=h2.b;have:=h2.a;omega))⟩,
⟨(by omega),
(by(have:=h2.n;have:=h2.b;have:=h2.a;omega))⟩,
⟨(by(have:=h2.n;have:=h2.b;have:=h2.a;omega)),
(by omega),
(by(have:=h2.n;have:=h2.b;have:=h2.a;omega)),
(by(have:=h2.n;have:=h2.b;have:=h2.a;omega))⟩,
⟨(by(have:=h2.n;have:=h2.b;have:=h2.a;omega)),
(by(have:=h2.n;have:=h2.b;have:=h2.a;omega))⟩,
⟨(by omega),
(by(have:=h2.n;have:=h2.b;have:=h2.a;omega))⟩,
fun g3=>have h3:=dT g3;⟨fun g4=>have h4:=dT g4;(by(have:=h2.n;have:=h2.b;have:=h2.a;omega)),
fun g5=>have h5:=dF g5;⟨(chM x1),
(by(try dsimp only at *);exact chM_ok h2 (by omega)),
⟨⟨rfl,
(by(try dsimp only at *);rfl)⟩,
(by(try dsimp only at *);(show(x1.a:Int)+((x1.b:Int)-x1.a) / 4*1=((x1.a+(x1.b-x1.a) / 4*1:Nat):Int);have:=h2.a;omega)),
(by(try dsimp only at *);(show(x1.a:Int)+((x1.b:Int)-x1.a) / 4*2=((x1.a+(x1.b-x1.a) / 4*2:Nat):Int);have:=h2.a;omega)),
(by(try dsimp only at *);(show(x1.a:Int)+((x1.b:Int)-x1.a) / 4*3=((x1.a+(x1.b-x1.a) / 4*3:Nat):Int);have:=h2.a;omega)),
⟨rfl,rfl⟩,trivial,trivial⟩,
⟨⟨⟨(by(try dsimp only at *);exact Nat.le_refl _)⟩,
(by(try dsimp only at *);exact rr)⟩,
⟨(by(try dsimp only at *);rfl),trivial⟩,trivial⟩,
fun g7=>have h7:=dT g7;⟨⟨(by(try dsimp only at *);(rw[ch_big h2 h3];done)),
(by(try dsimp only at *);(rw[ch_big h2 h3];exact chS0 h7)),trivial⟩,trivial⟩,
fun g8=>have h8:=dF g8;⟨fun g9=>have h9:=dT g9;⟨⟨(by(try dsimp only at *);(rw[ch_big h2 h3];done)),
(by(try dsimp only at *);(rw[ch_big h2 h3];exact chS12 h9)),trivial⟩,trivial⟩,
fun g10=>have h10:=dF g10;⟨⟨(by(try dsimp only at *);(rw[ch_big h2 h3];done)),
(by(try dsimp only at *);(rw[ch_big h2 h3];exact chSx h8 h10)),trivial⟩,trivial⟩⟩⟩⟩,
fun g11=>have h11:=dF g11;⟨fun g12=>have h12:=dT g12;⟨⟨(by(try dsimp only at *);(rw[ch_small h11 h2.a];show(x1.a:Int)+((x1.b:Int)-x1.a) / 4*2=((x1.a+(x1.b-x1.a) / 4*2:Nat):Int);have:=h2.a;omega)),
(by(try dsimp only at *);(rw[ch_small h11 h2.a];rfl)),trivial⟩,trivial⟩,
fun g13=>have h13:=dF g13;⟨fun g14=>have h14:=dT g14;⟨⟨(by(try dsimp only at *);omega),
(by(try dsimp only at *);omega),trivial⟩,trivial⟩,
fun g15=>have h15:=dF g15;⟨⟨(by(try dsimp only at *);omega),
(by(try dsimp only at *);omega),trivial⟩,trivial⟩⟩⟩⟩)
theorem ch_good:Good Try.prog 50 chC/\FnOk Try.prog 50:=good_of tok conCh (fn:=Try.f50) rfl (by decide+kernel) (fun _=>rfl) ch_keeps
end Go.Sym