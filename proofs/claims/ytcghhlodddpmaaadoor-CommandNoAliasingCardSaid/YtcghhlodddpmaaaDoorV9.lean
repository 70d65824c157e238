import Derived.Test.YtcghhlodddpmaaaDoorV8
import Derived.Test.YtcghhlodddpmaaaDoorXD
namespace Go.Sym
set_option linter.unusedVariables false
set_option linter.unusedSimpArgs false
open Go.Proofs
set_option maxRecDepth 100000
set_option maxHeartbeats 4000000
def cfgR2:Cfg:=⟨T,[],[(76,.one flC),(51,.one riC)],noInv,60,{}⟩
theorem conR2:ConOk Tryd.prog cfgR2:=ConL.ok (.cons (ConL.one fl_good) (.cons (ConL.one ri_good) .nil))
def lnV (r:Rd):Int:=if(intR r).e≠0 then 0 else if intV r<0 then 0 else if(((intR r).B.length-(intR r).lo:Nat):Int)<intV r then 0 else intV r
def lnR (r:Rd):Rd:=if(intR r).e≠0 then intR r else if intV r<0 then bad 2 else if(((intR r).B.length-(intR r).lo:Nat):Int)<intV r then bad 11 else intR r
def lnC:CT where
 X:=Rd
 pre:=RdOk
 args:=fun x=>[.p 100000 0 0]
 g0:=fun x=>rdB 100000 100001 x
 res:=fun x=>.i .i64 (lnV x)
 g1:=fun x=>rdB 100000 1 (lnR x)
theorem ln_e {r:Rd} (h:(intR r).e≠0):lnV r=0/\lnR r=intR r:=by unfold lnV lnR;rw[if_pos h,if_pos h];exact⟨rfl,rfl⟩
theorem ln_n {r:Rd} (h:¬ (intR r).e≠0) (h1:intV r<0):lnV r=0/\lnR r=bad 2:=by unfold lnV lnR;rw[if_neg h,if_neg h,if_pos h1,if_pos h1];exact⟨rfl,rfl⟩
theorem ln_s {r:Rd} (h:¬ (intR r).e≠0) (h1:¬ intV r<0) (h2:(((intR r).B.length-(intR r).lo:Nat):Int)<intV r):lnV r=0/\lnR r=bad 11:=by
 unfold lnV lnR;rw[if_neg h,if_neg h,if_neg h1,if_neg h1,if_pos h2,if_pos h2];exact⟨rfl,rfl⟩
theorem ln_y {r:Rd} (h:¬ (intR r).e≠0) (h1:¬ intV r<0) (h2:¬ (((intR r).B.length-(intR r).lo:Nat):Int)<intV r):lnV r=intV r/\lnR r=intR r:=by
 unfold lnV lnR;rw[if_neg h,if_neg h,if_neg h1,if_neg h1,if_neg h2,if_neg h2];exact⟨rfl,rfl⟩
theorem lnV_r (r:Rd):0<=lnV r/\lnV r<=((lnR r).B.length-(lnR r).lo:Nat):=by
 by_cases h:(intR r).e≠0
 ·rw[(ln_e h).1];omega
 ·by_cases h1:intV r<0
  ·rw[(ln_n h h1).1];omega
  ·by_cases h2:(((intR r).B.length-(intR r).lo:Nat):Int)<intV r
   ·rw[(ln_s h h1 h2).1];omega
   ·rw[(ln_y h h1 h2).1,(ln_y h h1 h2).2];omega
theorem lnR_ok {r:Rd} (h:RdOk r):RdOk (lnR r):=by
 unfold lnR
 split
 ·exact intR_ok h
 ·split
  ·exact bad_ok _
  ·split
   ·exact bad_ok _
   ·exact intR_ok h
set_option maxRecDepth 100000 in
theorem ln_keeps:Keeps cfgR2 Tryd.f77 lnC noIv:=Eq.mp (show((∀ x1:Rd,((RdOk x1)->(∃ x3:Rd,((RdOk x3)/\(((0=0/\0=0)/\True)/\((((x1.lo=x3.lo/\(x1.B.length-x1.lo=x3.B.length-x3.lo))/\(x1.e=x3.e/\True))/\(((RLe x3.B.length x1.B.length)/\(RowsEq (.int IntKind.u8::[]) x3.B.length (encL encI x1.B) (encL encI x3.B)))/\True))/\(((decide ((intR x3).e≠(0:Int))=true)->(((0:Int)=lnV x1)/\(((((intR x3).lo=(lnR x1).lo)/\((intR x3).B.length-(intR x3).lo=(lnR x1).B.length-(lnR x1).lo))/\(((intR x3).e=(lnR x1).e)/\True))/\(((RLe (lnR x1).B.length (intR x3).B.length)/\(RowsEq (.int IntKind.u8::[]) (lnR x1).B.length (encL encI (intR x3).B) (encL encI (lnR x1).B)))/\True))))/\((decide ((intR x3).e≠(0:Int))=false)->(((decide (intV x3<0)=true)->(∃ x7:Rd × Int,(True/\(((0=0/\0=0)/\(((2:Int)=Prod.snd x7)/\True))/\((((((intR x3).lo=(Prod.fst x7).lo)/\((intR x3).B.length-(intR x3).lo=(Prod.fst x7).B.length-(Prod.fst x7).lo))/\(((intR x3).e=(Prod.fst x7).e)/\True))/\(((RLe (Prod.fst x7).B.length (intR x3).B.length)/\(RowsEq (.int IntKind.u8::[]) (Prod.fst x7).B.length (encL encI (intR x3).B) (encL encI (Prod.fst x7).B)))/\True))/\(((0:Int)=lnV x1)/\(((((bad (Prod.snd x7)).lo=(lnR x1).lo)/\((bad (Prod.snd x7)).B.length-(bad (Prod.snd x7)).lo=(lnR x1).B.length-(lnR x1).lo))/\(((bad (Prod.snd x7)).e=(lnR x1).e)/\True))/\(((RLe (lnR x1).B.length (bad (Prod.snd x7)).B.length)/\(RowsEq (.int IntKind.u8::[]) (lnR x1).B.length (encL encI (bad (Prod.snd x7)).B) (encL encI (lnR x1).B)))/\True))))))))/\((decide (intV x3<0)=false)->(((decide ((↑((intR x3).B.length-(intR x3).lo):Int)<intV x3)=true)->(∃ x10:Rd × Int,(True/\(((0=0/\0=0)/\(((11:Int)=Prod.snd x10)/\True))/\((((((intR x3).lo=(Prod.fst x10).lo)/\((intR x3).B.length-(intR x3).lo=(Prod.fst x10).B.length-(Prod.fst x10).lo))/\(((intR x3).e=(Prod.fst x10).e)/\True))/\(((RLe (Prod.fst x10).B.length (intR x3).B.length)/\(RowsEq (.int IntKind.u8::[]) (Prod.fst x10).B.length (encL encI (intR x3).B) (encL encI (Prod.fst x10).B)))/\True))/\(((0:Int)=lnV x1)/\(((((bad (Prod.snd x10)).lo=(lnR x1).lo)/\((bad (Prod.snd x10)).B.length-(bad (Prod.snd x10)).lo=(lnR x1).B.length-(lnR x1).lo))/\(((bad (Prod.snd x10)).e=(lnR x1).e)/\True))/\(((RLe (lnR x1).B.length (bad (Prod.snd x10)).B.length)/\(RowsEq (.int IntKind.u8::[]) (lnR x1).B.length (encL encI (bad (Prod.snd x10)).B) (encL encI (lnR x1).B)))/\True))))))))/\((decide ((↑((intR x3).B.length-(intR x3).lo):Int)<intV x3)=false)->((intV x3=lnV x1)/\(((((intR x3).lo=(lnR x1).lo)/\((intR x3).B.length-(intR x3).lo=(lnR x1).B.length-(lnR x1).lo))/\(((intR x3).e=(lnR x1).e)/\True))/\(((RLe (lnR x1).B.length (intR x3).B.length)/\(RowsEq (.int IntKind.u8::[]) (lnR x1).B.length (encL encI (intR x3).B) (encL encI (lnR x1).B)))/\True))))))))))))))))=(Keeps cfgR2 Tryd.f77 lnC noIv) by kernel_rfl) (fun x1=>fun h2=>⟨(x1),
(by(try dsimp only at *);omega),
⟨⟨rfl,rfl⟩,trivial⟩,
⟨⟨⟨rfl,rfl⟩,rfl,trivial⟩,
⟨rl,rr⟩,trivial⟩,
fun g4=>have h4:=dT g4;⟨(by(try dsimp only at *);exact(ln_e h4).1.symm),
⟨⟨(by(try dsimp only at *);(rw[(ln_e h4).2])),
(by(try dsimp only at *);(rw[(ln_e h4).2]))⟩,
(by(try dsimp only at *);(rw[(ln_e h4).2])),trivial⟩,
⟨⟨(by(try dsimp only at *);(rw[(ln_e h4).2];exact Nat.le_refl _))⟩,
(by(try dsimp only at *);(rw[(ln_e h4).2];exact rr))⟩,trivial⟩,
fun g5=>have h5:=dF g5;⟨fun g6=>have h6:=dT g6;⟨((intR x1,(2:Int))),trivial,
⟨⟨rfl,rfl⟩,rfl,trivial⟩,
⟨⟨⟨rfl,rfl⟩,rfl,trivial⟩,
⟨rl,rr⟩,trivial⟩,
(by(try dsimp only at *);exact(ln_n h5 h6).1.symm),
⟨⟨(by(try dsimp only at *);(rw[(ln_n h5 h6).2])),
(by(try dsimp only at *);(rw[(ln_n h5 h6).2]))⟩,
(by(try dsimp only at *);(rw[(ln_n h5 h6).2])),trivial⟩,
⟨⟨(by(try dsimp only at *);(rw[(ln_n h5 h6).2];exact Nat.le_refl _))⟩,
(by(try dsimp only at *);(rw[(ln_n h5 h6).2];exact rr))⟩,trivial⟩,
fun g8=>have h8:=dF g8;⟨fun g9=>have h9:=dT g9;⟨((intR x1,(11:Int))),trivial,
⟨⟨rfl,rfl⟩,rfl,trivial⟩,
⟨⟨⟨rfl,rfl⟩,rfl,trivial⟩,
⟨rl,rr⟩,trivial⟩,
(by(try dsimp only at *);exact(ln_s h5 h8 h9).1.symm),
⟨⟨(by(try dsimp only at *);(rw[(ln_s h5 h8 h9).2])),
(by(try dsimp only at *);(rw[(ln_s h5 h8 h9).2]))⟩,
(by(try dsimp only at *);(rw[(ln_s h5 h8 h9).2])),trivial⟩,
⟨⟨(by(try dsimp only at *);(rw[(ln_s h5 h8 h9).2];exact Nat.le_refl _))⟩,
(by(try dsimp only at *);(rw[(ln_s h5 h8 h9).2];exact rr))⟩,trivial⟩,
fun g11=>have h11:=dF g11;⟨(by(try dsimp only at *);exact(ln_y h5 h8 h11).1.symm),
⟨⟨(by(try dsimp only at *);(rw[(ln_y h5 h8 h11).2])),
(by(try dsimp only at *);(rw[(ln_y h5 h8 h11).2]))⟩,
(by(try dsimp only at *);(rw[(ln_y h5 h8 h11).2])),trivial⟩,
⟨⟨(by(try dsimp only at *);(rw[(ln_y h5 h8 h11).2];exact Nat.le_refl _))⟩,
(by(try dsimp only at *);(rw[(ln_y h5 h8 h11).2];exact rr))⟩,trivial⟩⟩⟩⟩)
theorem ln_good:Good Tryd.prog 77 lnC/\FnOk Tryd.prog 77:=good_of tok conR2 (fn:=Tryd.f77) rfl (by decide+kernel) (fun _=>rfl) ln_keeps
def cfgR3:Cfg:=⟨T,[],[(77,.one lnC),(51,.one riC)],noInv,60,{}⟩
theorem conR3:ConOk Tryd.prog cfgR3:=ConL.ok (.cons (ConL.one ln_good) (.cons (ConL.one ri_good) .nil))
def lnN (r:Rd):Nat:=(lnV r).toNat
def bsV (r:Rd):List Int:=((lnR r).B.drop (lnR r).lo).take (lnN r)
def bsR (r:Rd):Rd:=⟨(lnR r).B,(lnR r).lo+lnN r,(lnR r).e⟩
theorem bsR_ok {r:Rd} (h:RdOk r):RdOk (bsR r):=by
 have h1:=lnR_ok h
 have h2:=lnV_r r
 have h3:=h1.lo
 exact⟨(by show(lnR r).lo+lnN r<=(lnR r).B.length;unfold lnN;omega),h1.b,h1.len⟩
theorem bsV_len {r:Rd}:(bsV r).length=lnN r:=by
 have h2:=lnV_r r
 unfold bsV
 rw[List.length_take,List.length_drop]
 unfold lnN
 omega
theorem bs_0 {r:Rd} (h:lnV r=0):bsR r=lnR r:=by
 unfold bsR lnN
 rw[h]
 rfl
theorem bs_00 {r:Rd} (h:lnV r=0):(bsV r).length=0:=by rw[bsV_len,lnN,h];rfl
theorem ln_cap {r:Rd} (h:RdOk r):lnV r<=1073741824:=by
 have h1:=lnR_ok h
 have h2:=lnV_r r
 have h3:=h1.len
 omega
theorem bs_r {r:Rd} {m:Nat} (h:RdOk r) (hm:(bsV r).length<=m) {f:Nat->Nat->D}:RowsEq kB (bsV r).length (cpyRows f 0 m (encL encI (lnR r).B) (lnR r).lo) (encL encI (bsV r)):=by
 refine⟨fun i hi=>rowEq_of_eq ?_⟩
 funext c
 have hi2:i<lnN r:=by rw[<- bsV_len];exact hi
 unfold cpyRows
 rw[if_pos (by omega),Nat.sub_zero]
 unfold encL encI
 congr 1
 unfold bsV
 rw[List.getD_eq_getElem?_getD,List.getD_eq_getElem?_getD,List.getElem?_take,if_pos hi2,List.getElem?_drop]
theorem bs_m {r:Rd}:(bsV r).length<=min ((lnR r).B.length-(lnR r).lo) (lnV r).toNat:=by
 have h2:=lnV_r r
 rw[bsV_len]
 unfold lnN
 omega
def bsC:CT where
 X:=Rd
 pre:=RdOk
 args:=fun x=>[.p 100000 0 0]
 g0:=fun x=>rdB 100000 100001 x
 res:=fun x=>.sl 2 0 (bsV x).length
 g1:=fun x=>rdB 100000 1 (bsR x)++[(2,.rows .own kB (bsV x).length (encL encI (bsV x)))]
theorem bs_lo {r:Rd} (h:RdOk r):(lnR r).lo+((lnR r).B.length-(lnR r).lo)<=(lnR r).B.length:=by
 have:=(lnR_ok h).lo
 omega
theorem bs_lt {r:Rd}:((((lnR r).B.length-(lnR r).lo:Nat):Int)).toNat-(lnV r).toNat=(bsR r).B.length-(bsR r).lo:=by
 show _=(lnR r).B.length-((lnR r).lo+lnN r)
 unfold lnN
 omega
set_option maxRecDepth 100000 in
theorem bs_keeps:Keeps cfgR3 Tryd.f56 bsC noIv:=Eq.mp (show((∀ x1:Rd,((RdOk x1)->(∃ x3:Rd,((RdOk x3)/\(((0=0/\0=0)/\True)/\((((x1.lo=x3.lo/\(x1.B.length-x1.lo=x3.B.length-x3.lo))/\(x1.e=x3.e/\True))/\(((RLe x3.B.length x1.B.length)/\(RowsEq (.int IntKind.u8::[]) x3.B.length (encL encI x1.B) (encL encI x3.B)))/\True))/\(((decide (lnV x3=0)=true)->((True/\(0=0/\((bsV x1).length=(0:Nat))))/\(((((lnR x3).lo=(bsR x1).lo)/\((lnR x3).B.length-(lnR x3).lo=(bsR x1).B.length-(bsR x1).lo))/\(((lnR x3).e=(bsR x1).e)/\True))/\(((RLe (bsR x1).B.length (lnR x3).B.length)/\(RowsEq (.int IntKind.u8::[]) (bsR x1).B.length (encL encI (lnR x3).B) (encL encI (bsR x1).B)))/\(((bsV x1).length=(0:Nat))/\True)))))/\((decide (lnV x3=0)=false)->((((0:Int)<=lnV x3)/\((lnV x3<=lnV x3)/\(lnV x3<=(↑(1073741824:Nat):Int))))/\(((0+Int.toNat (lnV x3)<=Int.toNat (lnV x3))/\((lnR x3).lo+((lnR x3).B.length-(lnR x3).lo)<=(lnR x3).B.length))/\((((0:Int)<=lnV x3)/\((lnV x3<=(↑((lnR x3).B.length-(lnR x3).lo):Int))/\((↑((lnR x3).B.length-(lnR x3).lo):Int)<=(↑((lnR x3).B.length-(lnR x3).lo):Int))))/\((0=0/\(Int.toNat (lnV x3)=(bsV x1).length))/\(((((lnR x3).lo+Int.toNat (lnV x3)=(bsR x1).lo)/\(Int.toNat (↑((lnR x3).B.length-(lnR x3).lo):Int)-Int.toNat (lnV x3)=(bsR x1).B.length-(bsR x1).lo))/\(((lnR x3).e=(bsR x1).e)/\True))/\(((RLe (bsR x1).B.length (lnR x3).B.length)/\(RowsEq (.int IntKind.u8::[]) (bsR x1).B.length (encL encI (lnR x3).B) (encL encI (bsR x1).B)))/\(((RLe (bsV x1).length (Int.toNat (lnV x3)))/\(RowsEq (.int IntKind.u8::[]) (bsV x1).length (cpyRows (fun(x j:Nat)=>zRow (.int IntKind.u8::[]) j) 0 (min ((lnR x3).B.length-(lnR x3).lo) (Int.toNat (lnV x3))) (encL encI (lnR x3).B) (lnR x3).lo) (encL encI (bsV x1))))/\True))))))))))))))))=(Keeps cfgR3 Tryd.f56 bsC noIv) by kernel_rfl) (fun x1=>fun h2=>⟨(x1),
(by(try dsimp only at *);omega),
⟨⟨rfl,rfl⟩,trivial⟩,
⟨⟨⟨rfl,rfl⟩,rfl,trivial⟩,
⟨rl,rr⟩,trivial⟩,
fun g4=>have h4:=dT g4;⟨⟨trivial,rfl,
(by(try dsimp only at *);exact bs_00 h4)⟩,
⟨⟨(by(try dsimp only at *);(rw[bs_0 h4])),
(by(try dsimp only at *);(rw[bs_0 h4]))⟩,
(by(try dsimp only at *);(rw[bs_0 h4])),trivial⟩,
⟨⟨(by(try dsimp only at *);(rw[bs_0 h4];exact Nat.le_refl _))⟩,
(by(try dsimp only at *);exact rr)⟩,
(by(try dsimp only at *);exact bs_00 h4),trivial⟩,
fun g5=>have h5:=dF g5;⟨⟨(by(try dsimp only at *);exact(lnV_r x1).1),
(by(try dsimp only at *);omega),
(by(try dsimp only at *);exact ln_cap h2)⟩,
⟨(by(try dsimp only at *);omega),
(by(try dsimp only at *);exact bs_lo h2)⟩,
⟨(by(try dsimp only at *);exact(lnV_r x1).1),
(by(try dsimp only at *);exact(lnV_r x1).2),
(by(try dsimp only at *);omega)⟩,
⟨rfl,
(by(try dsimp only at *);exact bsV_len.symm)⟩,
⟨⟨(by(try dsimp only at *);rfl),
(by(try dsimp only at *);exact bs_lt)⟩,
(by(try dsimp only at *);rfl),trivial⟩,
⟨⟨(by(try dsimp only at *);exact Nat.le_refl _)⟩,
(by(try dsimp only at *);exact rr)⟩,
⟨⟨(by(try dsimp only at *);exact Nat.le_of_eq bsV_len)⟩,
(by(try dsimp only at *);exact bs_r h2 bs_m)⟩,trivial⟩⟩)
theorem bs_good:Good Tryd.prog 56 bsC/\FnOk Tryd.prog 56:=good_of tok conR3 (fn:=Tryd.f56) rfl (by decide+kernel) (fun _=>rfl) bs_keeps
def cfgR4:Cfg:=⟨T,[],[(56,.one bsC)],noInv,60,{}⟩
theorem conR4:ConOk Tryd.prog cfgR4:=ConL.ok (.cons (ConL.one bs_good) .nil)
def strB (l:List Int):ByteArray:=⟨(l.map fun n=>UInt8.ofNat n.toNat).toArray⟩
theorem strB_of {l:List Int} {m:Nat} (h:m=l.length):strOf m (fun r=>encL encI l (0+r))=strB l:=by
 subst h
 unfold strOf strB
 congr 2
 apply List.ext_getElem
 ·simp
 ·intro i h1 h2
  have hi:i<l.length:=by simpa using h1
  simp[encL,encI,D.toI,List.getD_eq_getElem?_getD,hi]
def rsC:CT where
 X:=Rd
 pre:=RdOk
 args:=fun x=>[.p 100000 0 0]
 g0:=fun x=>rdB 100000 100001 x
 res:=fun x=>.s (strB (bsV x))
 g1:=fun x=>rdB 100000 1 (bsR x)
set_option maxRecDepth 100000 in
theorem rs_keeps:Keeps cfgR4 Tryd.f53 rsC noIv:=Eq.mp (show((∀ x1:Rd,((RdOk x1)->(∃ x3:Rd,((RdOk x3)/\(((0=0/\0=0)/\True)/\((((x1.lo=x3.lo/\(x1.B.length-x1.lo=x3.B.length-x3.lo))/\(x1.e=x3.e/\True))/\(((RLe x3.B.length x1.B.length)/\(RowsEq (.int IntKind.u8::[]) x3.B.length (encL encI x1.B) (encL encI x3.B)))/\True))/\(((0:Nat)+(bsV x3).length<=(bsV x3).length)/\(((ByteArray.mk (List.toArray (List.map (fun(r:Nat)=>UInt8.ofNat (Int.toNat ((bsV x3).getD ((0:Nat)+r) default))) (List.range (bsV x3).length))))=strB (bsV x1))/\(((((bsR x3).lo=(bsR x1).lo)/\((bsR x3).B.length-(bsR x3).lo=(bsR x1).B.length-(bsR x1).lo))/\(((bsR x3).e=(bsR x1).e)/\True))/\(((RLe (bsR x1).B.length (bsR x3).B.length)/\(RowsEq (.int IntKind.u8::[]) (bsR x1).B.length (encL encI (bsR x3).B) (encL encI (bsR x1).B)))/\True)))))))))))=(Keeps cfgR4 Tryd.f53 rsC noIv) by kernel_rfl) (fun x1=>fun h2=>⟨(x1),
(by(try dsimp only at *);omega),
⟨⟨rfl,rfl⟩,trivial⟩,
⟨⟨⟨rfl,rfl⟩,rfl,trivial⟩,
⟨rl,rr⟩,trivial⟩,
(by(try dsimp only at *);omega),
(by(try dsimp only at *);exact strB_of rfl),
⟨⟨rfl,rfl⟩,rfl,trivial⟩,
⟨rl,rr⟩,trivial⟩)
theorem rs_good:Good Tryd.prog 53 rsC/\FnOk Tryd.prog 53:=good_of tok conR4 (fn:=Tryd.f53) rfl (by decide+kernel) (fun _=>rfl) rs_keeps
def itK:Nat->Rd->List Int->List Int × Rd
 |0,r,acc=>(acc,r)
 |k+1,r,acc=>if(intR r).e≠0 then([],intR r)else itK k (intR r) (acc++[intV r])
def itV (r:Rd):List Int:=if lnV r=0 then []else(itK (lnN r) (lnR r) []).1
def itR (r:Rd):Rd:=if lnV r=0 then lnR r else(itK (lnN r) (lnR r) []).2
structure ItS where
 r:Rd
 acc:List Int
structure ItP (x:Rd) (s:ItS):Prop where
 ok:RdOk s.r
 len:s.acc.length<=lnN x
 v:itK (lnN x-s.acc.length) s.r s.acc=(itV x,itR x)
theorem it_0 {x:Rd} (h:RdOk x) (h1:¬ lnV x=0):ItP x ⟨lnR x,[]⟩:=by
 refine⟨lnR_ok h,Nat.zero_le _,?_⟩
 unfold itV itR
 rw[if_neg h1,if_neg h1]
 rfl
theorem it_e {x:Rd} {s:ItS} (h:ItP x s) (h1:(s.acc.length:Int)<lnN x) (h2:(intR s.r).e≠0):itV x=[]/\itR x=intR s.r:=by
 have h3:=h.v
 rw[show lnN x-s.acc.length=(lnN x-s.acc.length-1)+1 by omega,itK,if_pos h2]at h3
 exact⟨(congrArg Prod.fst h3).symm,(congrArg Prod.snd h3).symm⟩
theorem it_s {x:Rd} {s:ItS} (h:ItP x s) (h1:(s.acc.length:Int)<lnN x) (h2:¬ (intR s.r).e≠0):ItP x ⟨intR s.r,s.acc++[intV s.r]⟩:=by
 have h3:=h.v
 rw[show lnN x-s.acc.length=(lnN x-s.acc.length-1)+1 by omega,itK,if_neg h2]at h3
 refine⟨intR_ok h.ok,?_,?_⟩
 ·simp
  omega
 ·rw[<- h3]
  congr 1
  simp
  omega
theorem it_t {x:Rd} {s:ItS} (h:ItP x s) (h1:¬ (s.acc.length:Int)<lnN x):itV x=s.acc/\itR x=s.r:=by
 have h3:=h.v
 have h4:=h.len
 rw[show lnN x-s.acc.length=0 by omega,itK]at h3
 exact⟨(congrArg Prod.fst h3).symm,(congrArg Prod.snd h3).symm⟩
theorem it_00 {r:Rd} (h:lnV r=0):itV r=[]/\itR r=lnR r:=by
 unfold itV itR
 rw[if_pos h,if_pos h]
 exact⟨rfl,rfl⟩
def itL (n:Nat) (acc:List Int):List Int:=acc++List.replicate (n-acc.length) 0
theorem itL_set {n:Nat} {acc:List Int} {v:Int} (h:acc.length<n):(itL n acc).set acc.length v=itL n (acc++[v]):=by
 unfold itL
 rw[show n-acc.length=(n-(acc++[v]).length)+1 by simp;omega,List.replicate_succ,List.append_assoc]
 simp
theorem itL_len {n:Nat} {acc:List Int} (h:acc.length<=n):(itL n acc).length=n:=by unfold itL;simp;omega
theorem itL_r {n k:Nat} {acc:List Int} {v:Int} (h:(acc.length:Int)<n):RowsEq kN k (setRow (encL encI (itL n acc)) (0+(acc.length:Int).toNat) 0 [.i v]) (encL encI (itL n (acc++[v]))):=by
 have h:acc.length<n:=by omega
 rw[<- itL_set h,Nat.zero_add]
 refine rowsEq_set (by rw[show(acc.length:Int).toNat=acc.length from rfl,itL_len (by omega)];exact h) ⟨rfl,trivial⟩
theorem itL_z {n k:Nat}:RowsEq kN k (fun _ j=>zRow kN j) (encL encI (itL n [])):=by
 unfold itL
 exact rowsEq_zero (n:=n) ⟨rfl,trivial⟩
theorem itL_t {n:Nat} {acc:List Int} (h:acc.length<=n) (h1:¬ (acc.length:Int)<n):itL n acc=acc:=by
 unfold itL
 rw[show n-acc.length=0 by omega]
 simp
def itC:CT where
 X:=Rd
 pre:=RdOk
 args:=fun x=>[.p 100000 0 0]
 g0:=fun x=>rdB 100000 100001 x
 res:=fun x=>.sl 2 0 (itV x).length
 g1:=fun x=>rdB 100000 1 (itR x)++[(2,.rows .own kN (itV x).length (encL encI (itV x)))]
def itI (x:Rd) (id:Nat):Option Inv:=match id with
 | 0 => some { X := ItS, ok := fun s => ItP x s, fr := fun s => [(0, .p 100000 0 0), (4, .sl 332 0 (lnN x)), (13, .i .i64 (lnN x)), (14, .i .i64 s.acc.length)],
               hp:=fun s=>rdB 100000 331 s.r++[(100001,.rows .bor kB x.B.length (encL encI x.B)),(332,.rows .own kN (lnN x) (encL encI (itL (lnN x) s.acc)))],me:=fun s=>lnN x-s.acc.length }
 |_=>none
theorem it_l0 {r:Rd} (h:itV r=[]):(itV r).length=0:=by rw[h];rfl
theorem it_len {x:Rd} {s:ItS} (h:ItP x s) (h1:¬ (s.acc.length:Int)<lnN x):lnN x=(itV x).length:=by
 rw[(it_t h h1).1]
 have:=h.len
 omega
theorem it_rows {x:Rd} {s:ItS} (h:ItP x s) (h1:¬ (s.acc.length:Int)<lnN x):RowsEq kN (itV x).length (encL encI (itL (lnN x) s.acc)) (encL encI (itV x)):=by
 rw[(it_t h h1).1,itL_t h.len h1]
 exact rr
theorem it_small {x:Rd} {k:Nat} (h:RdOk x) (h1:(k:Int)<lnN x):(k:Int)+1<=9223372036854775807:=by
 have:=ln_cap h
 have:=(lnV_r x).1
 unfold lnN at h1
 omega
set_option maxRecDepth 100000 in
theorem it_keeps:Keeps cfgR3 Tryd.f54 itC itI:=Eq.mp (show((∀ x1:Rd,((RdOk x1)->(∃ x3:Rd,((RdOk x3)/\(((0=0/\0=0)/\True)/\((((x1.lo=x3.lo/\(x1.B.length-x1.lo=x3.B.length-x3.lo))/\(x1.e=x3.e/\True))/\(((RLe x3.B.length x1.B.length)/\(RowsEq (.int IntKind.u8::[]) x3.B.length (encL encI x1.B) (encL encI x3.B)))/\True))/\(((decide (lnV x3=0)=true)->((True/\(0=0/\((itV x1).length=(0:Nat))))/\(((((lnR x3).lo=(itR x1).lo)/\((lnR x3).B.length-(lnR x3).lo=(itR x1).B.length-(itR x1).lo))/\(((lnR x3).e=(itR x1).e)/\True))/\(((RLe (itR x1).B.length (lnR x3).B.length)/\(RowsEq (.int IntKind.u8::[]) (itR x1).B.length (encL encI (lnR x3).B) (encL encI (itR x1).B)))/\(((itV x1).length=(0:Nat))/\True)))))/\((decide (lnV x3=0)=false)->((((0:Int)<=lnV x3)/\((lnV x3<=lnV x3)/\(lnV x3<=(↑(1073741824:Nat):Int))))/\(∃ x6:ItS,(((ItP x1 x6)/\(((0=0/\0=0)/\((0=0/\(Int.toNat (lnV x3)=lnN x1))/\(((↑(Int.toNat (lnV x3)):Int)=(↑(lnN x1):Int))/\((0=(x6.acc.length:Int))/\((lnV x3=lnV x3)/\((decide (lnV x3=0)=decide (lnV x3=0))/\((lnV x3=lnV x3)/\((lnV x3=lnV x3)/\((lnV x3=lnV x3)/\((0=0/\0=0)/\True))))))))))/\(((((lnR x3).lo=x6.r.lo)/\((lnR x3).B.length-(lnR x3).lo=x6.r.B.length-x6.r.lo))/\(((lnR x3).e=x6.r.e)/\True))/\(((RLe x6.r.B.length (lnR x3).B.length)/\(RowsEq (.int IntKind.u8::[]) x6.r.B.length (encL encI (lnR x3).B) (encL encI x6.r.B)))/\(((RLe x1.B.length x1.B.length)/\(RowsEq (.int IntKind.u8::[]) x1.B.length (encL encI x1.B) (encL encI x1.B)))/\(((RLe (lnN x1) (Int.toNat (lnV x3)))/\(RowsEq [.int .i64] (lnN x1) (fun(x j:Nat)=>zRow [.int .i64] j) (encL encI (itL (lnN x1) x6.acc))))/\True))))))/\(∀ x7:ItS,((ItP x1 x7)->(((decide ((x7.acc.length:Int)<(↑(lnN x1):Int))=true)->(∃ x10:Rd,((RdOk x10)/\(((0=0/\0=0)/\True)/\((((x7.r.lo=x10.lo/\(x7.r.B.length-x7.r.lo=x10.B.length-x10.lo))/\(x7.r.e=x10.e/\True))/\(((RLe x10.B.length x7.r.B.length)/\(RowsEq (.int IntKind.u8::[]) x10.B.length (encL encI x7.r.B) (encL encI x10.B)))/\True))/\((((0:Int)<=(x7.acc.length:Int))/\((x7.acc.length:Int)<(↑(lnN x1):Int)))/\(((0+Int.toNat (x7.acc.length:Int)<lnN x1)/\(True/\True))/\(((decide ((intR x10).e≠(0:Int))=true)->((True/\(0=0/\((itV x1).length=(0:Nat))))/\(((((intR x10).lo=(itR x1).lo)/\((intR x10).B.length-(intR x10).lo=(itR x1).B.length-(itR x1).lo))/\(((intR x10).e=(itR x1).e)/\True))/\(((RLe (itR x1).B.length (intR x10).B.length)/\(RowsEq (.int IntKind.u8::[]) (itR x1).B.length (encL encI (intR x10).B) (encL encI (itR x1).B)))/\(((itV x1).length=(0:Nat))/\True)))))/\((decide ((intR x10).e≠(0:Int))=false)->((((-9223372036854775808:Int)<=(x7.acc.length:Int)+1)/\((x7.acc.length:Int)+1<=(9223372036854775807:Int)))/\(∃ x13:ItS,((lnN x1-x13.acc.length<lnN x1-x7.acc.length)/\((ItP x1 x13)/\(((0=0/\0=0)/\((0=0/\(lnN x1=lnN x1))/\(((↑(lnN x1):Int)=(↑(lnN x1):Int))/\(((x7.acc.length:Int)+1=(x13.acc.length:Int))/\((lnV x3=lnV x3)/\((decide (lnV x3=0)=decide (lnV x3=0))/\((lnV x3=lnV x3)/\((lnV x3=lnV x3)/\((lnV x3=lnV x3)/\((0=0/\0=0)/\True))))))))))/\(((((intR x10).lo=x13.r.lo)/\((intR x10).B.length-(intR x10).lo=x13.r.B.length-x13.r.lo))/\(((intR x10).e=x13.r.e)/\True))/\(((RLe x13.r.B.length (intR x10).B.length)/\(RowsEq (.int IntKind.u8::[]) x13.r.B.length (encL encI (intR x10).B) (encL encI x13.r.B)))/\(((RLe x1.B.length x1.B.length)/\(RowsEq (.int IntKind.u8::[]) x1.B.length (encL encI x1.B) (encL encI x1.B)))/\(((RLe (lnN x1) (lnN x1))/\(RowsEq [.int .i64] (lnN x1) (setRow (encL encI (itL (lnN x1) x7.acc)) (0+Int.toNat (x7.acc.length:Int)) 0 (D.i (intV x10)::@List.nil D)) (encL encI (itL (lnN x1) x13.acc))))/\True))))))))))))))))))/\((decide ((x7.acc.length:Int)<(↑(lnN x1):Int))=false)->((0=0/\(lnN x1=(itV x1).length))/\((((x7.r.lo=(itR x1).lo)/\(x7.r.B.length-x7.r.lo=(itR x1).B.length-(itR x1).lo))/\((x7.r.e=(itR x1).e)/\True))/\(((RLe (itR x1).B.length x7.r.B.length)/\(RowsEq (.int IntKind.u8::[]) (itR x1).B.length (encL encI x7.r.B) (encL encI (itR x1).B)))/\(((RLe (itV x1).length (lnN x1))/\(RowsEq [.int .i64] (itV x1).length (encL encI (itL (lnN x1) x7.acc)) (encL encI (itV x1))))/\True))))))))))))))))))))=(Keeps cfgR3 Tryd.f54 itC itI) by kernel_rfl) (fun x1=>fun h2=>⟨(x1),
(by(try dsimp only at *);omega),
⟨⟨rfl,rfl⟩,trivial⟩,
⟨⟨⟨rfl,rfl⟩,rfl,trivial⟩,
⟨rl,rr⟩,trivial⟩,
fun g4=>have h4:=dT g4;⟨⟨trivial,rfl,
(by(try dsimp only at *);exact it_l0 (it_00 h4).1)⟩,
⟨⟨(by(try dsimp only at *);(rw[(it_00 h4).2])),
(by(try dsimp only at *);(rw[(it_00 h4).2]))⟩,
(by(try dsimp only at *);(rw[(it_00 h4).2])),trivial⟩,
⟨⟨(by(try dsimp only at *);(rw[(it_00 h4).2];exact Nat.le_refl _))⟩,
(by(try dsimp only at *);(rw[(it_00 h4).2];exact rr))⟩,
(by(try dsimp only at *);exact it_l0 (it_00 h4).1),trivial⟩,
fun g5=>have h5:=dF g5;⟨⟨(by(try dsimp only at *);exact(lnV_r x1).1),
(by(try dsimp only at *);omega),
(by(try dsimp only at *);exact ln_cap h2)⟩,
({ r:=lnR x1,acc:=@List.nil Int:ItS }),
⟨(by(try dsimp only at *);exact it_0 h2 h5),
⟨⟨rfl,rfl⟩,
⟨rfl,
(by(try dsimp only at *);rfl)⟩,
(by(try dsimp only at *);rfl),
(by(try dsimp only at *);grind),rfl,rfl,rfl,rfl,rfl,
⟨rfl,rfl⟩,trivial⟩,
⟨⟨rfl,rfl⟩,rfl,trivial⟩,
⟨rl,rr⟩,
⟨rl,rr⟩,
⟨⟨(by(try dsimp only at *);exact Nat.le_refl _)⟩,
(by(try dsimp only at *);exact itL_z)⟩,trivial⟩,
fun x7=>fun h8=>⟨fun g9=>have h9:=dT g9;⟨(ItS.r x7),
(by(try dsimp only at *);exact h8.ok),
⟨⟨rfl,rfl⟩,trivial⟩,
⟨⟨⟨rfl,rfl⟩,rfl,trivial⟩,
⟨rl,rr⟩,trivial⟩,
⟨(by(try dsimp only at *);omega),
(by(try dsimp only at *);omega)⟩,
⟨(by(try dsimp only at *);omega),trivial,trivial⟩,
fun g11=>have h11:=dT g11;⟨⟨trivial,rfl,
(by(try dsimp only at *);exact it_l0 (it_e h8 h9 h11).1)⟩,
⟨⟨(by(try dsimp only at *);(rw[(it_e h8 h9 h11).2])),
(by(try dsimp only at *);(rw[(it_e h8 h9 h11).2]))⟩,
(by(try dsimp only at *);(rw[(it_e h8 h9 h11).2])),trivial⟩,
⟨⟨(by(try dsimp only at *);(rw[(it_e h8 h9 h11).2];exact Nat.le_refl _))⟩,
(by(try dsimp only at *);(rw[(it_e h8 h9 h11).2];exact rr))⟩,
(by(try dsimp only at *);exact it_l0 (it_e h8 h9 h11).1),trivial⟩,
fun g12=>have h12:=dF g12;⟨⟨(by(try dsimp only at *);omega),
(by(try dsimp only at *);exact it_small h2 h9)⟩,
({ r:=intR (ItS.r x7),acc:=ItS.acc x7++intV (ItS.r x7)::@List.nil Int:ItS }),
(by(try dsimp only at *);grind),
(by(try dsimp only at *);exact it_s h8 h9 h12),
⟨⟨rfl,rfl⟩,
⟨rfl,rfl⟩,rfl,
(by(try dsimp only at *);grind),rfl,rfl,rfl,rfl,rfl,
⟨rfl,rfl⟩,trivial⟩,
⟨⟨rfl,rfl⟩,rfl,trivial⟩,
⟨rl,rr⟩,
⟨rl,rr⟩,
⟨rl,
(by(try dsimp only at *);exact itL_r h9)⟩,trivial⟩⟩,
fun g14=>have h14:=dF g14;⟨⟨rfl,
(by(try dsimp only at *);exact it_len h8 h14)⟩,
⟨⟨(by(try dsimp only at *);(rw[(it_t h8 h14).2])),
(by(try dsimp only at *);(rw[(it_t h8 h14).2]))⟩,
(by(try dsimp only at *);(rw[(it_t h8 h14).2])),trivial⟩,
⟨⟨(by(try dsimp only at *);(rw[(it_t h8 h14).2];exact Nat.le_refl _))⟩,
(by(try dsimp only at *);(rw[(it_t h8 h14).2];exact rr))⟩,
⟨⟨(by(try dsimp only at *);exact Nat.le_of_eq (it_len h8 h14).symm)⟩,
(by(try dsimp only at *);exact it_rows h8 h14)⟩,trivial⟩⟩⟩⟩)
theorem it_good:Good Tryd.prog 54 itC/\FnOk Tryd.prog 54:=good_of tok conR3 (fn:=Tryd.f54) rfl (by decide+kernel) (fun _=>rfl) it_keeps
def fnV (r:Rd):Int:=if r.e≠0 then r.e else if r.lo<r.B.length then 2 else 0
def fnC:CT where
 X:=Rd
 pre:=RdOk
 args:=fun x=>[.p 100000 0 0]
 g0:=fun x=>[(100000,.one .bor [.sl 100001 x.lo (x.B.length-x.lo),.i .i64 x.e]),(100001,.rows .bor kB x.B.length (encL encI x.B))]
 res:=fun x=>.i .i64 (fnV x)
 g1:=fun _=>[]
theorem fn_e {r:Rd} (h:r.e≠0):r.e=fnV r:=by unfold fnV;rw[if_pos h]
theorem fn_m {r:Rd} (h:¬ r.e≠0) (h1:0<((r.B.length-r.lo:Nat):Int)):2=fnV r:=by unfold fnV;rw[if_neg h,if_pos (by omega)]
theorem fn_0 {r:Rd} (h:¬ r.e≠0) (h1:¬ 0<((r.B.length-r.lo:Nat):Int)):0=fnV r:=by unfold fnV;rw[if_neg h,if_neg (by omega)]
set_option maxRecDepth 100000 in
theorem fn_keeps:Keeps cfg0 Tryd.f52 fnC noIv:=Eq.mp (show((∀ x1:Rd,((RdOk x1)->(((decide (x1.e≠(0:Int))=true)->((x1.e=fnV x1)/\True))/\((decide (x1.e≠(0:Int))=false)->(((decide (0<(↑(x1.B.length-x1.lo):Int))=true)->(((2:Int)=fnV x1)/\True))/\((decide (0<(↑(x1.B.length-x1.lo):Int))=false)->(((0:Int)=fnV x1)/\True))))))))=(Keeps cfg0 Tryd.f52 fnC noIv) by kernel_rfl) (fun x1=>fun h2=>⟨fun g3=>have h3:=dT g3;⟨(by exact fn_e ‹_›),trivial⟩,
fun g4=>have h4:=dF g4;⟨fun g5=>have h5:=dT g5;⟨(by exact fn_m ‹_› ‹_›),trivial⟩,
fun g6=>have h6:=dF g6;⟨(by exact fn_0 ‹_› ‹_›),trivial⟩⟩⟩)
theorem fn_good:Good Tryd.prog 52 fnC/\FnOk Tryd.prog 52:=good_of tok con0 (fn:=Tryd.f52) rfl (by decide+kernel) (fun _=>rfl) fn_keeps
def nrC:CT where
 X:=List Int
 pre:=fun x=>x.length<=1000000
 args:=fun x=>[.sl 100001 0 x.length]
 g0:=fun x=>[(100001,.rows .bor kB x.length (encL encI x))]
 res:=fun _=>.p 1 0 0
 g1:=fun x=>rdB 1 2 ⟨x,0,0⟩
set_option maxRecDepth 100000 in
theorem nr_keeps:Keeps cfg0 Tryd.f50 nrC noIv:=Eq.mp (show((∀ x1:List Int,((x1.length<=(1000000:Nat))->((((0:Int)<=(x1.length:Int))/\(((x1.length:Int)<=(x1.length:Int))/\((x1.length:Int)<=(↑(1073741824:Nat):Int))))/\(((0+Int.toNat (x1.length:Int)<=Int.toNat (x1.length:Int))/\((0:Nat)+x1.length<=x1.length))/\((0=0/\0=0)/\(((0=0/\(Int.toNat (x1.length:Int)=x1.length-(0:Nat)))/\(((0:Int)=0)/\True))/\(((RLe x1.length (Int.toNat (x1.length:Int)))/\(RowsEq (.int IntKind.u8::[]) x1.length (cpyRows (fun(x j:Nat)=>zRow (.int IntKind.u8::[]) j) 0 (min x1.length (Int.toNat (x1.length:Int))) (encL encI x1) 0) (encL encI x1)))/\True))))))))=(Keeps cfg0 Tryd.f50 nrC noIv) by kernel_rfl) (fun x1=>fun h2=>⟨⟨(by omega),
(by omega),
(by omega)⟩,
⟨(by omega),
(by omega)⟩,
⟨rfl,rfl⟩,
⟨⟨rfl,
(by omega)⟩,rfl,trivial⟩,
⟨⟨(by omega)⟩,
(by exact cpy_all (by omega))⟩,trivial⟩)
theorem nr_good:Good Tryd.prog 50 nrC/\FnOk Tryd.prog 50:=good_of tok con0 (fn:=Tryd.f50) rfl (by decide+kernel) (fun _=>rfl) nr_keeps
end Go.Sym