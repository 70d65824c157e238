import Derived.Test.YtlldhkhmhgcpaaaDoorSR
import Derived.Test.YtlldhkhmhgcpaaaDoorN6
import Derived.Test.YtlldhkhmhgcpaaaDoorXD
namespace Go.Sym
set_option linter.unusedVariables false
set_option linter.unusedSimpArgs false
open Go.Proofs
set_option maxRecDepth 100000
set_option maxHeartbeats 4000000
def grC:CT where
 X:=Int
 pre:=fun n=>0<=n/\n<=100000
 args:=fun n=>[.ns,.i .i64 n]
 g0:=fun _=>[]
 res:=fun _=>.sl 1 0 0
 g1:=fun _=>[(1,.rows .own k1 0 (encL encI []))]
def grI (_:Int) (id:Nat):Option Inv:=match id with
 |100006=>some (cutT 6 false)
 |_=>none
set_option maxRecDepth 100000 in
theorem grI_keeps:Keeps cfgN0 Tryd.f51 grC grI:=Eq.mp (show((∀ x1:Int,(((0:Int)<=x1/\x1<=(100000:Int))->((∃ x3:Unit,(True/\((decide (x1<0)=false)/\True)))/\(∀ x4:Unit,(True->((((-9223372036854775808:Int)<=(0:Int)-0)/\((0:Int)-0<=(9223372036854775807:Int)))/\((((-9223372036854775808:Int)<=x1-((0:Int)-0))/\(x1-((0:Int)-0)<=(9223372036854775807:Int)))/\(((decide (0<x1-((0:Int)-0))=true)->((((0:Int)=0)/\((0:Int)=0))/\((((0:Int)<=x1-((0:Int)-0))/\(x1-((0:Int)-0)<=(1048576:Int)))/\((((0:Int)<=(0:Int))/\(((0:Int)<=(0:Int))/\((0:Int)<=(↑(Int.toNat (x1-((0:Int)-0))):Int))))/\(((0+Int.toNat (0:Int)=(0:Nat))/\(Int.toNat (0:Int)-Int.toNat (0:Int)=(0:Nat)))/\(((RLe 0 (Int.toNat (x1-((0:Int)-0))))/\(RowsEq [.int .i64] 0 (fun(x j:Nat)=>zRow [.int .i64] j) (encL encI (@List.nil Int))))/\True))))))/\((decide (0<x1-((0:Int)-0))=false)->((True/\(0=0/\0=0))/\(0=0/\True))))))))))))=(Keeps cfgN0 Tryd.f51 grC grI) by kernel_rfl) (fun x1=>fun h2=>⟨⟨(default),trivial,
(by(try dsimp only at *);grind),trivial⟩,
fun x4=>fun h5=>⟨⟨(by(try dsimp only at *);omega),
(by(try dsimp only at *);omega)⟩,
⟨(by(try dsimp only at *);omega),
(by(try dsimp only at *);omega)⟩,
fun g6=>have h6:=dT g6;⟨⟨rfl,rfl⟩,
⟨(by(try dsimp only at *);omega),
(by(try dsimp only at *);omega)⟩,
⟨(by(try dsimp only at *);omega),
(by(try dsimp only at *);omega),
(by(try dsimp only at *);omega)⟩,
⟨(by(try dsimp only at *);omega),
(by(try dsimp only at *);omega)⟩,
⟨⟨(by(try dsimp only at *);omega)⟩,
(by(try dsimp only at *);exact rowsEq0)⟩,trivial⟩,
fun g7=>have h7:=dF g7;⟨⟨trivial,rfl,rfl⟩,rfl,trivial⟩⟩⟩)
theorem grI_good:Good Tryd.prog 51 grC/\FnOk Tryd.prog 51:=good_of tok conN0 (fn:=Tryd.f51) rfl (by decide+kernel) (fun _=>rfl) grI_keeps
structure CTx where
 a:List Int
 b:List Int
def rowPP (a b:List Int) (r:Nat) (_:Nat):D:=if r=0 then .l a.length (encL encI a)else .l b.length (encL encI b)
def atPP (q:CTx) (k:Nat):List Int:=if k=0 then q.a else q.b
def catPP (q:CTx) (k:Nat):List Int:=if k=0 then []else if k=1 then q.a else q.a++q.b
theorem rowPP_at (q:CTx) (k:Nat):rowPP q.a q.b k 0= .l (atPP q k).length (encL encI (atPP q k)):=by unfold rowPP atPP;split <;>rfl
theorem catPP_succ (q:CTx) {k:Nat} (h:k<2):catPP q (k+1)=catPP q k++atPP q k:=by
 rcases(show k=0∨k=1 by omega)with e|e <;>subst e <;>simp[catPP,atPP]
structure CTok (q:CTx):Prop where
 a:q.a.length<=1000
 b:q.b.length<=1000
theorem CTok.at {q:CTx} (h:CTok q) (k:Nat):(atPP q k).length<=1000:=by unfold atPP;split;exact h.a;exact h.b
theorem CTok.cat {q:CTx} (h:CTok q) (k:Nat):(catPP q k).length<=2000:=by
 have:=h.a;have:=h.b
 unfold catPP;split
 ·simp
 ·split
  ·omega
  ·simp;omega
def kPP:List Kd:=[.sl [.int .i64]]
def ctC:CT where
 X:=CTx
 pre:=CTok
 args:=fun _=>[.sl 100000 0 2]
 g0:=fun q=>[(100000,.rows .bor kPP 2 (rowPP q.a q.b))]
 res:=fun q=>.sl 1 0 (q.a++q.b).length
 g1:=fun q=>[(1,.rows .own k1 (q.a++q.b).length (encL encI (q.a++q.b)))]
def ctI (q:CTx) (id:Nat):Option Inv:=match id with
 |0=>some { X:=Nat,ok:=fun k=>k<=2,fr:=fun k=>[(11,.i .i64 k),(3,.i .i64 (catPP q k).length)],hp:=fun _=>[],me:=fun k=>2-k,inn:=fun _ id=>match id with|100020=>some (cutT 20 false)|_=>none }
 |2=>some { X:=Nat,ok:=fun k=>k<=2,fr:=fun k=>[(27,.i .i64 k),(6,.sl 41 0 (catPP q k).length)],hp:=fun k=>[(41,.rows .own k1 (catPP q k).length (encL encI (catPP q k)))],me:=fun k=>2-k }
 |_=>none
theorem ct_len {q:CTx} {k:Nat} (h:(k:Int)<(2:Nat)):((catPP q k).length:Int)+((rowPP q.a q.b k 0).toN:Nat)=(catPP q (k+1)).length:=by
 rw[rowPP_at,catPP_succ q (by omega),List.length_append];show _+((atPP q k).length:Int)=_;omega
theorem ct_lenN {q:CTx} {k:Nat} (h:(k:Int)<(2:Nat)):(catPP q k).length+(rowPP q.a q.b k 0).toN=(catPP q (k+1)).length:=by
 rw[rowPP_at,catPP_succ q (by omega),List.length_append];rfl
theorem ct_app {q:CTx} {k n:Nat} (h:(k:Int)<(2:Nat)) (hn:n<=(catPP q (k+1)).length):RowsEq k1 n (appRows (catPP q k).length (encL encI (catPP q k)) 0 (rowPP q.a q.b k 0).toF) (encL encI (catPP q (k+1))):=by
 rw[rowPP_at,catPP_succ q (by omega)]at*
 exact rowsEq_app rfl (by rw[List.length_append]at hn;exact hn) fun i _=>by show rowEq k1 (encL encI (atPP q k) (0+i)) _ 0;rw[Nat.zero_add];exact rowEq_rfl _ _ _
theorem ct_rng {q:CTx} (h:CTok q) (k:Nat):(rowPP q.a q.b k 0).toN<=1000:=by rw[rowPP_at];exact h.at k
theorem ct_end {q:CTx} {k:Nat} (h:k<=2) (h2:¬ (k:Int)<(2:Nat)):catPP q k=q.a++q.b:=by
 have e:k=2:=by omega
 subst e
 rfl
def cfgCtI:Cfg:=⟨T,[],[(51,.one grC)],noInv,11,{}⟩
theorem conCtI:ConOk Tryd.prog cfgCtI:=ConL.ok (.cons (ConL.one grI_good) .nil)
set_option maxRecDepth 100000 in
theorem ctI_keeps:Keeps cfgCtI Tryd.f33 ctC ctI:=Eq.mp (show((∀ x1:CTx,((CTok x1)->(∃ x3:Nat,(((x3<=(2:Nat))/\(((0=(x3:Int))/\((0=(↑(catPP x1 x3).length:Int))/\(((↑(2:Nat):Int)=(↑(2:Nat):Int))/\((0=0/\((2:Nat)=(2:Nat)))/\(True/\((0=0/\((2:Nat)=(2:Nat)))/\True))))))/\((RLe 2 2/\(RowsEq [.sl [.int .i64]] 2 (rowPP x1.a x1.b) (rowPP x1.a x1.b)))/\True)))/\(∀ x4:Nat,((x4<=(2:Nat))->(((decide ((x4:Int)<(↑(2:Nat):Int))=true)->((((0:Int)<=(x4:Int))/\((x4:Int)<(↑(2:Nat):Int)))/\((0+Int.toNat (x4:Int)<(2:Nat))/\((((-9223372036854775808:Int)<=(↑(catPP x1 x4).length:Int)+(↑(D.toN (rowPP x1.a x1.b (0+Int.toNat (x4:Int)) 0)):Int))/\((↑(catPP x1 x4).length:Int)+(↑(D.toN (rowPP x1.a x1.b (0+Int.toNat (x4:Int)) 0)):Int)<=(9223372036854775807:Int)))/\((∃ x7:Unit,(True/\((decide ((↑(catPP x1 x4).length:Int)+(↑(D.toN (rowPP x1.a x1.b (0+Int.toNat (x4:Int)) 0)):Int)<0)=false)/\True)))/\(∀ x8:Unit,(True->((((-9223372036854775808:Int)<=(x4:Int)+1)/\((x4:Int)+1<=(9223372036854775807:Int)))/\(∃ x10:Nat,(((2:Nat)-x10<(2:Nat)-x4)/\((x10<=(2:Nat))/\((((x4:Int)+1=(x10:Int))/\(((↑(catPP x1 x4).length:Int)+(↑(D.toN (rowPP x1.a x1.b (0+Int.toNat (x4:Int)) 0)):Int)=(↑(catPP x1 x10).length:Int))/\(((↑(2:Nat):Int)=(↑(2:Nat):Int))/\((0=0/\((2:Nat)=(2:Nat)))/\(True/\((0=0/\((2:Nat)=(2:Nat)))/\True))))))/\((RLe 2 2/\(RowsEq [.sl [.int .i64]] 2 (rowPP x1.a x1.b) (rowPP x1.a x1.b)))/\True)))))))))))))/\((decide ((x4:Int)<(↑(2:Nat):Int))=false)->(∃ x12:Int,((((0:Int)<=x12)/\(x12<=(100000:Int)))/\((True/\(((↑(catPP x1 x4).length:Int)=x12)/\True))/\(True/\(∃ x13:Nat,(((x13<=(2:Nat))/\(((0=(x13:Int))/\((0=0/\((0:Nat)=(catPP x1 x13).length))/\(((↑(2:Nat):Int)=(↑(2:Nat):Int))/\((0=0/\((2:Nat)=(2:Nat)))/\(((↑(catPP x1 x4).length:Int)=(↑(catPP x1 x4).length:Int))/\(((↑(2:Nat):Int)=(↑(2:Nat):Int))/\((0=0/\((2:Nat)=(2:Nat)))/\(True/\((0=0/\((2:Nat)=(2:Nat)))/\True)))))))))/\(((RLe (catPP x1 x13).length 0)/\(RowsEq [.int .i64] (catPP x1 x13).length (encL encI (@List.nil Int)) (encL encI (catPP x1 x13))))/\((RLe 2 2/\(RowsEq [.sl [.int .i64]] 2 (rowPP x1.a x1.b) (rowPP x1.a x1.b)))/\True))))/\(∀ x14:Nat,((x14<=(2:Nat))->(((decide ((x14:Int)<(↑(2:Nat):Int))=true)->((((0:Int)<=(x14:Int))/\((x14:Int)<(↑(2:Nat):Int)))/\((0+Int.toNat (x14:Int)<(2:Nat))/\((0=0/\(((catPP x1 x14).length<=(catPP x1 x14).length)/\(((0:Nat)+D.toN (rowPP x1.a x1.b (0+Int.toNat (x14:Int)) 0)<=D.toN (rowPP x1.a x1.b (0+Int.toNat (x14:Int)) 0))/\((catPP x1 x14).length+D.toN (rowPP x1.a x1.b (0+Int.toNat (x14:Int)) 0)<=(1073741824:Nat)))))/\((((-9223372036854775808:Int)<=(x14:Int)+1)/\((x14:Int)+1<=(9223372036854775807:Int)))/\(∃ x17:Nat,(((2:Nat)-x17<(2:Nat)-x14)/\((x17<=(2:Nat))/\((((x14:Int)+1=(x17:Int))/\((0=0/\((catPP x1 x14).length+D.toN (rowPP x1.a x1.b (0+Int.toNat (x14:Int)) 0)=(catPP x1 x17).length))/\(((↑(2:Nat):Int)=(↑(2:Nat):Int))/\((0=0/\((2:Nat)=(2:Nat)))/\(((↑(catPP x1 x4).length:Int)=(↑(catPP x1 x4).length:Int))/\(((↑(2:Nat):Int)=(↑(2:Nat):Int))/\((0=0/\((2:Nat)=(2:Nat)))/\(True/\((0=0/\((2:Nat)=(2:Nat)))/\True)))))))))/\(((RLe (catPP x1 x17).length ((catPP x1 x14).length+D.toN (rowPP x1.a x1.b (0+Int.toNat (x14:Int)) 0)))/\(RowsEq [.int .i64] (catPP x1 x17).length (appRows (catPP x1 x14).length (encL encI (catPP x1 x14)) 0 (D.toF (rowPP x1.a x1.b (0+Int.toNat (x14:Int)) 0))) (encL encI (catPP x1 x17))))/\((RLe 2 2/\(RowsEq [.sl [.int .i64]] 2 (rowPP x1.a x1.b) (rowPP x1.a x1.b)))/\True)))))))))))/\((decide ((x14:Int)<(↑(2:Nat):Int))=false)->((0=0/\((catPP x1 x14).length=(x1.a++x1.b).length))/\(((RLe (x1.a++x1.b).length (catPP x1 x14).length)/\(RowsEq [.int .i64] (x1.a++x1.b).length (encL encI (catPP x1 x14)) (encL encI (x1.a++x1.b))))/\True)))))))))))))))))))))=(Keeps cfgCtI Tryd.f33 ctC ctI) by kernel_rfl) (fun x1=>fun h2=>⟨((0:Nat)),
⟨(by(try dsimp only at *);omega),
⟨(by(try dsimp only at *);omega),
(by(try dsimp only at *);rfl),rfl,
⟨rfl,rfl⟩,trivial,
⟨rfl,rfl⟩,trivial⟩,
⟨rl,rr⟩,trivial⟩,
fun x4=>fun h5=>⟨fun g6=>have h6:=dT g6;⟨⟨(by(try dsimp only at *);omega),
(by(try dsimp only at *);omega)⟩,
(by(try dsimp only at *);omega),
⟨(by(try dsimp only at *);omega),
(by(try dsimp only at *);(have:=h2.cat x4;have:=ct_rng h2 (0+(x4:Int).toNat);omega))⟩,
⟨(default),trivial,
(by(try dsimp only at *);grind),trivial⟩,
fun x8=>fun h9=>⟨⟨(by(try dsimp only at *);omega),
(by(try dsimp only at *);omega)⟩,
(x4+(1:Nat)),
(by(try dsimp only at *);omega),
(by(try dsimp only at *);omega),
⟨(by(try dsimp only at *);omega),
(by(try dsimp only at *);(rw[nat0];exact ct_len h6)),rfl,
⟨rfl,rfl⟩,trivial,
⟨rfl,rfl⟩,trivial⟩,
⟨rl,rr⟩,trivial⟩⟩,
fun g11=>have h11:=dF g11;⟨((↑(List.length (catPP x1 x4)):Int)),
⟨(by(try dsimp only at *);omega),
(by(try dsimp only at *);(have:=h2.cat x4;have:=ct_rng h2 (0+(x4:Int).toNat);omega))⟩,
⟨trivial,rfl,trivial⟩,trivial,
((0:Nat)),
⟨(by(try dsimp only at *);omega),
⟨(by(try dsimp only at *);omega),
⟨rfl,
(by(try dsimp only at *);rfl)⟩,rfl,
⟨rfl,rfl⟩,rfl,rfl,
⟨rfl,rfl⟩,trivial,
⟨rfl,rfl⟩,trivial⟩,
⟨⟨(by(try dsimp only at *);exact Nat.le_refl _)⟩,
(by(try dsimp only at *);exact rr)⟩,
⟨rl,rr⟩,trivial⟩,
fun x14=>fun h15=>⟨fun g16=>have h16:=dT g16;⟨⟨(by(try dsimp only at *);omega),
(by(try dsimp only at *);omega)⟩,
(by(try dsimp only at *);omega),
⟨rfl,
(by(try dsimp only at *);omega),
(by(try dsimp only at *);omega),
(by(try dsimp only at *);(have:=h2.cat x14;have:=ct_rng h2 (0+(x14:Int).toNat);omega))⟩,
⟨(by(try dsimp only at *);omega),
(by(try dsimp only at *);omega)⟩,
(x14+(1:Nat)),
(by(try dsimp only at *);omega),
(by(try dsimp only at *);omega),
⟨(by(try dsimp only at *);omega),
⟨rfl,
(by(try dsimp only at *);(rw[nat0];exact ct_lenN h16))⟩,rfl,
⟨rfl,rfl⟩,rfl,rfl,
⟨rfl,rfl⟩,trivial,
⟨rfl,rfl⟩,trivial⟩,
⟨⟨(by(try dsimp only at *);(rw[nat0];exact Nat.le_of_eq (ct_lenN h16).symm))⟩,
(by(try dsimp only at *);(rw[nat0];exact ct_app h16 (Nat.le_refl _)))⟩,
⟨rl,rr⟩,trivial⟩,
fun g18=>have h18:=dF g18;⟨⟨rfl,
(by(try dsimp only at *);(rw[ct_end h15 h18]))⟩,
⟨⟨(by(try dsimp only at *);(rw[ct_end h15 h18];exact Nat.le_refl _))⟩,
(by(try dsimp only at *);(rw[ct_end h15 h18];exact rr))⟩,trivial⟩⟩⟩⟩⟩)
theorem ctI_good:Good Tryd.prog 33 ctC/\FnOk Tryd.prog 33:=good_of tok conCtI (fn:=Tryd.f33) rfl (by decide+kernel) (fun _=>rfl) ctI_keeps
def ctS:CT where
 X:=CTx
 pre:=CTok
 args:=fun _=>[.sl 100000 0 2]
 g0:=fun q=>[(100000,.one .bor [.sl 100001 0 q.a.length,.sl 100002 0 q.b.length]),(100001,.rows .bor k1 q.a.length (encL encI q.a)),(100002,.rows .bor k1 q.b.length (encL encI q.b))]
 res:=fun q=>.sl 1 0 (q.a++q.b).length
 g1:=fun q=>[(1,.rows .own k1 (q.a++q.b).length (encL encI (q.a++q.b)))]
theorem lent_den {ρ:Env} {w:World} {l n:Nat} {f:Nat->Nat->D} {v:Value} {z:Nat->Option Obj} (hd:Den ρ (.sl l 0 n) v) (hb:BlkOk ρ w l (.rows .bor k1 n f)) (hz:∀ pl,ρ l=some pl->z pl.b=w.heap[pl.b]?):DenD z (.sl k1) (.l n f) v:=by
 simp only[Den]at hd
 simp only[DenD]
 rcases hd with⟨_,rfl,h,_⟩|⟨pl,a,h1,rfl,h2,h3⟩
 ·exact .inl ⟨h,.inl rfl⟩
 ·rcases hb with⟨hb,_⟩|⟨pl',hb,h0,_,hk⟩|⟨pl',arr,T,fz,e1,e2,_,_,e4,e5,e6,e7⟩
  ·rw[h1]at hb;cases hb
  ·rw[h1]at hb
   cases hb
   refine .inl ⟨h0,.inr ⟨a,pl.cap,?_,fun hc=>?_⟩⟩
   ·show Value.slice (some a) n (pl.cap-0)=Value.slice (some a) 0 pl.cap
    rw[h0]
    rfl
   ·rw[h3 hc];rfl
  ·rw[h1]at e1
   cases e1
   have hk:pl.k=1:=e4
   rcases Nat.eq_zero_or_pos pl.cap with hc|hc
   ·have hn:n=0:=by omega
    refine .inl ⟨hn,.inr ⟨a,0,?_,fun h=>absurd h (Nat.lt_irrefl 0)⟩⟩
    rw[hc,hn]
   ·refine .inr ⟨pl.b,pl.off,pl.cap,arr,T,fz,?_,?_,?_,?_,?_⟩
    ·rw[h3 hc]
     show Value.slice (some (ptr pl 0 0)) n (pl.cap-0)=Value.slice (some ⟨pl.b,pl.off,none⟩) n pl.cap
     simp[ptr]
    ·show n<=pl.cap
     omega
    ·rw[hz pl h1,e2]
    ·rw[hk]at e6;exact e6
    ·intro r hr
     have:=e7 r hr
     rw[hk]at this
     exact this
theorem g0S {q:CTx} {l:Nat} {b:Blk} (h:hget (ctS.g0 q) l=some b):(l=100000/\b= .one .bor [.sl 100001 0 q.a.length,.sl 100002 0 q.b.length])∨(l=100001/\b= .rows .bor k1 q.a.length (encL encI q.a))∨(l=100002/\b= .rows .bor k1 q.b.length (encL encI q.b)):=by
 have:=hget_mem h
 simp only[ctS,List.mem_cons,List.not_mem_nil,or_false,Prod.mk.injEq]at this
 exact this
theorem denR_int {z z':Nat->Option Obj} {g:Nat->D} {c:Nat} {arr:Array Value} {o:Nat} (h:DenR z k1 g c arr o):DenR z' k1 g c arr o:=by
 simp only[k1,DenR,DenD]at h ⊢
 exact h
theorem goS {q:CTx} {l:Nat} {b:Blk} (h:hget (appH (ctS.g1 q) (ctS.g0 q)) l=some b):(l=1/\b= .rows .own k1 (q.a++q.b).length (encL encI (q.a++q.b)))∨(hget (ctS.g0 q) l=some b/\l≠1/\b.mut=false):=by
 have hm:=hget_mem h
 simp only[ctS,appH,List.mem_cons,List.not_mem_nil,or_false,Prod.mk.injEq]at hm
 rcases hm with⟨rfl,rfl⟩|⟨rfl,rfl⟩|⟨rfl,rfl⟩|⟨rfl,rfl⟩
 ·exact .inl ⟨rfl,rfl⟩
 ·exact .inr ⟨rfl,by decide,rfl⟩
 ·exact .inr ⟨rfl,by decide,rfl⟩
 ·exact .inr ⟨rfl,by decide,rfl⟩
open Classical in
theorem good_lend {P:Program} [Glob] {f:Nat} (h:Good P f ctC):Good P f ctS:=by
 intro q hq
 obtain⟨_,h⟩:=h q hq
 refine⟨rfl,fun ρ w vals hgl hv H=>?_⟩
 have hv0:DenL ρ [.sl 100000 0 2] vals:=hv
 clear hv
 obtain⟨v,r,rfl,hv1,hr⟩:=hv0
 have hr:r=[]:=hr
 subst hr
 have Ha:=H.blk 100001 _ rfl
 have Hb:=H.blk 100002 _ rfl
 obtain⟨pl,arr,T,fz,e1,e2,_,_,e3,e4⟩:=H.blk 100000 _ rfl
 simp only[Den]at hv1
 rcases hv1 with⟨h0,_⟩|⟨pl',a,p1,rfl,p2,p3⟩
 ·rw[h0]at e1;cases e1
 rw[e1]at p1
 cases p1
 have p3:a=ptr pl 0 0:=p3 (by omega)
 subst p3
 have e3:pl.off+max 2 pl.cap<=arr.size:=e3
 obtain⟨va,r1,c1,da,c2⟩:=e4
 obtain⟨vb,r2,c3,db,c4⟩:=c2
 have c4:r2=[]:=c4
 subst c4 c3
 have c1:(arr.toList.drop pl.off).take 2=[va,vb]:=c1
 have at0:arr[pl.off]? =some va:=by
  have:=congrArg (fun l=>l[0]?) c1
  simpa[List.getElem?_take,List.getElem?_drop]using this
 have at1:arr[pl.off+1]? =some vb:=by
  have:=congrArg (fun l=>l[1]?) c1
  simpa[List.getElem?_take,List.getElem?_drop]using this
 let z2:Nat->Option Obj:=fun b=>if(∃ p,ρ 100001=some p/\p.b=b)∨(∃ p,ρ 100002=some p/\p.b=b)then w.heap[b]? else ρ.z b
 have zo:∀ b o,ρ.z b=some o->z2 b=some o:=fun b o hz=>by
  show(if _ then _ else _)=_
  split
  ·exact H.zok b o hz
  ·exact hz
 have zk:∀ b o,z2 b=some o->w.heap[b]? =some o:=fun b o hz=>by
  have hz:(if _ then _ else _)=some o:=hz
  split at hz
  ·exact hz
  ·exact H.zok b o hz
 have za:∀ p,ρ 100001=some p->z2 p.b=w.heap[p.b]? :=fun p hp=>if_pos (.inl ⟨p,hp,rfl⟩)
 have zb:∀ p,ρ 100002=some p->z2 p.b=w.heap[p.b]? :=fun p hp=>if_pos (.inr ⟨p,hp,rfl⟩)
 let pl2:Place:=⟨pl.b,pl.off,1,pl.cap⟩
 let ρ2:Env:=⟨fun l=>if l=100000 then some pl2 else none,z2⟩
 have r2:ρ2 100000=some pl2:=by show(if(100000:Nat)=100000 then some pl2 else none)=some pl2;exact if_pos rfl
 have H2:HSat ρ2 (hget (ctC.g0 q)) w:=by
  have g0:∀ {l b},hget (ctC.g0 q) l=some b->l=100000/\b= .rows .bor kPP 2 (rowPP q.a q.b):=fun {l b} hg=>by
   have:=hget_mem hg
   simpa[ctC]using this
  refine⟨fun l b hg=>?_,fun l1 l2 b1 b2 q1 q2 hne h1 h2 hm=>?_,fun l b hg y hy=>?_,fun l hl=>?_,zk,fun l b p hg hm=>?_⟩
  ·obtain⟨rfl,rfl⟩:=g0 hg
   refine .inr (.inr ⟨pl2,arr,T,fz,r2,e2,fun h=>(by cases h),fun h=>(by cases h),rfl,?_,?_,fun r hr=>?_⟩)
   ·show 2<=pl.cap
    omega
   ·show pl.off+pl.cap*1<=arr.size
    omega
   ·refine⟨?_,trivial⟩
    rcases(show r=0∨r=1 by omega)with rfl|rfl
    ·exact⟨va,by simpa using at0,lent_den da Ha za⟩
    ·exact⟨vb,by simpa using at1,lent_den db Hb zb⟩
  ·obtain⟨_,rfl⟩:=g0 h1
   cases hm
  ·obtain⟨_,rfl⟩:=g0 hg
   cases hy
  ·have:l≠100000:=by rintro rfl;cases hl
   exact if_neg this
  ·obtain⟨_,rfl⟩:=g0 hg
   cases hm
 have D2:DenL ρ2 (ctC.args q) [.slice (some (ptr pl 0 0)) 2 (pl.cap-0)]:=by
  refine⟨_,[],rfl,?_,rfl⟩
  simp only[Den]
  exact .inr ⟨pl2,_,r2,rfl,p2,fun _=>by simp[ptr,pl2]⟩
 refine(h ρ2 w _ (Glob.mono zo hgl) D2 H2).mono ?_
 rintro e w' ⟨v',ρ',rfl,hd',H',K',M',_⟩
 have noE:∀ b,¬ CE ρ2 (ctC.g0 q) b:=by
  rintro b ⟨l,blk,p,h1,h2,_⟩
  have:=hget_mem h1
  simp only[ctC,List.mem_cons,List.not_mem_nil,or_false,Prod.mk.injEq]at this
  obtain⟨_,rfl⟩:=this
  cases h2
 have same:∀ k,k<w.heap.size->w'.heap[k]? =w.heap[k]? :=fun k hk=>K'.block k hk (noE k)
 have G1:hget (appH (ctC.g1 q) (ctC.g0 q)) 1=some (.rows .own k1 (q.a++q.b).length (encL encI (q.a++q.b))):=rfl
 have fresh:∀ p,ρ' 1=some p->w.heap.size<=p.b:=fun p hp=>(M'.m 1 _ p G1 rfl hp).resolve_left (noE _)
 have zlt:∀ {b o},ρ.z b=some o->b<w.heap.size:=fun h=>(Array.getElem?_eq_some_iff.1 (H.zok _ _ h)).1
 have pz:∀ p,ρ' 1=some p->ρ.z p.b=none:=fun p hp=>by
  cases hz:ρ.z p.b with
  |none=>rfl
  |some o=>have:=zlt hz;have:=fresh p hp;omega
 have at_1:(updE ρ 1 (ρ' 1)) 1=ρ' 1:=rfl
 have at_0:∀ {l},l≠1->(updE ρ 1 (ρ' 1)) l=ρ l:=fun {l} h=>by show(match Nat.beq 1 l with|true=>ρ' 1|false=>ρ l)=ρ l;rw[beq_ne (Ne.symm h)]
 refine⟨v',updE ρ 1 (ρ' 1),rfl,?_,?_,⟨K'.os,K'.tape,K'.output,K'.size,fun k hk _=>same k hk⟩,?_,fun l hl=>?_⟩
 ·have hd':Den ρ' (.sl 1 0 (q.a++q.b).length) v':=hd'
  show Den _ (.sl 1 0 (q.a++q.b).length) v'
  simp only[Den]at hd' ⊢
  exact hd'
 ·refine⟨fun l b hg=>?_,fun l1 l2 b1 b2 q1 q2 hne h1 h2 hm hr e1 e2=>?_,fun l b hg y hy=>?_,fun l hl=>?_,fun b o hz=>?_,fun l b p hg hm hp=>?_⟩
  ·rcases goS hg with⟨rfl,rfl⟩|⟨hg,hne,_⟩
   ·rcases H'.blk 1 _ G1 with⟨h1,h2⟩|⟨_,_,_,h3,_⟩|⟨p,arr',T',fz',h1,h2,h3,h4,h5,h6,h7,h8⟩
    ·exact .inl ⟨h1,h2⟩
    ·cases h3
    ·exact .inr (.inr ⟨p,arr',T',fz',h1,h2,h3,fun h=>(by cases h),h5,h6,h7,fun r hr=>denR_int (h8 r hr)⟩)
   ·by_cases hr:b.real
    ·exact(H.blk l b hg).mono (at_0 hne) (fun y hy=>at_0 (by
      rcases g0S hg with⟨_,rfl⟩|⟨_,rfl⟩|⟨_,rfl⟩
      ·simp[Blk.labs,labsL,SV.labs]at hy;omega
      ·cases hy
      ·cases hy)) (ZLe.refl _) fun p hp=>same _ ((H.blk l b hg).lt hr hp)
    ·exact(H.blk l b hg).unreal hr (at_0 hne)
  ·rcases goS h1 with⟨rfl,rfl⟩|⟨_,_,hm'⟩
   ·rcases goS h2 with⟨rfl,rfl⟩|⟨hg,hne2,_⟩
    ·exact absurd rfl hne
    ·rw[at_1]at e1
     rw[at_0 hne2]at e2
     have:=fresh _ e1
     have:=(H.blk l2 b2 hg).lt hr e2
     omega
   ·rw[hm']at hm;cases hm
  ·rcases goS hg with⟨rfl,rfl⟩|⟨hg,_,_⟩
   ·cases hy
   ·rcases g0S hg with⟨_,rfl⟩|⟨_,rfl⟩|⟨_,rfl⟩
    ·simp[Blk.labs,labsL,SV.labs]at hy
     rcases hy with rfl|rfl <;>(intro hn;cases hn)
    ·cases hy
    ·cases hy
  ·have h1:l≠1:=by rintro rfl;cases hl
   rw[at_0 h1]
   refine H.tight l ?_
   cases hg:hget (ctS.g0 q) l with
   |none=>rfl
   |some b=>
    exfalso
    rcases g0S hg with⟨rfl,_⟩|⟨rfl,_⟩|⟨rfl,_⟩ <;>cases hl
  ·rw[same b (zlt hz)];exact H.zok b o hz
  ·rcases goS hg with⟨rfl,rfl⟩|⟨_,_,hm'⟩
   ·rw[at_1]at hp;exact pz p hp
   ·rw[hm']at hm;cases hm
 ·refine⟨fun l b p hg hm hp=>?_,fun l b p hg hr hp=>?_,fun _ _ h=>h,fun _ h=>.inl h,fun b h=>h.elim .inr fun⟨l,blk,p,h1,h2,h3,h4⟩=>.inl ⟨l,blk,p,h1,Blk.real_of_mut h2,h3,h4⟩⟩
  ·rcases goS hg with⟨rfl,rfl⟩|⟨_,_,hm'⟩
   ·rw[at_1]at hp;exact .inr (fresh p hp)
   ·rw[hm']at hm;cases hm
  ·rcases goS hg with⟨rfl,rfl⟩|⟨hg,hne,_⟩
   ·rw[at_1]at hp;exact .inr (fresh p hp)
   ·rw[at_0 hne]at hp
    exact .inl (.inl ⟨l,b,p,hg,hr,hp,rfl⟩)
 ·have:l≠1:=by
   rintro rfl
   exact hl rfl
  exact at_0 this
theorem cs_good:Good Tryd.prog 33 ctS/\FnOk Tryd.prog 33:=⟨good_lend ctI_good.1,ctI_good.2⟩
end Go.Sym