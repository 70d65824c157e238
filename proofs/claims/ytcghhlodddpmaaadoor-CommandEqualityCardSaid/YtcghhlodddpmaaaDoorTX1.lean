import Derived.Test.YtcghhlodddpmaaaDoorV12a
import Derived.Test.YtcghhlodddpmaaaDoorQ6
import Derived.Lib.ItoaLen
namespace Go.Sym
set_option linter.unusedVariables false
set_option linter.unusedSimpArgs false
open Go.Proofs
set_option maxRecDepth 100000
theorem ba_size (a b:ByteArray):(a++b).size=a.size+b.size:=by simp
theorem joi_one (x s:ByteArray):joiS [x] s=x:=by
 unfold joiS Lib.join
 simp[List.intercalate]
theorem joi_two (x y:ByteArray) (l:List ByteArray) (s:ByteArray):joiS (x::y::l) s=x++s++joiS (y::l) s:=by
 unfold joiS Lib.join
 apply ByteArray.ext
 simp[List.intercalate]
theorem joi_size {b:Nat} (s:ByteArray):∀(xs:List ByteArray),(∀ x∈xs,x.size<=b)->(joiS xs s).size<=xs.length*(b+s.size)
 | [],_=>Nat.zero_le _
 | [x],h=>by
  rw[joi_one,List.length_singleton]
  have:=h x (by simp)
  omega
 |x::y::l,h=>by
  have h1:=joi_size s (y::l) (fun z hz=>h z (List.mem_cons_of_mem _ hz))
  have h2:=h x (by simp)
  rw[joi_two,ba_size,ba_size,List.length_cons,Nat.succ_mul]
  omega
def nevS:ByteArray:=⟨#[110,101,118,101,114]⟩
theorem ito_size {n:Int} (h:r64 n):(itoS n).size<=21:=by
 have:=Lib.itoa_length_le n h.1 h.2
 unfold itoS
 simpa[ByteArray.size]using this
structure RS where
 R:List (Int × Int)
 f:Int
 l:Int
def rs0:RS:=⟨[],-1,-1⟩
def rsS (s:RS) (n:Int):RS:=if s.f<0∨s.l+1<n then⟨if 0<=s.f then s.R++[(s.f,s.l)]else s.R,n,n⟩else⟨s.R,s.f,n⟩
def rsF (s:RS):List (Int × Int):=if 0<=s.f then s.R++[(s.f,s.l)]else s.R
def rsA (l:List Int) (k:Nat):RS:=(l.take k).foldl rsS rs0
def runsL (l:List Int):List (Int × Int):=rsF (l.foldl rsS rs0)
def runT (p:Int × Int):ByteArray:=if p.1=p.2 then itoS p.1 else itoS p.1++⟨#[45]⟩++itoS p.2
def strW (ws:List Nat):ByteArray:=joiS ((runsL (elemsZ ws)).map runT) ⟨#[44]⟩
def setS (l:List Int):ByteArray:=joiS ((runsL l).map runT) ⟨#[44]⟩
theorem rsA_s {l:List Int} {k:Nat} (h:k<l.length):rsA l (k+1)=rsS (rsA l k) (l.getD k default):=by
 unfold rsA
 rw[take_succ_getD (d:=default) h,List.foldl_append]
 rfl
theorem rsA_t (l:List Int):rsF (rsA l l.length)=runsL l:=by
 unfold rsA runsL
 rw[List.take_length]
theorem rsS_r {s:RS} {n:Int} (hn:0<=n/\n<4096) (h:(s.f= -1/\s.l= -1)∨(0<=s.f/\s.f<4096/\0<=s.l/\s.l<4096)) (hR:∀ p∈s.R,(0<=p.1/\p.1<4096)/\(0<=p.2/\p.2<4096)) (k:Nat) (hk:s.R.length<=k):
  (0<=(rsS s n).f/\(rsS s n).f<4096/\0<=(rsS s n).l/\(rsS s n).l<4096)/\(∀ p∈(rsS s n).R,(0<=p.1/\p.1<4096)/\(0<=p.2/\p.2<4096))/\(rsS s n).R.length<=k+1:=by
 unfold rsS
 split
 ·refine⟨⟨hn.1,hn.2,hn.1,hn.2⟩,?_,?_⟩
  ·show ∀ p∈(if 0<=s.f then s.R++[(s.f,s.l)]else s.R),_
   split
   ·intro p hp
    rcases List.mem_append.1 hp with hp|hp
    ·exact hR p hp
    ·simp only[List.mem_singleton]at hp
     subst hp
     simp only
     omega
   ·exact hR
  ·show(if 0<=s.f then s.R++[(s.f,s.l)]else s.R).length<=_
   split
   ·rw[List.length_append,List.length_singleton];omega
   ·omega
 ·rename_i h1
  refine⟨⟨by show 0<=s.f;omega,by show s.f<4096;omega,hn.1,hn.2⟩,hR,by show s.R.length<=_;omega⟩
structure RsOk (s:RS) (k:Nat):Prop where
 b:(k=0/\s.f= -1/\s.l= -1)∨(0<k/\0<=s.f/\s.f<4096/\0<=s.l/\s.l<4096)
 r:∀ p∈s.R,(0<=p.1/\p.1<4096)/\(0<=p.2/\p.2<4096)
 n:s.R.length<=k
theorem rsA_ok {l:List Int} (hl:∀ n∈l,0<=n/\n<4096):∀(k:Nat),k<=l.length->RsOk (rsA l k) k
 |0,_=>⟨.inl ⟨rfl,rfl,rfl⟩,fun p hp=>(by cases hp),Nat.le_refl _⟩
 |k+1,h=>by
  have ih:=rsA_ok hl k (by omega)
  have hn:0<=l.getD k default/\l.getD k default<4096:=by
   rw[List.getD_eq_getElem?_getD,List.getElem?_eq_getElem (show k<l.length by omega)]
   exact hl _ (List.getElem_mem _)
  rw[rsA_s (by omega)]
  have:=rsS_r hn (by have:=ih.b;omega) ih.r k ih.n
  exact⟨.inr ⟨by omega,this.1⟩,this.2.1,this.2.2⟩
theorem runT_size {p:Int × Int} (h:(0<=p.1/\p.1<4096)/\(0<=p.2/\p.2<4096)):(runT p).size<=43:=by
 have h1:=ito_size (n:=p.1) (by unfold r64;omega)
 have h2:=ito_size (n:=p.2) (by unfold r64;omega)
 unfold runT
 split
 ·omega
 ·rw[ba_size,ba_size]
  have:(⟨#[45]⟩:ByteArray).size=1:=rfl
  omega
theorem runsL_ok {l:List Int} (hl:∀ n∈l,0<=n/\n<4096):(∀ p∈runsL l,(0<=p.1/\p.1<4096)/\(0<=p.2/\p.2<4096))/\(runsL l).length<=l.length+1:=by
 have h:=rsA_ok hl l.length (Nat.le_refl _)
 rw[<- rsA_t]
 unfold rsF
 split
 ·refine⟨fun p hp=>?_,?_⟩
  ·rcases List.mem_append.1 hp with hp|hp
   ·exact h.r p hp
   ·simp only[List.mem_singleton]at hp
    subst hp
    have:=h.b
    simp only
    omega
  ·rw[List.length_append,List.length_singleton]
   have:=h.n
   omega
 ·exact⟨h.r,by have:=h.n;omega⟩
theorem setS_size {l:List Int} (hl:∀ n∈l,0<=n/\n<4096) (hn:l.length<=60):(setS l).size<=2684:=by
 obtain⟨h1,h2⟩:=runsL_ok hl
 have:=joi_size (b:=43) ⟨#[44]⟩ ((runsL l).map runT) (fun x hx=>by
  obtain⟨p,hp,rfl⟩:=List.mem_map.1 hx
  exact runT_size (h1 p hp))
 rw[List.length_map]at this
 have e:(⟨#[44]⟩:ByteArray).size=1:=rfl
 rw[e]at this
 unfold setS
 have:(runsL l).length*(43+1)<=61*44:=Nat.mul_le_mul (by omega) (by omega)
 omega
theorem setS_of {l:List Int} (hs:l.Pairwise (· <·)) (hl:∀ n∈l,0<=n/\n<4096):strW (ofW l l.length)=setS l:=by
 unfold strW setS
 rw[ofW_sorted hs hl]
end Go.Sym