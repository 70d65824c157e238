import Derived.Test.YtlldhkhmhgcpaaaGreatDoorR4
import Derived.Test.YtlldhkhmhgcpaaaGreatDoorXD
import Derived.Test.YtlldhkhmhgcpaaaGreatDoorP7
import Derived.Test.YtlldhkhmhgcpaaaGreatDoorS3
namespace Go.Sym
set_option linter.unusedVariables false
set_option linter.unusedSimpArgs false
open Go.Proofs
set_option maxRecDepth 100000
set_option maxHeartbeats 4000000
theorem qhas_good:Good Tryz.prog 70 qhasC/\FnOk Tryz.prog 70:=good_of tok conN0 (fn:=Tryz.f70) rfl (by decide+kernel) (fun _=>rfl) qhas_keeps
theorem sorted_ext:∀ {a b:List Int},a.Pairwise (· <·)->b.Pairwise (· <·)->(∀ x,x∈a↔x∈b)->a=b
 | [],b,_,_,h=>by
  cases b with
  |nil=>rfl
  |cons y b=>exact absurd ((h y).2 (by simp)) (by simp)
 |x::a,[],_,_,h=>absurd ((h x).1 (by simp)) (by simp)
 |x::a,y::b,ha,hb,h=>by
  rw[List.pairwise_cons]at ha hb
  have e:x=y:=by
   rcases List.mem_cons.1 ((h x).1 (by simp))with q|q
   ·exact q
   ·rcases List.mem_cons.1 ((h y).2 (by simp))with r|r
    ·exact r.symm
    ·have:=ha.1 y r;have:=hb.1 x q;omega
  subst e
  congr 1
  refine sorted_ext ha.2 hb.2 fun z=>?_
  constructor
  ·intro hz
   rcases List.mem_cons.1 ((h z).1 (by simp[hz]))with q|q
   ·subst q;exact absurd (ha.1 z hz) (by omega)
   ·exact q
  ·intro hz
   rcases List.mem_cons.1 ((h z).2 (by simp[hz]))with q|q
   ·subst q;exact absurd (hb.1 z hz) (by omega)
   ·exact q
theorem elemsZ_mem {ws:List Nat} {x:Int}:x∈elemsZ ws↔0<=x/\x<4096/\hasW ws x.toNat=true:=by
 unfold elemsZ
 rw[List.mem_map]
 constructor
 ·rintro⟨k,hk,rfl⟩
  have:=elemsW_mem.1 hk
  exact⟨by omega,by omega,by simpa using this.2⟩
 ·rintro⟨h1,h2,h3⟩
  exact⟨x.toNat,elemsW_mem.2 ⟨by omega,h3⟩,by omega⟩
theorem elemsZ_sorted (ws:List Nat):(elemsZ ws).Pairwise (· <·):=by
 unfold elemsZ
 rw[List.pairwise_map]
 exact(elemsW_sorted ws).imp (fun h=>by omega)
def insF (n:Int) (s:List Int × Bool) (x:Int):List Int × Bool:=if s.2=false/\n<x then(s.1++[n]++[x],true)else(s.1++[x],s.2)
def insAt (l:List Int) (n:Int) (k:Nat):List Int × Bool:=(l.take k).foldl (insF n) ([],false)
theorem insAt_succ {l:List Int} {n:Int} {k:Nat} (h:k<l.length):insAt l n (k+1)=insF n (insAt l n k) (l.getD k default):=by
 unfold insAt;rw[take_succ_getD (d:=default) h,List.foldl_append];rfl
def insL (l:List Int) (n:Int):List Int:=if(insAt l n l.length).2=false then(insAt l n l.length).1++[n]else(insAt l n l.length).1
theorem insAt_spec (l:List Int) (n:Int) (hs:l.Pairwise (· <·)) (hn:n∉l):∀ k,k<=l.length->
  ((insAt l n k).2=false/\(insAt l n k).1=l.take k/\∀ x∈l.take k,x<n)∨((insAt l n k).2=true/\(insAt l n k).1.Pairwise (· <·)/\(∀ x,x∈(insAt l n k).1↔x∈l.take k∨x=n)/\∃ y∈l.take k,n<y)
 |0,_=>.inl ⟨rfl,by simp[insAt],by simp⟩
 |k+1,h=>by
  have hk:k<l.length:=by omega
  rw[insAt_succ hk,take_succ_getD (d:=default) hk]
  have hx:l.getD k default∈l:=by rw[List.getD_eq_getElem?_getD,List.getElem?_eq_getElem hk];exact List.getElem_mem hk
  have hlt:∀ y∈l.take k,y<l.getD k default:=by
   intro y hy
   have hs2:(l.take k++[l.getD k default]).Pairwise (· <·):=by rw[<- take_succ_getD (d:=default) hk];exact hs.sublist (List.take_sublist _ _)
   exact(List.pairwise_append.1 hs2).2.2 y hy _ (by simp)
  rcases insAt_spec l n hs hn k (by omega)with⟨h1,h2,h3⟩|⟨h1,h2,h3,y,hy,hny⟩
  ·unfold insF
   by_cases hc:n<l.getD k default
   ·rw[if_pos ⟨h1,hc⟩,h2]
    right
    refine⟨rfl,?_,fun x=>?_,l.getD k default,by simp,hc⟩
    ·rw[List.pairwise_append,List.pairwise_append]
     refine⟨⟨hs.sublist (List.take_sublist _ _),by simp,fun a ha b hb=>?_⟩,by simp,fun a ha b hb=>?_⟩
     ·rw[List.mem_singleton]at hb;subst hb;exact h3 a ha
     ·rw[List.mem_singleton]at hb;subst hb
      rcases List.mem_append.1 ha with q|q
      ·exact hlt a q
      ·rw[List.mem_singleton]at q;subst q;exact hc
    ·simp only[List.mem_append,List.mem_singleton]
     constructor
     ·rintro((q|q)|q) <;>simp[q]
     ·rintro((q|q)|q) <;>simp[q]
   ·rw[if_neg (fun q=>hc q.2),h2]
    left
    refine⟨h1,rfl,fun x hx'=>?_⟩
    rcases List.mem_append.1 hx' with q|q
    ·exact h3 x q
    ·rw[List.mem_singleton]at q;subst q
     have:l.getD k default≠n:=fun e=>hn (e▸hx)
     omega
  ·unfold insF
   rw[if_neg (fun q=>by rw[h1]at q;cases q.1)]
   right
   have hny2:=hlt y hy
   refine⟨h1,?_,fun x=>?_,y,by simp[hy],hny⟩
   ·rw[List.pairwise_append]
    refine⟨h2,by simp,fun a ha b hb=>?_⟩
    rw[List.mem_singleton]at hb;subst hb
    rcases(h3 a).1 ha with q|q
    ·exact hlt a q
    ·subst q;omega
   ·simp only[List.mem_append,List.mem_singleton,h3 x]
    constructor
    ·rintro((q|q)|q) <;>simp[q]
    ·rintro((q|q)|q) <;>simp[q]
theorem insL_spec {l:List Int} {n:Int} (hs:l.Pairwise (· <·)) (hn:n∉l):(insL l n).Pairwise (· <·)/\∀ x,x∈insL l n↔x∈l∨x=n:=by
 unfold insL
 have h:=insAt_spec l n hs hn l.length (Nat.le_refl _)
 rw[List.take_length]at h
 rcases h with⟨h1,h2,h3⟩|⟨h1,h2,h3,_⟩
 ·rw[if_pos h1,h2]
  refine⟨?_,fun x=>by simp⟩
  rw[List.pairwise_append]
  exact⟨hs,by simp,fun a ha b hb=>by rw[List.mem_singleton]at hb;subst hb;exact h3 a ha⟩
 ·rw[if_neg (by rw[h1];decide)]
  exact⟨h2,h3⟩
theorem elemsZ_add {ws:List Nat} (h:WOk ws) {n:Int} (hn:0<=n/\n<4096) (hno:n∉elemsZ ws):elemsZ (addW ws n)=insL (elemsZ ws) n:=by
 obtain⟨h1,h2⟩:=insL_spec (elemsZ_sorted ws) hno
 refine sorted_ext (elemsZ_sorted _) h1 fun x=>?_
 rw[h2,elemsZ_mem,elemsZ_mem]
 constructor
 ·rintro⟨a,b,c⟩
  rw[hasW_add h hn]at c
  rcases Bool.or_eq_true _ _▸c with c|c
  ·exact .inl ⟨a,b,c⟩
  ·right;have:=of_decide_eq_true c;omega
 ·rintro(⟨a,b,c⟩|rfl)
  ·exact⟨a,b,by rw[hasW_add h hn,c];rfl⟩
  ·exact⟨hn.1,hn.2,by rw[hasW_add h hn];simp⟩
theorem elemsZ_same {ws:List Nat} (h:WOk ws) {n:Int} (hn:0<=n/\n<4096) (hin:n∈elemsZ ws):elemsZ (addW ws n)=elemsZ ws:=by
 refine sorted_ext (elemsZ_sorted _) (elemsZ_sorted _) fun x=>?_
 rw[elemsZ_mem,elemsZ_mem,hasW_add h hn]
 have:=(elemsZ_mem.1 hin).2.2
 constructor
 ·rintro⟨a,b,c⟩
  refine⟨a,b,?_⟩
  rcases Bool.or_eq_true _ _▸c with c|c
  ·exact c
  ·have:=of_decide_eq_true c;rw[this];assumption
 ·rintro⟨a,b,c⟩;exact⟨a,b,by rw[c];rfl⟩
def ofZ (l:List Int) (k:Nat):List Int:=elemsZ (ofW l k)
theorem ofZ_zero (l:List Int):ofZ l 0=[]:=by
 show elemsZ nilW=[]
 unfold elemsZ
 rw[nilW_elems];rfl
theorem ofZ_out {l:List Int} {k:Nat} (hk:k<l.length) (h:¬ (0<=l.getD k default/\l.getD k default<4096)):ofZ l (k+1)=ofZ l k:=by
 unfold ofZ;rw[ofW_succ hk];unfold addOk;rw[if_neg h]
theorem ofZ_in {l:List Int} {k:Nat} (hk:k<l.length) (h:0<=l.getD k default/\l.getD k default<4096) (hi:l.getD k default∈ofZ l k):ofZ l (k+1)=ofZ l k:=by
 unfold ofZ at *;rw[ofW_succ hk];unfold addOk;rw[if_pos h];exact elemsZ_same (ofW_ok l k) h hi
theorem ofZ_new {l:List Int} {k:Nat} (hk:k<l.length) (h:0<=l.getD k default/\l.getD k default<4096) (hi:l.getD k default∉ofZ l k):ofZ l (k+1)=insL (ofZ l k) (l.getD k default):=by
 unfold ofZ at *;rw[ofW_succ hk];unfold addOk;rw[if_pos h];exact elemsZ_add (ofW_ok l k) h hi
theorem ofZ_len (l:List Int) (k:Nat):(ofZ l k).length<=4096:=by unfold ofZ;rw[elemsZ_len];exact elemsW_len _
theorem insAt_len (l:List Int) (n:Int):∀ k,k<=l.length->(insAt l n k).1.length<=k+1/\((insAt l n k).2=false->(insAt l n k).1.length=k)
 |0,_=>by simp[insAt]
 |k+1,h=>by
  rw[insAt_succ (by omega)]
  have ih:=insAt_len l n k (by omega)
  unfold insF
  split
  ·rename_i q
   have:=ih.2 q.1
   simp[this]
  ·rename_i q
   constructor
   ·cases hb:(insAt l n k).2 with
    |false=>have:=ih.2 hb;simp[this]
    |true=>have:=ih.1;simp;omega
   ·intro hb;have:=ih.2 hb;simp[this]
def qofC:CT where
 X:=List Int
 pre:=fun l=>l.length<=1048576
 args:=fun l=>[.sl 100000 0 l.length]
 g0:=fun l=>[(100000,.rows .bor k1 l.length (encL encI l))]
 res:=fun l=>.sl 1 0 (ofZ l l.length).length
 g1:=fun l=>[(1,.rows .own k1 (ofZ l l.length).length (encL encI (ofZ l l.length)))]
def qofI (l:List Int) (id:Nat):Option Inv:=match id with
 | 0 => some { X := Nat, ok := fun k => k <= l.length, fr := fun k => [(12, .i .i64 k), (3, .sl 61 0 (ofZ l k).length)], hp := fun k => [(61, .rows .own k1 (ofZ l k).length (encL encI (ofZ l k)))], me := fun k => l.length - k,
               inn:=fun k id=>match id with
                | 2 => some { X := Nat, ok := fun j => j <= (ofZ l k).length, fr := fun j => [(29, .i .i64 j), (7, .b (insAt (ofZ l k) (l.getD k default) j).2), (6, .sl 62 0 (insAt (ofZ l k) (l.getD k default) j).1.length)],
                              hp:=fun j=>[(62,.rows .own k1 (insAt (ofZ l k) (l.getD k default) j).1.length (encL encI (insAt (ofZ l k) (l.getD k default) j).1))],me:=fun j=>(ofZ l k).length-j }
                |_=>none }
 |_=>none
def cfgOf2:Cfg:=⟨T,[],[(70,.one qhasC)],noInv,50,{}⟩
theorem conOf2:ConOk Tryz.prog cfgOf2:=ConL.ok (.cons (ConL.one qhas_good) .nil)
theorem insL_yes {l:List Int} {n:Int} {j:Nat} (hj:¬ (j:Int)<l.length) (hle:j<=l.length) (h:(insAt l n j).2=false):(insAt l n j).1++[n]=insL l n:=by
 have:j=l.length:=by omega
 subst this
 unfold insL;rw[if_pos h]
theorem insL_no {l:List Int} {n:Int} {j:Nat} (hj:¬ (j:Int)<l.length) (hle:j<=l.length) (h:(insAt l n j).2=true):(insAt l n j).1=insL l n:=by
 have:j=l.length:=by omega
 subst this
 unfold insL;rw[if_neg (by rw[h];decide)]
theorem pushL_rows {l:List Int} {c:Int}:RowsEq k1 (l++[c]).length (appRows l.length (encL encI l) 0 (litRows [[.i c]])) (encL encI (l++[c])):=
 rowsEq_push rfl (by simp) (by simp only[rowEq,Kd.eqv,k1];exact⟨rfl,trivial⟩)
theorem push2_rows {l:List Int} {c d:Int}:RowsEq k1 (l++[c]++[d]).length (appRows (l.length+1) (appRows l.length (encL encI l) 0 (litRows [[.i c]])) 0 (litRows [[.i d]])) (encL encI (l++[c]++[d])):=
 rowsEq_pushOf (xs:=l++[c]) push_rows (by simp) (by simp) (by simp only[rowEq,Kd.eqv,k1];exact⟨rfl,trivial⟩)
theorem ofZ_in2 {l:List Int} {k:Nat} (h:(k:Int)<l.length) (h1:¬ l.getD k default<0) (h2:¬ 4096<=l.getD k default) (hi:l.getD k default∈ofZ l k):ofZ l (k+1)=ofZ l k:=ofZ_in (by omega) (by omega) hi
theorem ofZ_lo {l:List Int} {k:Nat} (h:(k:Int)<l.length) (h1:l.getD k default<0):ofZ l (k+1)=ofZ l k:=ofZ_out (by omega) (by omega)
theorem ofZ_hi {l:List Int} {k:Nat} (h:(k:Int)<l.length) (h1:4096<=l.getD k default):ofZ l (k+1)=ofZ l k:=ofZ_out (by omega) (by omega)
theorem ofZ_app {l:List Int} {k j:Nat} (h:(k:Int)<l.length) (h1:¬ l.getD k default<0) (h2:¬ 4096<=l.getD k default) (hi:l.getD k default∉ofZ l k) (hj:¬ (j:Int)<(ofZ l k).length) (hle:j<=(ofZ l k).length)
  (hb:(!(insAt (ofZ l k) (l.getD k default) j).2)=true):ofZ l (k+1)=(insAt (ofZ l k) (l.getD k default) j).1++[l.getD k default]:=by
 rw[ofZ_new (by omega) (by omega) hi,insL_yes hj hle (by simpa using hb)]
theorem ofZ_ins {l:List Int} {k j:Nat} (h:(k:Int)<l.length) (h1:¬ l.getD k default<0) (h2:¬ 4096<=l.getD k default) (hi:l.getD k default∉ofZ l k) (hj:¬ (j:Int)<(ofZ l k).length) (hle:j<=(ofZ l k).length)
  (hb:(!(insAt (ofZ l k) (l.getD k default) j).2)=false):ofZ l (k+1)=(insAt (ofZ l k) (l.getD k default) j).1:=by
 rw[ofZ_new (by omega) (by omega) hi,insL_no hj hle (by simpa using hb)]
theorem ins_here {l:List Int} {n:Int} {k:Nat} (h:(k:Int)<l.length) (hb:(!(insAt l n k).2)=true) (hn:n<l.getD k default):insAt l n (k+1)=((insAt l n k).1++[n]++[l.getD k default],true):=by
 rw[insAt_succ (by omega)];unfold insF;rw[if_pos ⟨by simpa using hb,hn⟩]
theorem ins_go {l:List Int} {n:Int} {k:Nat} (h:(k:Int)<l.length) (hn:¬ n<l.getD k default):insAt l n (k+1)=((insAt l n k).1++[l.getD k default],(insAt l n k).2):=by
 rw[insAt_succ (by omega)];unfold insF;rw[if_neg (fun q=>hn q.2)]
theorem ins_done {l:List Int} {n:Int} {k:Nat} (h:(k:Int)<l.length) (hb:(!(insAt l n k).2)=false):insAt l n (k+1)=((insAt l n k).1++[l.getD k default],(insAt l n k).2):=by
 rw[insAt_succ (by omega)];unfold insF;rw[if_neg (fun q=>by rw[q.1]at hb;cases hb)]
theorem ins_len {l:List Int} {n:Int} {k c:Nat} (hk:k<=l.length) (hl:l.length<=c):(insAt l n k).1.length<=c+1:=by have:=(insAt_len l n k hk).1;omega
abbrev q55F0 (x1:List Int):Prop:=(((x1.length:Int)=(x1.length:Int))/\((0=0/\x1.length=x1.length)/\(True/\((0=0/\x1.length=x1.length)/\True))))
theorem q55f0 {x1:List Int}:q55F0 x1:=⟨rfl,⟨rfl,rfl⟩,trivial,⟨rfl,rfl⟩,trivial⟩
abbrev q55F1 (x1:List Int):Prop:=(((RLe x1.length x1.length)/\(RI x1.length x1 x1))/\True)
theorem q55f1 {x1:List Int}:q55F1 x1:=⟨⟨rl,rr⟩,trivial⟩
abbrev q55F2 (x1:List Int) (x4:Nat):Prop:=(0=0/\((ofZ x1 x4).length=(ofZ x1 x4).length))
theorem q55f2 {x1:List Int} {x4:Nat}:q55F2 x1 x4:=⟨rfl,rfl⟩
abbrev q55F3 (x1:List Int) (x4:Nat) (x9:LIX):Prop:=(((↑(ofZ x1 x4).length:Int)=(↑(ofZ x1 x4).length:Int))/\((q55F2 x1 x4)/\((decide (x9.n∈x9.l)=decide (x9.n∈x9.l))/\((decide (x9.n∈x9.l)=decide (x9.n∈x9.l))/\((x1.getD (0+Int.toNat (x4:Int)) default=x1.getD (0+Int.toNat (x4:Int)) default)/\((q55F2 x1 x4)/\((decide ((4096:Int)<=x1.getD (0+Int.toNat (x4:Int)) default)=decide ((4096:Int)<=x1.getD (0+Int.toNat (x4:Int)) default))/\((decide ((4096:Int)<=x1.getD (0+Int.toNat (x4:Int)) default)=decide ((4096:Int)<=x1.getD (0+Int.toNat (x4:Int)) default))/\((decide ((4096:Int)<=x1.getD (0+Int.toNat (x4:Int)) default)=decide ((4096:Int)<=x1.getD (0+Int.toNat (x4:Int)) default))/\((x1.getD (0+Int.toNat (x4:Int)) default=x1.getD (0+Int.toNat (x4:Int)) default)/\((decide (x1.getD (0+Int.toNat (x4:Int)) default<0)=decide (x1.getD (0+Int.toNat (x4:Int)) default<0))/\((decide (x1.getD (0+Int.toNat (x4:Int)) default<0)=decide (x1.getD (0+Int.toNat (x4:Int)) default<0))/\((x1.getD (0+Int.toNat (x4:Int)) default=x1.getD (0+Int.toNat (x4:Int)) default)/\((x1.getD (0+Int.toNat (x4:Int)) default=x1.getD (0+Int.toNat (x4:Int)) default)/\((x1.getD (0+Int.toNat (x4:Int)) default=x1.getD (0+Int.toNat (x4:Int)) default)/\(((0+Int.toNat (x4:Int)=0+Int.toNat (x4:Int))/\0=0)/\((decide ((x4:Int)<(x1.length:Int))=decide ((x4:Int)<(x1.length:Int)))/\(((x4:Int)=(x4:Int))/\((q55F2 x1 x4)/\(q55F0 x1))))))))))))))))))))
theorem q55f3 {x1:List Int} {x4:Nat} {x9:LIX}:q55F3 x1 x4 x9:=⟨rfl,q55f2,rfl,rfl,rfl,q55f2,rfl,rfl,rfl,rfl,rfl,rfl,rfl,rfl,rfl,⟨rfl,rfl⟩,rfl,rfl,q55f2,q55f0⟩
abbrev q55F4 (x1:List Int) (x4:Nat):Prop:=(((RLe (ofZ x1 x4).length (ofZ x1 x4).length)/\(RowsEq [.int .i64] (ofZ x1 x4).length (encL encI (ofZ x1 x4)) (encL encI (ofZ x1 x4))))/\(q55F1 x1))
theorem q55f4 {x1:List Int} {x4:Nat}:q55F4 x1 x4:=⟨⟨rl,rr⟩,q55f1⟩
set_option maxRecDepth 100000 in
theorem qof_keeps:Keeps cfgOf2 Tryz.f50 qofC qofI:=Eq.mp (show(∀ x1:List Int,((x1.length<=(1048576:Nat))->(∃ x3:Nat,(((x3<=x1.length)/\(((0=(x3:Int))/\((True/\(0=0/\((ofZ x1 x3).length=(0:Nat))))/\(q55F0 x1)))/\(((ofZ x1 x3).length=(0:Nat))/\(q55F1 x1))))/\(∀ x4:Nat,((x4<=x1.length)->(CB (decide ((x4:Int)<(x1.length:Int))) ((Ix (x4:Int) (x1.length:Int))/\((0+Int.toNat (x4:Int)<x1.length)/\(CN (decide (x1.getD (0+Int.toNat (x4:Int)) default<0)) (CN (decide ((4096:Int)<=x1.getD (0+Int.toNat (x4:Int)) default)) (∃ x9:LIX,((x9.l.length<=(1073741824:Nat))/\(((0=0/\((ofZ x1 x4).length=x9.l.length))/\((x1.getD (0+Int.toNat (x4:Int)) default=x9.n)/\True))/\(((RW [.int .i64] x9.l.length (ofZ x1 x4).length (encL encI (ofZ x1 x4)) (encL encI x9.l))/\True)/\(CB (decide (x9.n∈x9.l)) ((R6 ((x4:Int)+1))/\(∃ x11:Nat,((x1.length-x11<x1.length-x4)/\((x11<=x1.length)/\((((x4:Int)+1=(x11:Int))/\((0=0/\((ofZ x1 x4).length=(ofZ x1 x11).length))/\(q55F0 x1)))/\((RW [.int .i64] (ofZ x1 x11).length (ofZ x1 x4).length (encL encI (ofZ x1 x4)) (encL encI (ofZ x1 x11)))/\(q55F1 x1))))))) (∃ x13:Nat,(((x13<=(ofZ x1 x4).length)/\(((0=(x13:Int))/\((false=Prod.snd (insAt (ofZ x1 x4) (x1.getD x4 default) x13))/\((True/\(0=0/\((Prod.fst (insAt (ofZ x1 x4) (x1.getD x4 default) x13)).length=(0:Nat))))/\(q55F3 x1 x4 x9))))/\(((Prod.fst (insAt (ofZ x1 x4) (x1.getD x4 default) x13)).length=(0:Nat))/\(q55F4 x1 x4))))/\(∀ x14:Nat,((x14<=(ofZ x1 x4).length)->(CB (decide ((x14:Int)<(↑(ofZ x1 x4).length:Int))) ((Ix (x14:Int) (↑(ofZ x1 x4).length:Int))/\((0+Int.toNat (x14:Int)<(ofZ x1 x4).length)/\(CB (!Prod.snd (insAt (ofZ x1 x4) (x1.getD x4 default) x14)) (CB (decide (x1.getD (0+Int.toNat (x4:Int)) default<(ofZ x1 x4).getD (0+Int.toNat (x14:Int)) default)) (((True/\True)/\True)/\((0=0/\(((Prod.fst (insAt (ofZ x1 x4) (x1.getD x4 default) x14)).length<=(Prod.fst (insAt (ofZ x1 x4) (x1.getD x4 default) x14)).length)/\(((1:Nat)<=(1:Nat))/\((Prod.fst (insAt (ofZ x1 x4) (x1.getD x4 default) x14)).length+(1:Nat)<=(1073741824:Nat)))))/\(((True/\True)/\True)/\((0=0/\(((Prod.fst (insAt (ofZ x1 x4) (x1.getD x4 default) x14)).length+(1:Nat)<=(Prod.fst (insAt (ofZ x1 x4) (x1.getD x4 default) x14)).length+(1:Nat))/\(((1:Nat)<=(1:Nat))/\((Prod.fst (insAt (ofZ x1 x4) (x1.getD x4 default) x14)).length+(1:Nat)+(1:Nat)<=(1073741824:Nat)))))/\((R6 ((x14:Int)+1))/\(∃ x19:Nat,(((ofZ x1 x4).length-x19<(ofZ x1 x4).length-x14)/\((x19<=(ofZ x1 x4).length)/\((((x14:Int)+1=(x19:Int))/\((true=Prod.snd (insAt (ofZ x1 x4) (x1.getD x4 default) x19))/\((0=0/\((Prod.fst (insAt (ofZ x1 x4) (x1.getD x4 default) x14)).length+(1:Nat)+(1:Nat)=(Prod.fst (insAt (ofZ x1 x4) (x1.getD x4 default) x19)).length))/\(q55F3 x1 x4 x9))))/\((RW [.int .i64] (Prod.fst (insAt (ofZ x1 x4) (x1.getD x4 default) x19)).length ((Prod.fst (insAt (ofZ x1 x4) (x1.getD x4 default) x14)).length+(1:Nat)+(1:Nat)) (appRows ((Prod.fst (insAt (ofZ x1 x4) (x1.getD x4 default) x14)).length+(1:Nat)) (appRows (Prod.fst (insAt (ofZ x1 x4) (x1.getD x4 default) x14)).length (encL encI (Prod.fst (insAt (ofZ x1 x4) (x1.getD x4 default) x14))) 0 (litRows ((D.i (x1.getD (0+Int.toNat (x4:Int)) default)::@List.nil D)::@List.nil (List D)))) 0 (litRows ((D.i ((ofZ x1 x4).getD (0+Int.toNat (x14:Int)) default)::@List.nil D)::@List.nil (List D)))) (encL encI (Prod.fst (insAt (ofZ x1 x4) (x1.getD x4 default) x19))))/\(q55F4 x1 x4))))))))))) (((True/\True)/\True)/\((0=0/\(((Prod.fst (insAt (ofZ x1 x4) (x1.getD x4 default) x14)).length<=(Prod.fst (insAt (ofZ x1 x4) (x1.getD x4 default) x14)).length)/\(((1:Nat)<=(1:Nat))/\((Prod.fst (insAt (ofZ x1 x4) (x1.getD x4 default) x14)).length+(1:Nat)<=(1073741824:Nat)))))/\((R6 ((x14:Int)+1))/\(∃ x21:Nat,(((ofZ x1 x4).length-x21<(ofZ x1 x4).length-x14)/\((x21<=(ofZ x1 x4).length)/\((((x14:Int)+1=(x21:Int))/\((Prod.snd (insAt (ofZ x1 x4) (x1.getD x4 default) x14)=Prod.snd (insAt (ofZ x1 x4) (x1.getD x4 default) x21))/\((0=0/\((Prod.fst (insAt (ofZ x1 x4) (x1.getD x4 default) x14)).length+(1:Nat)=(Prod.fst (insAt (ofZ x1 x4) (x1.getD x4 default) x21)).length))/\(q55F3 x1 x4 x9))))/\((RW [.int .i64] (Prod.fst (insAt (ofZ x1 x4) (x1.getD x4 default) x21)).length ((Prod.fst (insAt (ofZ x1 x4) (x1.getD x4 default) x14)).length+(1:Nat)) (appRows (Prod.fst (insAt (ofZ x1 x4) (x1.getD x4 default) x14)).length (encL encI (Prod.fst (insAt (ofZ x1 x4) (x1.getD x4 default) x14))) 0 (litRows ((D.i ((ofZ x1 x4).getD (0+Int.toNat (x14:Int)) default)::@List.nil D)::@List.nil (List D)))) (encL encI (Prod.fst (insAt (ofZ x1 x4) (x1.getD x4 default) x21))))/\(q55F4 x1 x4)))))))))) (((True/\True)/\True)/\((0=0/\(((Prod.fst (insAt (ofZ x1 x4) (x1.getD x4 default) x14)).length<=(Prod.fst (insAt (ofZ x1 x4) (x1.getD x4 default) x14)).length)/\(((1:Nat)<=(1:Nat))/\((Prod.fst (insAt (ofZ x1 x4) (x1.getD x4 default) x14)).length+(1:Nat)<=(1073741824:Nat)))))/\((R6 ((x14:Int)+1))/\(∃ x23:Nat,(((ofZ x1 x4).length-x23<(ofZ x1 x4).length-x14)/\((x23<=(ofZ x1 x4).length)/\((((x14:Int)+1=(x23:Int))/\((Prod.snd (insAt (ofZ x1 x4) (x1.getD x4 default) x14)=Prod.snd (insAt (ofZ x1 x4) (x1.getD x4 default) x23))/\((0=0/\((Prod.fst (insAt (ofZ x1 x4) (x1.getD x4 default) x14)).length+(1:Nat)=(Prod.fst (insAt (ofZ x1 x4) (x1.getD x4 default) x23)).length))/\(q55F3 x1 x4 x9))))/\((RW [.int .i64] (Prod.fst (insAt (ofZ x1 x4) (x1.getD x4 default) x23)).length ((Prod.fst (insAt (ofZ x1 x4) (x1.getD x4 default) x14)).length+(1:Nat)) (appRows (Prod.fst (insAt (ofZ x1 x4) (x1.getD x4 default) x14)).length (encL encI (Prod.fst (insAt (ofZ x1 x4) (x1.getD x4 default) x14))) 0 (litRows ((D.i ((ofZ x1 x4).getD (0+Int.toNat (x14:Int)) default)::@List.nil D)::@List.nil (List D)))) (encL encI (Prod.fst (insAt (ofZ x1 x4) (x1.getD x4 default) x23))))/\(q55F4 x1 x4)))))))))))) (CB (!Prod.snd (insAt (ofZ x1 x4) (x1.getD x4 default) x14)) (((True/\True)/\True)/\((0=0/\(((Prod.fst (insAt (ofZ x1 x4) (x1.getD x4 default) x14)).length<=(Prod.fst (insAt (ofZ x1 x4) (x1.getD x4 default) x14)).length)/\(((1:Nat)<=(1:Nat))/\((Prod.fst (insAt (ofZ x1 x4) (x1.getD x4 default) x14)).length+(1:Nat)<=(1073741824:Nat)))))/\((R6 ((x4:Int)+1))/\(∃ x26:Nat,((x1.length-x26<x1.length-x4)/\((x26<=x1.length)/\((((x4:Int)+1=(x26:Int))/\((0=0/\((Prod.fst (insAt (ofZ x1 x4) (x1.getD x4 default) x14)).length+(1:Nat)=(ofZ x1 x26).length))/\(q55F0 x1)))/\((RW [.int .i64] (ofZ x1 x26).length ((Prod.fst (insAt (ofZ x1 x4) (x1.getD x4 default) x14)).length+(1:Nat)) (appRows (Prod.fst (insAt (ofZ x1 x4) (x1.getD x4 default) x14)).length (encL encI (Prod.fst (insAt (ofZ x1 x4) (x1.getD x4 default) x14))) 0 (litRows ((D.i (x1.getD (0+Int.toNat (x4:Int)) default)::@List.nil D)::@List.nil (List D)))) (encL encI (ofZ x1 x26)))/\(q55F1 x1))))))))) ((R6 ((x4:Int)+1))/\(∃ x28:Nat,((x1.length-x28<x1.length-x4)/\((x28<=x1.length)/\((((x4:Int)+1=(x28:Int))/\((0=0/\((Prod.fst (insAt (ofZ x1 x4) (x1.getD x4 default) x14)).length=(ofZ x1 x28).length))/\(q55F0 x1)))/\((RW [.int .i64] (ofZ x1 x28).length (Prod.fst (insAt (ofZ x1 x4) (x1.getD x4 default) x14)).length (encL encI (Prod.fst (insAt (ofZ x1 x4) (x1.getD x4 default) x14))) (encL encI (ofZ x1 x28)))/\(q55F1 x1)))))))))))))))))) ((R6 ((x4:Int)+1))/\(∃ x30:Nat,((x1.length-x30<x1.length-x4)/\((x30<=x1.length)/\((((x4:Int)+1=(x30:Int))/\((0=0/\((ofZ x1 x4).length=(ofZ x1 x30).length))/\(q55F0 x1)))/\((RW [.int .i64] (ofZ x1 x30).length (ofZ x1 x4).length (encL encI (ofZ x1 x4)) (encL encI (ofZ x1 x30)))/\(q55F1 x1)))))))) ((R6 ((x4:Int)+1))/\(∃ x32:Nat,((x1.length-x32<x1.length-x4)/\((x32<=x1.length)/\((((x4:Int)+1=(x32:Int))/\((0=0/\((ofZ x1 x4).length=(ofZ x1 x32).length))/\(q55F0 x1)))/\((RW [.int .i64] (ofZ x1 x32).length (ofZ x1 x4).length (encL encI (ofZ x1 x4)) (encL encI (ofZ x1 x32)))/\(q55F1 x1)))))))))) ((0=0/\((ofZ x1 x4).length=(ofZ x1 x1.length).length))/\((RW [.int .i64] (ofZ x1 x1.length).length (ofZ x1 x4).length (encL encI (ofZ x1 x4)) (encL encI (ofZ x1 x1.length)))/\True)))))))))=(Keeps cfgOf2 Tryz.f50 qofC qofI) by kernel_rfl) (fun x1=>fun h2=>⟨((0:Nat)),⟨(by omega),⟨(by omega),⟨trivial,rfl,(by rw[ofZ_zero];rfl)⟩,q55f0⟩,(by rw[ofZ_zero];rfl),q55f1⟩,fun x4=>fun h5=>⟨fun g6=>have h6:=dT g6;⟨⟨(by omega),(by omega)⟩,(by omega),fun g7=>have h7:=dF g7;⟨fun g8=>have h8:=dF g8;⟨({ l:=ofZ x1 x4,n:=List.getD x1 ((0:Nat)+Int.toNat (↑x4:Int)) default:LIX }),(by have:=ofZ_len x1 x4;first|(show(ofZ x1 x4).length<=_;omega)|omega),⟨⟨rfl,rfl⟩,rfl,trivial⟩,⟨⟨rl,rr⟩,trivial⟩,fun g10=>have h10:=dT g10;⟨⟨(by omega),(by omega)⟩,(x4+(1:Nat)),(by omega),(by omega),⟨(by omega),⟨rfl,(by simp only[nat0]at *;have e:=ofZ_in2 ‹_› ‹_› ‹_› ‹_›;(rw[e];done))⟩,q55f0⟩,⟨⟨(by simp only[nat0]at *;have e:=ofZ_in2 ‹_› ‹_› ‹_› ‹_›;(simp only[e,List.length_append,List.length_singleton];omega))⟩,(by simp only[nat0]at *;have e:=ofZ_in2 ‹_› ‹_› ‹_› ‹_›;(rw[e];exact rr))⟩,q55f1⟩,fun g12=>have h12:=dF g12;⟨((0:Nat)),⟨(by omega),⟨(by omega),rfl,⟨trivial,rfl,rfl⟩,q55f3⟩,rfl,q55f4⟩,fun x14=>fun h15=>⟨fun g16=>have h16:=dT g16;⟨⟨(by omega),(by omega)⟩,(by omega),fun h17=>⟨fun g18=>have h18:=dT g18;⟨⟨⟨trivial,trivial⟩,trivial⟩,⟨rfl,(by omega),(by omega),(by have:=ofZ_len x1 x4;have:=ins_len (n:=x1.getD x4 default) h15 this;omega)⟩,⟨⟨trivial,trivial⟩,trivial⟩,⟨rfl,(by omega),(by omega),(by have:=ofZ_len x1 x4;have:=ins_len (n:=x1.getD x4 default) h15 this;omega)⟩,⟨(by omega),(by have:=ofZ_len x1 x4;first|(show(ofZ x1 x4).length<=_;omega)|omega)⟩,(x14+(1:Nat)),(by omega),(by omega),⟨(by omega),(by simp only[nat0]at *;have e:=ins_here ‹_› ‹_› ‹_›;(rw[e];done)),⟨rfl,(by simp only[nat0]at *;have e:=ins_here ‹_› ‹_› ‹_›;(simp only[e,List.length_append,List.length_singleton];done))⟩,q55f3⟩,⟨⟨(by simp only[nat0]at *;have e:=ins_here ‹_› ‹_› ‹_›;(simp only[e,List.length_append,List.length_singleton];omega))⟩,(by simp only[nat0]at *;have e:=ins_here ‹_› ‹_› ‹_›;(rw[e];exact push2_rows))⟩,q55f4⟩,fun g20=>have h20:=dF g20;⟨⟨⟨trivial,trivial⟩,trivial⟩,⟨rfl,(by omega),(by omega),(by have:=ofZ_len x1 x4;have:=ins_len (n:=x1.getD x4 default) h15 this;omega)⟩,⟨(by omega),(by have:=ofZ_len x1 x4;first|(show(ofZ x1 x4).length<=_;omega)|omega)⟩,(x14+(1:Nat)),(by omega),(by omega),⟨(by omega),(by simp only[nat0]at *;have e:=ins_go ‹_› ‹_›;(rw[e];done)),⟨rfl,(by simp only[nat0]at *;have e:=ins_go ‹_› ‹_›;(simp only[e,List.length_append,List.length_singleton];done))⟩,q55f3⟩,⟨⟨(by simp only[nat0]at *;have e:=ins_go ‹_› ‹_›;(simp only[e,List.length_append,List.length_singleton];omega))⟩,(by simp only[nat0]at *;have e:=ins_go ‹_› ‹_›;(rw[e];exact pushL_rows))⟩,q55f4⟩⟩,fun h22=>⟨⟨⟨trivial,trivial⟩,trivial⟩,⟨rfl,(by omega),(by omega),(by have:=ofZ_len x1 x4;have:=ins_len (n:=x1.getD x4 default) h15 this;omega)⟩,⟨(by omega),(by have:=ofZ_len x1 x4;first|(show(ofZ x1 x4).length<=_;omega)|omega)⟩,(x14+(1:Nat)),(by omega),(by omega),⟨(by omega),(by rw[(ins_done ‹_› ‹_›)]),⟨rfl,(by simp only[nat0]at *;have e:=ins_done ‹_› ‹_›;(simp only[e,List.length_append,List.length_singleton];done))⟩,q55f3⟩,⟨⟨(by simp only[nat0]at *;have e:=ins_done ‹_› ‹_›;(simp only[e,List.length_append,List.length_singleton];omega))⟩,(by simp only[nat0]at *;have e:=ins_done ‹_› ‹_›;(rw[e];exact pushL_rows))⟩,q55f4⟩⟩,fun g24=>have h24:=dF g24;⟨fun h25=>⟨⟨⟨trivial,trivial⟩,trivial⟩,⟨rfl,(by omega),(by omega),(by have:=ofZ_len x1 x4;have:=ins_len (n:=x1.getD x4 default) h15 this;omega)⟩,⟨(by omega),(by omega)⟩,(x4+(1:Nat)),(by omega),(by omega),⟨(by omega),⟨rfl,(by simp only[nat0]at *;have e:=ofZ_app ‹_› ‹_› ‹_› ‹_› ‹_› ‹_› ‹_›;(simp only[e,List.length_append,List.length_singleton];done))⟩,q55f0⟩,⟨⟨(by simp only[nat0]at *;have e:=ofZ_app ‹_› ‹_› ‹_› ‹_› ‹_› ‹_› ‹_›;(simp only[e,List.length_append,List.length_singleton];omega))⟩,(by simp only[nat0]at *;have e:=ofZ_app ‹_› ‹_› ‹_› ‹_› ‹_› ‹_› ‹_›;(rw[e];exact pushL_rows))⟩,q55f1⟩,fun h27=>⟨⟨(by omega),(by omega)⟩,(x4+(1:Nat)),(by omega),(by omega),⟨(by omega),⟨rfl,(by simp only[nat0]at *;have e:=ofZ_ins ‹_› ‹_› ‹_› ‹_› ‹_› ‹_› ‹_›;(rw[e];done))⟩,q55f0⟩,⟨⟨(by simp only[nat0]at *;have e:=ofZ_ins ‹_› ‹_› ‹_› ‹_› ‹_› ‹_› ‹_›;(simp only[e,List.length_append,List.length_singleton];omega))⟩,(by simp only[nat0]at *;have e:=ofZ_ins ‹_› ‹_› ‹_› ‹_› ‹_› ‹_› ‹_›;(rw[e];exact rr))⟩,q55f1⟩⟩⟩⟩⟩,fun g29=>have h29:=dT g29;⟨⟨(by omega),(by omega)⟩,(x4+(1:Nat)),(by omega),(by omega),⟨(by omega),⟨rfl,(by simp only[nat0]at *;have e:=ofZ_hi ‹_› ‹_›;(rw[e];done))⟩,q55f0⟩,⟨⟨(by simp only[nat0]at *;have e:=ofZ_hi ‹_› ‹_›;(simp only[e,List.length_append,List.length_singleton];omega))⟩,(by simp only[nat0]at *;have e:=ofZ_hi ‹_› ‹_›;(rw[e];exact rr))⟩,q55f1⟩⟩,fun g31=>have h31:=dT g31;⟨⟨(by omega),(by omega)⟩,(x4+(1:Nat)),(by omega),(by omega),⟨(by omega),⟨rfl,(by simp only[nat0]at *;have e:=ofZ_lo ‹_› ‹_›;(rw[e];done))⟩,q55f0⟩,⟨⟨(by simp only[nat0]at *;have e:=ofZ_lo ‹_› ‹_›;(simp only[e,List.length_append,List.length_singleton];omega))⟩,(by simp only[nat0]at *;have e:=ofZ_lo ‹_› ‹_›;(rw[e];exact rr))⟩,q55f1⟩⟩,fun g33=>have h33:=dF g33;⟨⟨rfl,(by grind)⟩,⟨⟨(by grind)⟩,(by have e:x4=x1.length:=(by omega);subst e;exact rr)⟩,trivial⟩⟩⟩)
theorem qof_good:Good Tryz.prog 50 qofC/\FnOk Tryz.prog 50:=good_of tok conOf2 (fn:=Tryz.f50) rfl (by decide+kernel) (fun _=>rfl) qof_keeps
end Go.Sym
namespace Go.Sym
set_option linter.unusedVariables false
set_option linter.unusedSimpArgs false
open Go.Proofs
set_option maxRecDepth 100000
theorem filter_yes {α:Type} {d:α} {p:α->Bool} {l:List α} {k:Nat} (hk:k<l.length) (h:p (l.getD k d)=true):(l.take (k+1)).filter p=(l.take k).filter p++[l.getD k d]:=by
 rw[take_succ_getD (d:=d) hk,List.filter_append,List.filter_cons,if_pos h,List.filter_nil]
theorem filter_no {α:Type} {d:α} {p:α->Bool} {l:List α} {k:Nat} (hk:k<l.length) (h:¬ p (l.getD k d)=true):(l.take (k+1)).filter p=(l.take k).filter p:=by
 rw[take_succ_getD (d:=d) hk,List.filter_append,List.filter_cons,if_neg h,List.filter_nil,List.append_nil]
theorem filter_len {α:Type} {p:α->Bool} {l:List α} {k c:Nat} (h:l.length<=c):((l.take k).filter p).length<=c:=by
 have:=List.length_filter_le p (l.take k)
 have h2:(l.take k).length<=l.length:=by rw[List.length_take];omega
 omega
theorem pushR_rows {l:List Int} {c:Int}:RowsEq k1 (l++[c]).length (appRows l.length (encL encI l) 0 (litRows [[.i c]])) (encL encI (l++[c])):=
 rowsEq_push rfl (by simp) (by simp only[rowEq,Kd.eqv,k1];exact⟨rfl,trivial⟩)
def freeAt (us:List Un) (k:Nat):List Int:=((us.take k).filter fun u=>decide (u.st=1)).map fun u=>u.nd
def freeL (us:List Un):List Int:=(us.filter fun u=>decide (u.st=1)).map fun u=>u.nd
theorem free_yes {us:List Un} {k:Nat} (hk:(k:Int)<us.length) (h:(us.getD k default).st=1):freeAt us (k+1)=freeAt us k++[(us.getD k default).nd]:=by
 unfold freeAt;rw[filter_yes (d:=default) (p:=fun u:Un=>decide (u.st=1)) (l:=us) (k:=k) (by omega) (decide_eq_true h),List.map_append];rfl
theorem free_no {us:List Un} {k:Nat} (hk:(k:Int)<us.length) (h:¬ (us.getD k default).st=1):freeAt us (k+1)=freeAt us k:=by
 unfold freeAt;rw[filter_no (d:=default) (p:=fun u:Un=>decide (u.st=1)) (l:=us) (k:=k) (by omega) (by rw[decide_eq_false h];decide)]
theorem free_end {us:List Un} {k:Nat} (hle:k<=us.length) (hk:¬ (k:Int)<us.length):freeAt us k=freeL us:=by unfold freeAt freeL;rw[List.take_of_length_le (by omega)]
theorem freeAt_len {us:List Un} {k c:Nat} (h:us.length<=c):(freeAt us k).length<=c:=by unfold freeAt;rw[List.length_map];exact filter_len h
theorem freeL_len (us:List Un):(freeL us).length<=us.length:=by unfold freeL;rw[List.length_map];exact List.length_filter_le _ _
def worstS (D:List Int) (s:Int × Int) (v:Int):Int × Int:=if s.2<0∨s.1<D.getD v.toNat default then(D.getD v.toNat default,v)else s
def worstAt (D l:List Int) (k:Nat):Int × Int:=(l.take k).foldl (worstS D) (0,-1)
def worstF (D l:List Int):Int × Int:=l.foldl (worstS D) (0,-1)
theorem worstAt_succ {D l:List Int} {k:Nat} (h:k<l.length):worstAt D l (k+1)=worstS D (worstAt D l k) (l.getD k default):=by
 unfold worstAt;rw[take_succ_getD (d:=default) h,List.foldl_append];rfl
theorem worst_neg {D l:List Int} {k:Nat} (h:(k:Int)<l.length) (h2:(worstAt D l k).2<0):worstAt D l (k+1)=(D.getD (l.getD k default).toNat default,l.getD k default):=by
 rw[worstAt_succ (by omega)];exact if_pos (.inl h2)
theorem worst_up {D l:List Int} {k:Nat} (h:(k:Int)<l.length) (h2:(worstAt D l k).1<D.getD (l.getD k default).toNat default):worstAt D l (k+1)=(D.getD (l.getD k default).toNat default,l.getD k default):=by
 rw[worstAt_succ (by omega)];exact if_pos (.inr h2)
theorem worst_no {D l:List Int} {k:Nat} (h:(k:Int)<l.length) (h1:¬ (worstAt D l k).2<0) (h2:¬ (worstAt D l k).1<D.getD (l.getD k default).toNat default):worstAt D l (k+1)=worstAt D l k:=by
 rw[worstAt_succ (by omega)];exact if_neg (fun q=>q.elim h1 h2)
theorem worst_end {D l:List Int} {k:Nat} (hle:k<=l.length) (h:¬ (k:Int)<l.length):worstAt D l k=worstF D l:=by unfold worstAt worstF;rw[List.take_of_length_le (by omega)]
structure UX where
 g:Gr
 ts:List Int
 us:List Un
 of:List Int
structure UXok (x:UX):Prop where
 g:GOk x.g
 n:x.g.n<=12
 us:x.us.length<=1048576
 of:x.of.length<=1048576
theorem UXok.f {x:UX} (h:UXok x):FXok ⟨x.g,x.ts,freeL x.us⟩:=⟨h.g,h.n,Nat.le_trans (freeL_len _) h.us⟩
end Go.Sym