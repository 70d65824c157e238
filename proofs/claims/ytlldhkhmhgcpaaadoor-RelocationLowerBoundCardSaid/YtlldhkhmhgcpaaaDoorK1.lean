import Derived.Test.YtlldhkhmhgcpaaaDoorR5
import Derived.Test.YtlldhkhmhgcpaaaDoorI2
import Derived.Test.YtlldhkhmhgcpaaaDoorXD
namespace Go.Sym
set_option linter.unusedVariables false
set_option linter.unusedSimpArgs false
open Go.Proofs
set_option maxRecDepth 100000
set_option maxHeartbeats 4000000
theorem hasW_all:∀(k:Nat),k<=4096->∀ i,hasW (allW k) i=decide (i<k)
 |0,_,i=>by show hasW nilW i=_;rw[hasW_nil];simp
 |k+1,h,i=>by
  rw[allW_succ,hasW_add (allW_ok k) (by omega),hasW_all k (by omega)]
  by_cases h1:i<k
  ·simp[h1];omega
  ·by_cases h2:i=k
   ·simp[h2]
   ·have:¬ i<k+1:=by omega
    simp[h1,h2,this]
def nodesW (n:Nat) (ws:List Nat):List Int:=(elemsZ ws).filter fun x=>decide (x<n)
theorem elems_both {ws:List Nat} (h:WOk ws) {n:Nat} (hn:n<=4096):elemsZ (bothW ws (allW n))=nodesW n ws:=by
 unfold nodesW
 refine sorted_ext (elemsZ_sorted _) ((elemsZ_sorted _).filter _) fun x=>?_
 rw[elemsZ_mem,List.mem_filter,elemsZ_mem,hasW_both h,hasW_all n hn]
 constructor
 ·rintro⟨a,b,c⟩
  rw[Bool.and_eq_true]at c
  have:=of_decide_eq_true c.2
  exact⟨⟨a,b,c.1⟩,decide_eq_true (by omega)⟩
 ·rintro⟨⟨a,b,c⟩,d⟩
  have:=of_decide_eq_true d
  exact⟨a,b,by rw[Bool.and_eq_true];exact⟨c,decide_eq_true (by omega)⟩⟩
theorem bothW_ok {a b:List Nat} (ha:WOk a) (hb:WOk b):WOk (bothW a b):=bothAt_ok ha hb 64
theorem nodesW_at {n:Nat} {ws:List Nat} {k:Nat} (hk:k<(nodesW n ws).length):0<=(nodesW n ws).getD k default/\(nodesW n ws).getD k default<n:=by
 have h:(nodesW n ws).getD k default∈nodesW n ws:=by rw[List.getD_eq_getElem?_getD,List.getElem?_eq_getElem hk];exact List.getElem_mem hk
 generalize(nodesW n ws).getD k default=v at h
 unfold nodesW at h
 rw[List.mem_filter]at h
 exact⟨(elemsZ_mem.1 h.1).1,of_decide_eq_true h.2⟩
theorem nodesW_len (n:Nat) (ws:List Nat):(nodesW n ws).length<=4096:=by
 have:=List.length_filter_le (fun x:Int=>decide (x<n)) (elemsZ ws);have:=elemsW_len ws;unfold nodesW;rw[elemsZ_len]at *;omega
structure GWX where
 g:Gr
 ws:List Nat
structure GWok (x:GWX):Prop where
 n:x.g.n<=4096
 w:WOk x.ws
def nodesOfC:CT where
 X:=GWX
 pre:=GWok
 args:=fun x=>[.p 100000 0 0,setV x.ws 100001]
 g0:=fun x=>graphH x.g 100000++setH x.ws .bor 100001
 res:=fun x=>.sl 1 0 (nodesW x.g.n x.ws).length
 g1:=fun x=>[(1,.rows .own k1 (nodesW x.g.n x.ws).length (encL encI (nodesW x.g.n x.ws)))]
def cfgKn:Cfg:=⟨T,[],[(31,.one nodesC),(17,.one allNC),(30,.one bothC),(32,.one listC)],noInv,30,{}⟩
theorem conKn:ConOk Tryd.prog cfgKn:=ConL.ok (.cons (ConL.one nodes_good) (.cons (ConL.one all_good) (.cons (ConL.one both_good) (.cons (ConL.one list_good) .nil))))
theorem minN {n:Nat} (h:n<=4096):(min (n:Int) 4096).toNat=n:=by omega
theorem elems_min {ws:List Nat} (h:WOk ws) {n:Nat} (hn:n<=4096):elemsZ (bothW ws (allW (min (n:Int) 4096).toNat))=nodesW n ws:=by rw[minN hn];exact elems_both h hn
set_option maxRecDepth 100000 in
theorem nodesOf_keeps:Keeps cfgKn Tryd.f36 nodesOfC noIv:=Eq.mp (show((∀ x1:GWX,((GWok x1)->(∃ x3:Gr,(True/\(((0=0/\0=0)/\True)/\(((RLe 1 1/\(RowsEq [.sl [.int .i64,.int .i64,.int .i64],.sl [.sl [.int .i64]],.sl [.sl [.int .i64]]] 1 (encG x1.g) (encG x3)))/\True)/\(∃ x4:Int,(((0:Int)<=x4)/\((((x3.n:Int)=x4)/\True)/\(True/\(∃ x5:TwoX,(((WOk x5.a)/\(WOk x5.b))/\((((szW x1.ws=szW x5.a)/\True)/\(((szW (allW (Int.toNat (min x4 (4096:Int))))=szW x5.b)/\True)/\True))/\((((RLe (szW x5.a) (szW x1.ws))/\(RowsEq [.int .u64] (szW x5.a) (encL encW x1.ws) (encL encW x5.a)))/\(((RLe (szW x5.b) (szW (allW (Int.toNat (min x4 (4096:Int))))))/\(RowsEq [.int .u64] (szW x5.b) (encL encW (allW (Int.toNat (min x4 (4096:Int))))) (encL encW x5.b)))/\True))/\(∃ x6:List Nat,((WOk x6)/\((((szW (bothW x5.a x5.b)=szW x6)/\True)/\True)/\((((RLe (szW x6) (szW (bothW x5.a x5.b)))/\(RowsEq [.int .u64] (szW x6) (encL encW (bothW x5.a x5.b)) (encL encW x6)))/\True)/\((0=0/\((elemsW x6).length=(nodesW x1.g.n x1.ws).length))/\(((RLe (nodesW x1.g.n x1.ws).length (elemsW x6).length)/\(RowsEq [.int .i64] (nodesW x1.g.n x1.ws).length (encL encI (elemsZ x6)) (encL encI (nodesW x1.g.n x1.ws))))/\True)))))))))))))))))))))=(Keeps cfgKn Tryd.f36 nodesOfC noIv) by kernel_rfl) (fun x1=>fun h2=>⟨(GWX.g x1),trivial,
⟨⟨rfl,rfl⟩,trivial⟩,
⟨⟨rl,rr⟩,trivial⟩,
((↑(Gr.n (GWX.g x1)):Int)),
(by(try dsimp only at *);omega),
⟨rfl,trivial⟩,trivial,
({ a:=GWX.ws x1,b:=allW (Int.toNat (min (↑(Gr.n (GWX.g x1)):Int) (4096:Int))):TwoX }),
⟨(by(try dsimp only at *);exact h2.w),
(by(try dsimp only at *);exact allW_ok _)⟩,
⟨⟨rfl,trivial⟩,
⟨rfl,trivial⟩,trivial⟩,
⟨⟨rl,rr⟩,
⟨rl,rr⟩,trivial⟩,
(bothW (GWX.ws x1) (allW (Int.toNat (min (↑(Gr.n (GWX.g x1)):Int) (4096:Int))))),
(by(try dsimp only at *);exact bothW_ok h2.w (allW_ok _)),
⟨⟨rfl,trivial⟩,trivial⟩,
⟨⟨rl,rr⟩,trivial⟩,
⟨rfl,
(by(try dsimp only at *);(rw[<- elemsZ_len,elems_min h2.w h2.n];done))⟩,
⟨⟨(by(try dsimp only at *);(rw[<- elemsZ_len,elems_min h2.w h2.n];exact Nat.le_refl _))⟩,
(by(try dsimp only at *);(rw[elems_min h2.w h2.n];exact rr))⟩,trivial⟩)
theorem nodesOf_good:Good Tryd.prog 36 nodesOfC/\FnOk Tryd.prog 36:=good_of tok conKn (fn:=Tryd.f36) rfl (by decide+kernel) (fun _=>rfl) nodesOf_keeps
end Go.Sym
namespace Go.Sym
set_option linter.unusedVariables false
set_option linter.unusedSimpArgs false
open Go.Proofs
set_option maxRecDepth 100000
set_option maxHeartbeats 4000000
structure YX where
 g:Gr
 ts:List Int
 us:List Un
 ws:List Nat
 t:Int
structure YXok (x:YX):Prop where
 u:UXok ⟨x.g,x.ts,x.us,[]⟩
 w:WOk x.ws
theorem YXok.g {x:YX} (h:YXok x):GWok ⟨x.g,x.ws⟩:=⟨h.u.g.n,h.w⟩
end Go.Sym