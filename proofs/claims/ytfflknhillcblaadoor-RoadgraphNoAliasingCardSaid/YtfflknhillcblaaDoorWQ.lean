import Derived.Test.YtfflknhillcblaaDoorP2
namespace Go.Sym
set_option linter.unusedVariables false
theorem elemsZ_mem {ws:List Nat} {x:Int}:x∈elemsZ ws↔0<=x/\x<4096/\hasW ws x.toNat=true:=by
 unfold elemsZ
 rw[List.mem_map]
 constructor
 ·rintro⟨k,hk,rfl⟩
  have:=elemsW_mem.1 hk
  exact⟨by omega,by omega,by simpa using this.2⟩
 ·rintro⟨h1,h2,h3⟩
  exact⟨x.toNat,elemsW_mem.2 ⟨by omega,h3⟩,by omega⟩
theorem elemsZ_sorted (ws:List Nat):(elemsZ ws).Pairwise (· <·):=by
 unfold elemsZ
 rw[List.pairwise_map]
 exact(elemsW_sorted ws).imp (fun h=>by omega)
theorem mem_addOk {ws:List Nat} (h:WOk ws) {a x:Int}:x∈elemsZ (addOk ws a)↔x∈elemsZ ws∨(x=a/\0<=a/\a<4096):=by
 unfold addOk
 split
 ·rename_i ha
  rw[elemsZ_mem,elemsZ_mem,hasW_add h ha,Bool.or_eq_true,decide_eq_true_eq]
  constructor
  ·rintro⟨h1,h2,h3|h3⟩
   ·exact .inl ⟨h1,h2,h3⟩
   ·exact .inr ⟨by omega,ha⟩
  ·rintro(⟨h1,h2,h3⟩|⟨h1,h2⟩)
   ·exact⟨h1,h2,.inl h3⟩
   ·subst h1;exact⟨h2.1,h2.2,.inr rfl⟩
 ·rename_i ha
  exact⟨.inl,fun q=>q.elim id fun q=>absurd q.2 ha⟩
theorem mem_ofW (l:List Int):∀(ws:List Nat),WOk ws->∀ x:Int,x∈elemsZ (l.foldl addOk ws)↔x∈elemsZ ws∨(x∈l/\0<=x/\x<4096):=by
 induction l with
 |nil=>intro ws h x;simp
 |cons a l ih=>
  intro ws h x
  rw[List.foldl_cons,ih _ (h.addOk a),mem_addOk h,List.mem_cons]
  constructor
  ·rintro((h1|⟨h1,h2⟩)|⟨h1,h2⟩)
   ·exact .inl h1
   ·exact .inr ⟨.inl h1,h1▸h2⟩
   ·exact .inr ⟨.inr h1,h2⟩
  ·rintro(h1|⟨h1|h1,h2⟩)
   ·exact .inl (.inl h1)
   ·exact .inl (.inr ⟨h1,h1▸h2⟩)
   ·exact .inr ⟨h1,h2⟩
theorem ofW_mem {l:List Int} {x:Int}:x∈elemsZ (ofW l l.length)↔x∈l/\0<=x/\x<4096:=by
 unfold ofW
 rw[List.take_length,mem_ofW l _ .nil x]
 have:elemsZ nilW=[]:=by unfold elemsZ;rw[nilW_elems];rfl
 rw[this];simp
end Go.Sym