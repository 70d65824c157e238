import Derived.Test.YtpnnecijeoipfaaGreatDoorP2
namespace Go.Sym
set_option linter.unusedVariables false
theorem elemsZ_mem {ws:List Nat} {x:Int}:x∈elemsZ ws↔0<=x/\x<4096/\hasW ws x.toNat=true:=by
 unfold elemsZ
 rw[List.mem_map]
 constructor
 ·rintro⟨k,hk,rfl⟩
  have:=elemsW_mem.1 hk
  exact⟨by omega,by omega,by simpa using this.2⟩
 ·rintro⟨h1,h2,h3⟩
  exact⟨x.toNat,elemsW_mem.2 ⟨by omega,h3⟩,by omega⟩
theorem elemsZ_sorted (ws:List Nat):(elemsZ ws).Pairwise (· <·):=by
 unfold elemsZ
 rw[List.pairwise_map]
 exact(elemsW_sorted ws).imp (fun h=>by omega)
end Go.Sym