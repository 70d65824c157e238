import Derived.Test.YtlldhkhmhgcpaaaGreatDoorS3
namespace Go.Sym
set_option linter.unusedVariables false
theorem dist_rng {g:Gr} (hg:GOk g) (ts src:List Int) (fwd:Bool) {v:Nat} (hv:v<g.n):0<=(distG g ts src fwd).getD v default/\(distG g ts src fwd).getD v default<=4611686018427387904:=by
 have h:=distF_sol (netG_ok hg (wsOk_tt g ts) fwd) (isSrc src)
 exact⟨h.nn v hv,h.le v hv⟩
theorem isSrc_iff {l:List Int} {v:Nat}:isSrc l v=true↔(v:Int)∈l:=by
 unfold isSrc;rw[List.any_eq_true]
 constructor
 ·rintro⟨x,hx,e⟩;rw[beq_iff_eq]at e;exact e▸hx
 ·intro h;exact⟨_,h,by simp⟩
end Go.Sym
namespace Go.Sym
set_option linter.unusedVariables false
structure Un where
 id:Int
 b:Int
 c:Int
 st:Int
 nd:Int
 f:Int
 g:Int
 h:Int
 i:Int
 j:Int
deriving Inhabited,DecidableEq
def kU:List Kd:=[.int .i64,.int .i64,.int .i64,.int .i64,.int .i64,.int .i64,.int .i64,.int .i64,.int .i64,.int .i64]
def encU (u:Un):Nat->D:=encN [.i u.id,.i u.b,.i u.c,.i u.st,.i u.nd,.i u.f,.i u.g,.i u.h,.i u.i,.i u.j]
end Go.Sym