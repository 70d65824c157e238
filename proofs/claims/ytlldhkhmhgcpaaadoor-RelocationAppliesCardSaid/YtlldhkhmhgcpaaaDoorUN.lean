import Derived.Test.YtlldhkhmhgcpaaaDoorS3
namespace Go.Sym
set_option linter.unusedVariables false
structure Un where
 id:Int
 b:Int
 c:Int
 st:Int
 nd:Int
 f:Int
 g:Int
 h:Int
 i:Int
 j:Int
deriving Inhabited,DecidableEq
def kU:List Kd:=[.int .i64,.int .i64,.int .i64,.int .i64,.int .i64,.int .i64,.int .i64,.int .i64,.int .i64,.int .i64]
def encU (u:Un):Nat->D:=encN [.i u.id,.i u.b,.i u.c,.i u.st,.i u.nd,.i u.f,.i u.g,.i u.h,.i u.i,.i u.j]
end Go.Sym