/- A reader of what is handed in, printed by a program of mine (openr.py). -/
import Derived.Test.YtmlhlkbpglcccaaGreatRead
set_option linter.unusedVariables false
set_option linter.unusedSimpArgs false
namespace Go.Proofs.YtmlhlkbpglcccaaGreat
open Go
open Go.ChangeShapes Go.WideShapes

structure lx where
 w:Int
 ofv:Int
abbrev lx.cells(rr:lx):List Value:=[.int .u64 rr.w,.int .i64 rr.ofv]
structure oH where
 dov:Int
 kind:Int
 n:Int
 x:lx
 y:lx
 l:Sl lx
abbrev oH.cells(rr:oH):List Value:=[.int .i64 rr.dov,.int .i64 rr.kind,.int .i64 rr.n,.int .u64 rr.x.w,.int .i64 rr.x.ofv,.int .u64 rr.y.w,.int .i64 rr.y.ofv,.slice rr.l.p rr.l.n rr.l.c]
