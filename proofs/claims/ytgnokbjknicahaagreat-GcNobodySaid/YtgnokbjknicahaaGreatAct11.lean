/- A reader of what is handed in, printed by a program of mine (openr.py). -/
import Derived.Test.YtgnokbjknicahaaGreatRead
set_option linter.unusedVariables false
set_option linter.unusedSimpArgs false
namespace Go.Proofs.YtgnokbjknicahaaGreat
open Go
open Go.ChangeShapes Go.WideShapes

structure ValOf where
 w:Int
 ofv:Int
abbrev ValOf.cells(rr:ValOf):List Value:=[.int .u64 rr.w,.int .i64 rr.ofv]
structure ActOf where
 dov:Int
 kind:Int
 n:Int
 x:ValOf
 y:ValOf
 l:Sl ValOf
abbrev ActOf.cells(rr:ActOf):List Value:=[.int .i64 rr.dov,.int .i64 rr.kind,.int .i64 rr.n,.int .u64 rr.x.w,.int .i64 rr.x.ofv,.int .u64 rr.y.w,.int .i64 rr.y.ofv,.slice rr.l.p rr.l.n rr.l.c]
structure RoundOf where
 acts:Sl ActOf
 guard:Sl (List Value)
 symbols:Sl ValOf
 g:Int
 target:Int
 keep:Int
abbrev RoundOf.cells(rr:RoundOf):List Value:=[.slice rr.acts.p rr.acts.n rr.acts.c,.slice rr.guard.p rr.guard.n rr.guard.c,.slice rr.symbols.p rr.symbols.n rr.symbols.c,.int .i64 rr.g,.int .i64 rr.target,.int .u32 rr.keep]
end Go.Proofs.YtgnokbjknicahaaGreat
