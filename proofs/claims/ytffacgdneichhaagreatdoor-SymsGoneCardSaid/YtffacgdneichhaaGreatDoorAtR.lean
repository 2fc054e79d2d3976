/-
 A number from 0 on, of any number. Proves nothing of any one statement.
-/
import Derived.Test.YtffacgdneichhaaGreatDoorHeap
set_option linter.unusedVariables false
set_option linter.unusedSimpArgs false
namespace Go.Proofs.YtffacgdneichhaaGreatDoor
open Go

def atR(x n:Int):Int:=Int.tmod (Int.tmod x n+n) n
theorem pQ{x n:Int}(hn:0<n):0<=atR x n/\atR x n<n:=by
 unfold atR
 have h1: -n<Int.tmod x n:=by have:=Int.lt_tmod_of_pos x hn;omega
 have h2:0<=Int.tmod x n+n:=by omega
 exact⟨Int.tmod_nonneg n h2,Int.tmod_lt_of_pos _ hn⟩
