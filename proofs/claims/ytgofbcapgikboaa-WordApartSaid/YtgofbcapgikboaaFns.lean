/-
  Written by a program of mine (gen.py): for functions of this translation a predicate transformer over heaps (.pt), and the proof that it is sound for the call (.link).
-/
import Derived.Test.YtgofbcapgikboaaFns0
import Derived.Test.YtgofbcapgikboaaFns1
import Derived.Test.YtgofbcapgikboaaFns2
