/-
  Written by a program of mine (gen.py): for functions of this translation a predicate transformer over heaps (.pt), and the proof that it is sound for the call (.link).
-/
import Derived.Test.YtgofbcapgikboaaRows
import Derived.Test.YtgofbcapgikboaaSlice
namespace Go.Proofs.Ytgofbcapgikboaa
open Go
abbrev morainelaw01_WordFixes.C (x : Int) (c : Int) (H : Array Obj) (R : Value → Array Obj → Prop) : Prop := HC Try.prog 3 #[.int .i64 x, .int .i32 c] H R
abbrev morainelaw01_WordPlaces.C (tag : Int) (addr : Int) (H : Array Obj) (R : Value → Array Obj → Prop) : Prop := HC Try.prog 4 #[.int .i64 tag, .int .i64 addr] H R
abbrev morainelaw01_WordHeaders.C (kind : Int) (nv : Int) (more : Int) (H : Array Obj) (R : Value → Array Obj → Prop) : Prop := HC Try.prog 5 #[.int .i64 kind, .int .i64 nv, .int .u64 more] H R
abbrev morainelaw01_WordApart.C (x : Int) (y : Int) (c : Int) (d : Int) (tag : Int) (addr : Int) (other : Int) (kind : Int) (nv : Int) (more : Int) (H : Array Obj) (R : Value → Array Obj → Prop) : Prop := HC Try.prog 6 #[.int .i64 x, .int .i64 y, .int .i32 c, .int .i32 d, .int .i64 tag, .int .i64 addr, .int .i64 other, .int .i64 kind, .int .i64 nv, .int .u64 more] H R
abbrev morainelaw01_WordTells.C (wv : Int) (H : Array Obj) (R : Value → Array Obj → Prop) : Prop := HC Try.prog 7 #[.int .u64 wv] H R
abbrev morainelaw01_WordBack.C (wv : Int) (H : Array Obj) (R : Value → Array Obj → Prop) : Prop := HC Try.prog 8 #[.int .u64 wv] H R
abbrev word_Fix.C (x : Int) (H : Array Obj) (R : Value → Array Obj → Prop) : Prop := HC Try.prog 9 #[.int .i64 x] H R
abbrev moraineref01_Fixes.C (x : Int) (H : Array Obj) (R : Value → Array Obj → Prop) : Prop := HC Try.prog 10 #[.int .i64 x] H R
abbrev moraineref01_Word.C (tKind : Int) (tTag : Int) (tA : Int) (tX : Int) (tMore : Int) (H : Array Obj) (R : Value → Array Obj → Prop) : Prop := HC Try.prog 11 #[.agg #[.int .i64 tKind, .int .i64 tTag, .int .i64 tA, .int .i64 tX, .int .u64 tMore]] H R
abbrev word_Char.C (c : Int) (H : Array Obj) (R : Value → Array Obj → Prop) : Prop := HC Try.prog 12 #[.int .i32 c] H R
abbrev moraineref01_Letter.C (c : Int) (H : Array Obj) (R : Value → Array Obj → Prop) : Prop := HC Try.prog 13 #[.int .i32 c] H R
abbrev morainelaw01_awake.C  (H : Array Obj) (R : Value → Array Obj → Prop) : Prop := HC Try.prog 14 #[] H R
abbrev word_At.C (tag : Int) (addr : Int) (H : Array Obj) (R : Value → Array Obj → Prop) : Prop := HC Try.prog 15 #[.int .i64 tag, .int .i64 addr] H R
abbrev word_Header.C (kind : Int) (nv : Int) (more : Int) (H : Array Obj) (R : Value → Array Obj → Prop) : Prop := HC Try.prog 16 #[.int .i64 kind, .int .i64 nv, .int .u64 more] H R
abbrev morainelaw01_good.C (lB : Option Addr) (lN : Nat) (lC : Nat) (wv : Int) (ev : Int) (H : Array Obj) (R : Value → Array Obj → Prop) : Prop := HC Try.prog 17 #[.slice lB lN lC, .int .u64 wv, .int .i64 ev] H R
abbrev word_May.C (wv : Int) (H : Array Obj) (R : Value → Array Obj → Prop) : Prop := HC Try.prog 18 #[.int .u64 wv] H R
abbrev moraineref01_Of.C (wv : Int) (H : Array Obj) (R : Value → Array Obj → Prop) : Prop := HC Try.prog 19 #[.int .u64 wv] H R
abbrev word_Int.C (wv : Int) (H : Array Obj) (R : Value → Array Obj → Prop) : Prop := HC Try.prog 20 #[.int .u64 wv] H R
abbrev word_Rune.C (wv : Int) (H : Array Obj) (R : Value → Array Obj → Prop) : Prop := HC Try.prog 21 #[.int .u64 wv] H R
abbrev word_Addr.C (wv : Int) (H : Array Obj) (R : Value → Array Obj → Prop) : Prop := HC Try.prog 22 #[.int .u64 wv] H R
abbrev word_Head.C (wv : Int) (H : Array Obj) (R : Value → Array Obj → Prop) : Prop := HC Try.prog 23 #[.int .u64 wv] H R
abbrev word_Tag.C (wv : Int) (H : Array Obj) (R : Value → Array Obj → Prop) : Prop := HC Try.prog 24 #[.int .u64 wv] H R
abbrev word_Truth.C (wv : Int) (H : Array Obj) (R : Value → Array Obj → Prop) : Prop := HC Try.prog 25 #[.int .u64 wv] H R
abbrev moraineref01_power.C (nv : Int) (H : Array Obj) (R : Value → Array Obj → Prop) : Prop := HC Try.prog 26 #[.int .i64 nv] H R
abbrev word_letter.C (c : Int) (H : Array Obj) (R : Value → Array Obj → Prop) : Prop := HC Try.prog 27 #[.int .u64 c] H R
abbrev word_place.C (tag : Int) (H : Array Obj) (R : Value → Array Obj → Prop) : Prop := HC Try.prog 28 #[.int .i64 tag] H R
abbrev word_parts.C (wv : Int) (H : Array Obj) (R : Value → Array Obj → Prop) : Prop := HC Try.prog 29 #[.int .u64 wv] H R
abbrev word_parts_1.C (fromv : Int) (bits : Int) (cap0 : Option Addr) (H : Array Obj) (R : Value → Array Obj → Prop) : Prop := HC Try.prog 30 #[.int .i64 fromv, .int .i64 bits, .pointer cap0] H R
end Go.Proofs.Ytgofbcapgikboaa
