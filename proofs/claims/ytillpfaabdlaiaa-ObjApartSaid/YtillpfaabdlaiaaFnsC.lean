/-
 Written by a program of mine (gen.py): for functions of this translation a predicate transformer over heaps (.pt), and the proof that it is sound for the call (.link).
-/
import Derived.Test.YtillpfaabdlaiaaRows
import Derived.Test.YtillpfaabdlaiaaRange
import Derived.Test.YtillpfaabdlaiaaMap
namespace Go.Proofs.Ytillpfaabdlaiaa
open Go
abbrev morainelaw10_ObjApart.C (limit : Int) (lB : Option Addr) (lN : Nat) (lC : Nat) (H : Array Obj) (R : Value → Array Obj → Prop) : Prop := HC Try.prog 3 #[.int .i64 limit, .slice lB lN lC] H R
abbrev obj_New.C (limit : Int) (H : Array Obj) (R : Value → Array Obj → Prop) : Prop := HC Try.prog 4 #[.int .i64 limit] H R
abbrev morainelaw10_many.C (lB : Option Addr) (lN : Nat) (lC : Nat) (H : Array Obj) (R : Value → Array Obj → Prop) : Prop := HC Try.prog 5 #[.slice lB lN lC] H R
abbrev morainelaw10_awake.C  (H : Array Obj) (R : Value → Array Obj → Prop) : Prop := HC Try.prog 6 #[] H R
abbrev obj_Heap_Cons.C (hv : Option Addr) (car : Int) (cdr : Int) (H : Array Obj) (R : Value → Array Obj → Prop) : Prop := HC Try.prog 7 #[.pointer hv, .int .u64 car, .int .u64 cdr] H R
abbrev morainelaw10_word.C (vW : Int) (vOf : Int) (madeB : Option Addr) (madeN : Nat) (madeC : Nat) (H : Array Obj) (R : Value → Array Obj → Prop) : Prop := HC Try.prog 8 #[.agg #[.int .u64 vW, .int .i64 vOf], .slice madeB madeN madeC] H R
abbrev obj_Heap_Weak.C (hv : Option Addr) (car : Int) (cdr : Int) (H : Array Obj) (R : Value → Array Obj → Prop) : Prop := HC Try.prog 9 #[.pointer hv, .int .u64 car, .int .u64 cdr] H R
abbrev obj_Heap_Make.C (hv : Option Addr) (kind : Int) (more : Int) (lB : Option Addr) (lN : Nat) (lC : Nat) (H : Array Obj) (R : Value → Array Obj → Prop) : Prop := HC Try.prog 10 #[.pointer hv, .int .i64 kind, .int .u64 more, .slice lB lN lC] H R
abbrev morainelaw10_words.C (lB : Option Addr) (lN : Nat) (lC : Nat) (madeB : Option Addr) (madeN : Nat) (madeC : Nat) (H : Array Obj) (R : Value → Array Obj → Prop) : Prop := HC Try.prog 11 #[.slice lB lN lC, .slice madeB madeN madeC] H R
abbrev obj_Heap_Vector.C (hv : Option Addr) (nv : Int) (fill : Int) (H : Array Obj) (R : Value → Array Obj → Prop) : Prop := HC Try.prog 12 #[.pointer hv, .int .i64 nv, .int .u64 fill] H R
abbrev obj_Heap_String.C (hv : Option Addr) (s : ByteArray) (H : Array Obj) (R : Value → Array Obj → Prop) : Prop := HC Try.prog 13 #[.pointer hv, .string s] H R
abbrev obj_Heap_Int.C (hv : Option Addr) (nNeg : Bool) (nMagB : Option Addr) (nMagN : Nat) (nMagC : Nat) (H : Array Obj) (R : Value → Array Obj → Prop) : Prop := HC Try.prog 14 #[.pointer hv, .agg #[.bool nNeg, .slice nMagB nMagN nMagC]] H R
abbrev obj_Heap_Size.C (hv : Option Addr) (wv : Int) (H : Array Obj) (R : Value → Array Obj → Prop) : Prop := HC Try.prog 15 #[.pointer hv, .int .u64 wv] H R
abbrev card_Cards_Gen.C (c : Option Addr) (wv : Int) (H : Array Obj) (R : Value → Array Obj → Prop) : Prop := HC Try.prog 16 #[.pointer c, .int .u64 wv] H R
abbrev space_Space_Words.C (s : Option Addr) (gensB : Option Addr) (gensN : Nat) (gensC : Nat) (H : Array Obj) (R : Value → Array Obj → Prop) : Prop := HC Try.prog 17 #[.pointer s, .slice gensB gensN gensC] H R
abbrev card_New.C (limit : Int) (H : Array Obj) (R : Value → Array Obj → Prop) : Prop := HC Try.prog 18 #[.int .i64 limit] H R
abbrev obj_Heap_Car.C (hv : Option Addr) (wv : Int) (H : Array Obj) (R : Value → Array Obj → Prop) : Prop := HC Try.prog 19 #[.pointer hv, .int .u64 wv] H R
abbrev obj_Heap_Cdr.C (hv : Option Addr) (wv : Int) (H : Array Obj) (R : Value → Array Obj → Prop) : Prop := HC Try.prog 20 #[.pointer hv, .int .u64 wv] H R
abbrev obj_Heap_Get.C (hv : Option Addr) (wv : Int) (kind : Int) (i : Int) (H : Array Obj) (R : Value → Array Obj → Prop) : Prop := HC Try.prog 21 #[.pointer hv, .int .u64 wv, .int .i64 kind, .int .i64 i] H R
abbrev obj_Heap_Text.C (hv : Option Addr) (wv : Int) (H : Array Obj) (R : Value → Array Obj → Prop) : Prop := HC Try.prog 22 #[.pointer hv, .int .u64 wv] H R
abbrev obj_Heap_Len.C (hv : Option Addr) (wv : Int) (H : Array Obj) (R : Value → Array Obj → Prop) : Prop := HC Try.prog 23 #[.pointer hv, .int .u64 wv] H R
abbrev obj_Heap_put.C (hv : Option Addr) (kind : Int) (tag : Int) (lB : Option Addr) (lN : Nat) (lC : Nat) (H : Array Obj) (R : Value → Array Obj → Prop) : Prop := HC Try.prog 24 #[.pointer hv, .int .i64 kind, .int .i64 tag, .slice lB lN lC] H R
abbrev word_Header.C (kind : Int) (nv : Int) (more : Int) (H : Array Obj) (R : Value → Array Obj → Prop) : Prop := HC Try.prog 25 #[.int .i64 kind, .int .i64 nv, .int .u64 more] H R
abbrev obj_raw.C (kind : Int) (H : Array Obj) (R : Value → Array Obj → Prop) : Prop := HC Try.prog 26 #[.int .i64 kind] H R
abbrev slices_Repeat_api_Word_api_Word.C (xB : Option Addr) (xN : Nat) (xC : Nat) (count : Int) (H : Array Obj) (R : Value → Array Obj → Prop) : Prop := HC Try.prog 27 #[.slice xB xN xC, .int .i64 count] H R
abbrev num_Norm.C (nNeg : Bool) (nMagB : Option Addr) (nMagN : Nat) (nMagC : Nat) (H : Array Obj) (R : Value → Array Obj → Prop) : Prop := HC Try.prog 28 #[.agg #[.bool nNeg, .slice nMagB nMagN nMagC]] H R
abbrev num_Fix.C (nNeg : Bool) (nMagB : Option Addr) (nMagN : Nat) (nMagC : Nat) (H : Array Obj) (R : Value → Array Obj → Prop) : Prop := HC Try.prog 29 #[.agg #[.bool nNeg, .slice nMagB nMagN nMagC]] H R
abbrev word_Fix.C (x : Int) (H : Array Obj) (R : Value → Array Obj → Prop) : Prop := HC Try.prog 30 #[.int .i64 x] H R
abbrev obj_Heap_Pair.C (hv : Option Addr) (wv : Int) (H : Array Obj) (R : Value → Array Obj → Prop) : Prop := HC Try.prog 31 #[.pointer hv, .int .u64 wv] H R
abbrev obj_Heap_object.C (hv : Option Addr) (wv : Int) (H : Array Obj) (R : Value → Array Obj → Prop) : Prop := HC Try.prog 32 #[.pointer hv, .int .u64 wv] H R
abbrev word_Addr.C (wv : Int) (H : Array Obj) (R : Value → Array Obj → Prop) : Prop := HC Try.prog 33 #[.int .u64 wv] H R
abbrev card_Cards_none.C (c : Option Addr) (H : Array Obj) (R : Value → Array Obj → Prop) : Prop := HC Try.prog 34 #[.pointer c] H R
abbrev word_Tag.C (wv : Int) (H : Array Obj) (R : Value → Array Obj → Prop) : Prop := HC Try.prog 35 #[.int .u64 wv] H R
abbrev seg_Mem_Seg.C (m : Option Addr) (seg : Int) (H : Array Obj) (R : Value → Array Obj → Prop) : Prop := HC Try.prog 36 #[.pointer m, .int .i64 seg] H R
abbrev space_Space_none.C (s : Option Addr) (H : Array Obj) (R : Value → Array Obj → Prop) : Prop := HC Try.prog 37 #[.pointer s] H R
abbrev seg_Mem_Taken.C (m : Option Addr) (gensB : Option Addr) (gensN : Nat) (gensC : Nat) (H : Array Obj) (R : Value → Array Obj → Prop) : Prop := HC Try.prog 38 #[.pointer m, .slice gensB gensN gensC] H R
abbrev space_New.C (limit : Int) (H : Array Obj) (R : Value → Array Obj → Prop) : Prop := HC Try.prog 39 #[.int .i64 limit] H R
abbrev obj_Heap_half.C (hv : Option Addr) (wv : Int) (i : Int) (H : Array Obj) (R : Value → Array Obj → Prop) : Prop := HC Try.prog 40 #[.pointer hv, .int .u64 wv, .int .i64 i] H R
abbrev obj_Heap_field.C (hv : Option Addr) (wv : Int) (kind : Int) (i : Int) (H : Array Obj) (R : Value → Array Obj → Prop) : Prop := HC Try.prog 41 #[.pointer hv, .int .u64 wv, .int .i64 kind, .int .i64 i] H R
abbrev seg_Mem_Read.C (m : Option Addr) (addr : Int) (H : Array Obj) (R : Value → Array Obj → Prop) : Prop := HC Try.prog 42 #[.pointer m, .int .i64 addr] H R
abbrev obj_Heap_words.C (hv : Option Addr) (wv : Int) (kind : Int) (H : Array Obj) (R : Value → Array Obj → Prop) : Prop := HC Try.prog 43 #[.pointer hv, .int .u64 wv, .int .i64 kind] H R
abbrev obj_Heap_none.C (hv : Option Addr) (H : Array Obj) (R : Value → Array Obj → Prop) : Prop := HC Try.prog 44 #[.pointer hv] H R
abbrev space_Space_Alloc.C (s : Option Addr) (gen : Int) (kind : Int) (nv : Int) (H : Array Obj) (R : Value → Array Obj → Prop) : Prop := HC Try.prog 45 #[.pointer s, .int .i64 gen, .int .i64 kind, .int .i64 nv] H R
abbrev seg_Mem_Write.C (m : Option Addr) (addr : Int) (wv : Int) (H : Array Obj) (R : Value → Array Obj → Prop) : Prop := HC Try.prog 46 #[.pointer m, .int .i64 addr, .int .u64 wv] H R
abbrev word_At.C (tag : Int) (addr : Int) (H : Array Obj) (R : Value → Array Obj → Prop) : Prop := HC Try.prog 47 #[.int .i64 tag, .int .i64 addr] H R
abbrev math_bits_Mul.C (x : Int) (y : Int) (H : Array Obj) (R : Value → Array Obj → Prop) : Prop := HC Try.prog 48 #[.int .u64 x, .int .u64 y] H R
abbrev num_made.C (neg : Bool) (mB : Option Addr) (mN : Nat) (mC : Nat) (H : Array Obj) (R : Value → Array Obj → Prop) : Prop := HC Try.prog 49 #[.bool neg, .slice mB mN mC] H R
abbrev num_trim.C (mB : Option Addr) (mN : Nat) (mC : Nat) (H : Array Obj) (R : Value → Array Obj → Prop) : Prop := HC Try.prog 50 #[.slice mB mN mC] H R
abbrev obj_Heap_pair.C (hv : Option Addr) (wv : Int) (H : Array Obj) (R : Value → Array Obj → Prop) : Prop := HC Try.prog 51 #[.pointer hv, .int .u64 wv] H R
abbrev obj_Heap_at.C (hv : Option Addr) (wv : Int) (tag : Int) (kind : Int) (H : Array Obj) (R : Value → Array Obj → Prop) : Prop := HC Try.prog 52 #[.pointer hv, .int .u64 wv, .int .i64 tag, .int .i64 kind] H R
abbrev word_Head.C (wv : Int) (H : Array Obj) (R : Value → Array Obj → Prop) : Prop := HC Try.prog 53 #[.int .u64 wv] H R
abbrev word_place.C (tag : Int) (H : Array Obj) (R : Value → Array Obj → Prop) : Prop := HC Try.prog 54 #[.int .i64 tag] H R
abbrev word_May.C (wv : Int) (H : Array Obj) (R : Value → Array Obj → Prop) : Prop := HC Try.prog 55 #[.int .u64 wv] H R
abbrev seg_Mem_at.C (m : Option Addr) (seg : Int) (H : Array Obj) (R : Value → Array Obj → Prop) : Prop := HC Try.prog 56 #[.pointer m, .int .i64 seg] H R
abbrev slices_Contains_int_int.C (sB : Option Addr) (sN : Nat) (sC : Nat) (v : Int) (H : Array Obj) (R : Value → Array Obj → Prop) : Prop := HC Try.prog 57 #[.slice sB sN sC, .int .i64 v] H R
abbrev slices_SortFunc_int_int.C (xB : Option Addr) (xN : Nat) (xC : Nat) (cmp : Value) (H : Array Obj) (R : Value → Array Obj → Prop) : Prop := HC Try.prog 58 #[.slice xB xN xC, cmp] H R
abbrev seg_Mem_Taken_1.C (a : Int) (b : Int) (cap0 : Option Addr) (H : Array Obj) (R : Value → Array Obj → Prop) : Prop := HC Try.prog 59 #[.int .i64 a, .int .i64 b, .pointer cap0] H R
abbrev cmp_Compare_int.C (x : Int) (y : Int) (H : Array Obj) (R : Value → Array Obj → Prop) : Prop := HC Try.prog 60 #[.int .i64 x, .int .i64 y] H R
abbrev seg_New.C (limit : Int) (H : Array Obj) (R : Value → Array Obj → Prop) : Prop := HC Try.prog 61 #[.int .i64 limit] H R
abbrev seg_Mem_word.C (m : Option Addr) (addr : Int) (H : Array Obj) (R : Value → Array Obj → Prop) : Prop := HC Try.prog 62 #[.pointer m, .int .i64 addr] H R
abbrev space_may.C (gen : Int) (kind : Int) (nv : Int) (H : Array Obj) (R : Value → Array Obj → Prop) : Prop := HC Try.prog 63 #[.int .i64 gen, .int .i64 kind, .int .i64 nv] H R
abbrev space_Space_Current.C (s : Option Addr) (gen : Int) (kind : Int) (H : Array Obj) (R : Value → Array Obj → Prop) : Prop := HC Try.prog 64 #[.pointer s, .int .i64 gen, .int .i64 kind] H R
abbrev seg_Mem_Bump.C (m : Option Addr) (seg : Int) (nv : Int) (H : Array Obj) (R : Value → Array Obj → Prop) : Prop := HC Try.prog 65 #[.pointer m, .int .i64 seg, .int .i64 nv] H R
abbrev seg_Mem_Take.C (m : Option Addr) (gen : Int) (kind : Int) (H : Array Obj) (R : Value → Array Obj → Prop) : Prop := HC Try.prog 66 #[.pointer m, .int .i64 gen, .int .i64 kind] H R
abbrev math_bits_Mul64.C (x : Int) (y : Int) (H : Array Obj) (R : Value → Array Obj → Prop) : Prop := HC Try.prog 68 #[.int .u64 x, .int .u64 y] H R
abbrev slices_Clone_uint32_uint32.C (sB : Option Addr) (sN : Nat) (sC : Nat) (H : Array Obj) (R : Value → Array Obj → Prop) : Prop := HC Try.prog 69 #[.slice sB sN sC] H R
abbrev word_parts.C (wv : Int) (H : Array Obj) (R : Value → Array Obj → Prop) : Prop := HC Try.prog 70 #[.int .u64 wv] H R
abbrev word_letter.C (c : Int) (H : Array Obj) (R : Value → Array Obj → Prop) : Prop := HC Try.prog 71 #[.int .u64 c] H R
abbrev slices_Index_int_int.C (sB : Option Addr) (sN : Nat) (sC : Nat) (v : Int) (H : Array Obj) (R : Value → Array Obj → Prop) : Prop := HC Try.prog 72 #[.slice sB sN sC, .int .i64 v] H R
abbrev cmp_isNaN_int.C (x : Int) (H : Array Obj) (R : Value → Array Obj → Prop) : Prop := HC Try.prog 75 #[.int .i64 x] H R
abbrev word_parts_1.C (fromv : Int) (bits : Int) (cap0 : Option Addr) (H : Array Obj) (R : Value → Array Obj → Prop) : Prop := HC Try.prog 76 #[.int .i64 fromv, .int .i64 bits, .pointer cap0] H R
end Go.Proofs.Ytillpfaabdlaiaa
