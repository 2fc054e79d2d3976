/-
  Written by a program of mine (gen.py): for functions of this translation a predicate transformer over heaps (.pt), and the proof that it is sound for the call (.link).
-/
import Derived.Test.YtfohlkiikppefaaRows
import Derived.Test.YtfohlkiikppefaaRange
namespace Go.Proofs.Ytfohlkiikppefaa
open Go
abbrev morainelaw10_ObjBack.C (s : ByteArray) (nNeg : Bool) (nMagB : Option Addr) (nMagN : Nat) (nMagC : Nat) (H : Array Obj) (R : Value → Array Obj → Prop) : Prop := HC Try.prog 8 #[.string s, .agg #[.bool nNeg, .slice nMagB nMagN nMagC]] H R
abbrev obj_New.C (limit : Int) (H : Array Obj) (R : Value → Array Obj → Prop) : Prop := HC Try.prog 11 #[.int .i64 limit] H R
abbrev morainelaw10_awake.C  (H : Array Obj) (R : Value → Array Obj → Prop) : Prop := HC Try.prog 24 #[] H R
abbrev obj_Heap_Cons.C (hv : Option Addr) (car : Int) (cdr : Int) (H : Array Obj) (R : Value → Array Obj → Prop) : Prop := HC Try.prog 27 #[.pointer hv, .int .u64 car, .int .u64 cdr] H R
abbrev obj_Heap_Make.C (hv : Option Addr) (kind : Int) (more : Int) (lB : Option Addr) (lN : Nat) (lC : Nat) (H : Array Obj) (R : Value → Array Obj → Prop) : Prop := HC Try.prog 30 #[.pointer hv, .int .i64 kind, .int .u64 more, .slice lB lN lC] H R
abbrev obj_Heap_Car.C (hv : Option Addr) (wv : Int) (H : Array Obj) (R : Value → Array Obj → Prop) : Prop := HC Try.prog 33 #[.pointer hv, .int .u64 wv] H R
abbrev obj_Heap_Cdr.C (hv : Option Addr) (wv : Int) (H : Array Obj) (R : Value → Array Obj → Prop) : Prop := HC Try.prog 34 #[.pointer hv, .int .u64 wv] H R
abbrev obj_Heap_Type.C (hv : Option Addr) (wv : Int) (H : Array Obj) (R : Value → Array Obj → Prop) : Prop := HC Try.prog 36 #[.pointer hv, .int .u64 wv] H R
abbrev obj_Heap_Len.C (hv : Option Addr) (wv : Int) (H : Array Obj) (R : Value → Array Obj → Prop) : Prop := HC Try.prog 37 #[.pointer hv, .int .u64 wv] H R
abbrev obj_Heap_Get.C (hv : Option Addr) (wv : Int) (kind : Int) (i : Int) (H : Array Obj) (R : Value → Array Obj → Prop) : Prop := HC Try.prog 38 #[.pointer hv, .int .u64 wv, .int .i64 kind, .int .i64 i] H R
abbrev obj_Heap_String.C (hv : Option Addr) (s : ByteArray) (H : Array Obj) (R : Value → Array Obj → Prop) : Prop := HC Try.prog 39 #[.pointer hv, .string s] H R
abbrev obj_Heap_Text.C (hv : Option Addr) (wv : Int) (H : Array Obj) (R : Value → Array Obj → Prop) : Prop := HC Try.prog 40 #[.pointer hv, .int .u64 wv] H R
abbrev num_Norm.C (nNeg : Bool) (nMagB : Option Addr) (nMagN : Nat) (nMagC : Nat) (H : Array Obj) (R : Value → Array Obj → Prop) : Prop := HC Try.prog 41 #[.agg #[.bool nNeg, .slice nMagB nMagN nMagC]] H R
abbrev obj_Heap_Int.C (hv : Option Addr) (nNeg : Bool) (nMagB : Option Addr) (nMagN : Nat) (nMagC : Nat) (H : Array Obj) (R : Value → Array Obj → Prop) : Prop := HC Try.prog 42 #[.pointer hv, .agg #[.bool nNeg, .slice nMagB nMagN nMagC]] H R
abbrev obj_Heap_Num.C (hv : Option Addr) (wv : Int) (H : Array Obj) (R : Value → Array Obj → Prop) : Prop := HC Try.prog 43 #[.pointer hv, .int .u64 wv] H R
abbrev num_Fix.C (nNeg : Bool) (nMagB : Option Addr) (nMagN : Nat) (nMagC : Nat) (H : Array Obj) (R : Value → Array Obj → Prop) : Prop := HC Try.prog 44 #[.agg #[.bool nNeg, .slice nMagB nMagN nMagC]] H R
abbrev moraineref02_Same.C (aNeg : Bool) (aMagB : Option Addr) (aMagN : Nat) (aMagC : Nat) (bNeg : Bool) (bMagB : Option Addr) (bMagN : Nat) (bMagC : Nat) (H : Array Obj) (R : Value → Array Obj → Prop) : Prop := HC Try.prog 45 #[.agg #[.bool aNeg, .slice aMagB aMagN aMagC], .agg #[.bool bNeg, .slice bMagB bMagN bMagC]] H R
abbrev obj_Heap_Vector.C (hv : Option Addr) (nv : Int) (fill : Int) (H : Array Obj) (R : Value → Array Obj → Prop) : Prop := HC Try.prog 46 #[.pointer hv, .int .i64 nv, .int .u64 fill] H R
abbrev card_New.C (limit : Int) (H : Array Obj) (R : Value → Array Obj → Prop) : Prop := HC Try.prog 54 #[.int .i64 limit] H R
abbrev word_Int.C (wv : Int) (H : Array Obj) (R : Value → Array Obj → Prop) : Prop := HC Try.prog 55 #[.int .u64 wv] H R
abbrev word_Fix.C (x : Int) (H : Array Obj) (R : Value → Array Obj → Prop) : Prop := HC Try.prog 57 #[.int .i64 x] H R
abbrev obj_Heap_put.C (hv : Option Addr) (kind : Int) (tag : Int) (lB : Option Addr) (lN : Nat) (lC : Nat) (H : Array Obj) (R : Value → Array Obj → Prop) : Prop := HC Try.prog 59 #[.pointer hv, .int .i64 kind, .int .i64 tag, .slice lB lN lC] H R
abbrev word_Header.C (kind : Int) (nv : Int) (more : Int) (H : Array Obj) (R : Value → Array Obj → Prop) : Prop := HC Try.prog 60 #[.int .i64 kind, .int .i64 nv, .int .u64 more] H R
abbrev obj_raw.C (kind : Int) (H : Array Obj) (R : Value → Array Obj → Prop) : Prop := HC Try.prog 61 #[.int .i64 kind] H R
abbrev obj_Heap_field.C (hv : Option Addr) (wv : Int) (kind : Int) (i : Int) (H : Array Obj) (R : Value → Array Obj → Prop) : Prop := HC Try.prog 63 #[.pointer hv, .int .u64 wv, .int .i64 kind, .int .i64 i] H R
abbrev obj_Heap_half.C (hv : Option Addr) (wv : Int) (i : Int) (H : Array Obj) (R : Value → Array Obj → Prop) : Prop := HC Try.prog 65 #[.pointer hv, .int .u64 wv, .int .i64 i] H R
abbrev obj_Heap_object.C (hv : Option Addr) (wv : Int) (H : Array Obj) (R : Value → Array Obj → Prop) : Prop := HC Try.prog 66 #[.pointer hv, .int .u64 wv] H R
abbrev seg_Mem_Read.C (m : Option Addr) (addr : Int) (H : Array Obj) (R : Value → Array Obj → Prop) : Prop := HC Try.prog 67 #[.pointer m, .int .i64 addr] H R
abbrev obj_Heap_words.C (hv : Option Addr) (wv : Int) (kind : Int) (H : Array Obj) (R : Value → Array Obj → Prop) : Prop := HC Try.prog 68 #[.pointer hv, .int .u64 wv, .int .i64 kind] H R
abbrev num_made.C (neg : Bool) (mB : Option Addr) (mN : Nat) (mC : Nat) (H : Array Obj) (R : Value → Array Obj → Prop) : Prop := HC Try.prog 69 #[.bool neg, .slice mB mN mC] H R
abbrev num_Of.C (x : Int) (H : Array Obj) (R : Value → Array Obj → Prop) : Prop := HC Try.prog 70 #[.int .i64 x] H R
abbrev obj_Heap_More.C (hv : Option Addr) (wv : Int) (H : Array Obj) (R : Value → Array Obj → Prop) : Prop := HC Try.prog 71 #[.pointer hv, .int .u64 wv] H R
abbrev num_May.C (nNeg : Bool) (nMagB : Option Addr) (nMagN : Nat) (nMagC : Nat) (H : Array Obj) (R : Value → Array Obj → Prop) : Prop := HC Try.prog 72 #[.agg #[.bool nNeg, .slice nMagB nMagN nMagC]] H R
abbrev num_trim.C (mB : Option Addr) (mN : Nat) (mC : Nat) (H : Array Obj) (R : Value → Array Obj → Prop) : Prop := HC Try.prog 73 #[.slice mB mN mC] H R
abbrev slices_Repeat_api_Word_api_Word.C (xB : Option Addr) (xN : Nat) (xC : Nat) (count : Int) (H : Array Obj) (R : Value → Array Obj → Prop) : Prop := HC Try.prog 74 #[.slice xB xN xC, .int .i64 count] H R
abbrev obj_Heap_none.C (hv : Option Addr) (H : Array Obj) (R : Value → Array Obj → Prop) : Prop := HC Try.prog 75 #[.pointer hv] H R
abbrev obj_Heap_pair.C (hv : Option Addr) (wv : Int) (H : Array Obj) (R : Value → Array Obj → Prop) : Prop := HC Try.prog 77 #[.pointer hv, .int .u64 wv] H R
abbrev word_Addr.C (wv : Int) (H : Array Obj) (R : Value → Array Obj → Prop) : Prop := HC Try.prog 81 #[.int .u64 wv] H R
abbrev word_Tag.C (wv : Int) (H : Array Obj) (R : Value → Array Obj → Prop) : Prop := HC Try.prog 83 #[.int .u64 wv] H R
abbrev seg_Mem_Seg.C (m : Option Addr) (seg : Int) (H : Array Obj) (R : Value → Array Obj → Prop) : Prop := HC Try.prog 84 #[.pointer m, .int .i64 seg] H R
abbrev space_Space_none.C (s : Option Addr) (H : Array Obj) (R : Value → Array Obj → Prop) : Prop := HC Try.prog 85 #[.pointer s] H R
abbrev space_New.C (limit : Int) (H : Array Obj) (R : Value → Array Obj → Prop) : Prop := HC Try.prog 87 #[.int .i64 limit] H R
abbrev space_Space_Alloc.C (s : Option Addr) (gen : Int) (kind : Int) (nv : Int) (H : Array Obj) (R : Value → Array Obj → Prop) : Prop := HC Try.prog 88 #[.pointer s, .int .i64 gen, .int .i64 kind, .int .i64 nv] H R
abbrev seg_Mem_Write.C (m : Option Addr) (addr : Int) (wv : Int) (H : Array Obj) (R : Value → Array Obj → Prop) : Prop := HC Try.prog 89 #[.pointer m, .int .i64 addr, .int .u64 wv] H R
abbrev word_At.C (tag : Int) (addr : Int) (H : Array Obj) (R : Value → Array Obj → Prop) : Prop := HC Try.prog 90 #[.int .i64 tag, .int .i64 addr] H R
abbrev obj_Heap_at.C (hv : Option Addr) (wv : Int) (tag : Int) (kind : Int) (H : Array Obj) (R : Value → Array Obj → Prop) : Prop := HC Try.prog 93 #[.pointer hv, .int .u64 wv, .int .i64 tag, .int .i64 kind] H R
abbrev word_Head.C (wv : Int) (H : Array Obj) (R : Value → Array Obj → Prop) : Prop := HC Try.prog 94 #[.int .u64 wv] H R
abbrev seg_Mem_word.C (m : Option Addr) (addr : Int) (H : Array Obj) (R : Value → Array Obj → Prop) : Prop := HC Try.prog 95 #[.pointer m, .int .i64 addr] H R
abbrev slices_Clone_uint32_uint32.C (sB : Option Addr) (sN : Nat) (sC : Nat) (H : Array Obj) (R : Value → Array Obj → Prop) : Prop := HC Try.prog 96 #[.slice sB sN sC] H R
abbrev math_bits_Mul.C (x : Int) (y : Int) (H : Array Obj) (R : Value → Array Obj → Prop) : Prop := HC Try.prog 97 #[.int .u64 x, .int .u64 y] H R
abbrev word_place.C (tag : Int) (H : Array Obj) (R : Value → Array Obj → Prop) : Prop := HC Try.prog 99 #[.int .i64 tag] H R
abbrev word_May.C (wv : Int) (H : Array Obj) (R : Value → Array Obj → Prop) : Prop := HC Try.prog 100 #[.int .u64 wv] H R
abbrev seg_Mem_at.C (m : Option Addr) (seg : Int) (H : Array Obj) (R : Value → Array Obj → Prop) : Prop := HC Try.prog 101 #[.pointer m, .int .i64 seg] H R
abbrev seg_New.C (limit : Int) (H : Array Obj) (R : Value → Array Obj → Prop) : Prop := HC Try.prog 106 #[.int .i64 limit] H R
abbrev space_may.C (gen : Int) (kind : Int) (nv : Int) (H : Array Obj) (R : Value → Array Obj → Prop) : Prop := HC Try.prog 107 #[.int .i64 gen, .int .i64 kind, .int .i64 nv] H R
abbrev space_Space_Current.C (s : Option Addr) (gen : Int) (kind : Int) (H : Array Obj) (R : Value → Array Obj → Prop) : Prop := HC Try.prog 108 #[.pointer s, .int .i64 gen, .int .i64 kind] H R
abbrev seg_Mem_Bump.C (m : Option Addr) (seg : Int) (nv : Int) (H : Array Obj) (R : Value → Array Obj → Prop) : Prop := HC Try.prog 109 #[.pointer m, .int .i64 seg, .int .i64 nv] H R
abbrev seg_Mem_Take.C (m : Option Addr) (gen : Int) (kind : Int) (H : Array Obj) (R : Value → Array Obj → Prop) : Prop := HC Try.prog 110 #[.pointer m, .int .i64 gen, .int .i64 kind] H R
abbrev word_parts.C (wv : Int) (H : Array Obj) (R : Value → Array Obj → Prop) : Prop := HC Try.prog 111 #[.int .u64 wv] H R
abbrev math_bits_Mul32.C (x : Int) (y : Int) (H : Array Obj) (R : Value → Array Obj → Prop) : Prop := HC Try.prog 112 #[.int .u32 x, .int .u32 y] H R
abbrev math_bits_Mul64.C (x : Int) (y : Int) (H : Array Obj) (R : Value → Array Obj → Prop) : Prop := HC Try.prog 113 #[.int .u64 x, .int .u64 y] H R
abbrev word_letter.C (c : Int) (H : Array Obj) (R : Value → Array Obj → Prop) : Prop := HC Try.prog 115 #[.int .u64 c] H R
abbrev word_parts_1.C (fromv : Int) (bits : Int) (cap0 : Option Addr) (H : Array Obj) (R : Value → Array Obj → Prop) : Prop := HC Try.prog 120 #[.int .i64 fromv, .int .i64 bits, .pointer cap0] H R
end Go.Proofs.Ytfohlkiikppefaa
