/-
 Written by a program of mine (gen.py): for functions of this translation a predicate transformer over heaps (.pt), and the proof that it is sound for the call (.link).
-/
import Derived.Test.YtillpfaabdlaiaaDoorRows
import Derived.Test.YtillpfaabdlaiaaDoorRange
namespace Go.Proofs.YtillpfaabdlaiaaDoor
open Go
abbrev morainelaw16_SymsNone.C (wv : Int) (name : ByteArray) (H : Array Obj) (R : Value → Array Obj → Prop) : Prop := HC Tryd.prog 3 #[.int .u64 wv, .string name] H R
abbrev obj_New.C (limit : Int) (H : Array Obj) (R : Value → Array Obj → Prop) : Prop := HC Tryd.prog 4 #[.int .i64 limit] H R
abbrev morainelaw16_awake.C  (H : Array Obj) (R : Value → Array Obj → Prop) : Prop := HC Tryd.prog 5 #[] H R
abbrev syms_Name.C (hv : Option Addr) (wv : Int) (H : Array Obj) (R : Value → Array Obj → Prop) : Prop := HC Tryd.prog 6 #[.pointer hv, .int .u64 wv] H R
abbrev syms_Find.C (hv : Option Addr) (name : ByteArray) (H : Array Obj) (R : Value → Array Obj → Prop) : Prop := HC Tryd.prog 7 #[.pointer hv, .string name] H R
abbrev syms_Intern.C (hv : Option Addr) (name : ByteArray) (H : Array Obj) (R : Value → Array Obj → Prop) : Prop := HC Tryd.prog 8 #[.pointer hv, .string name] H R
abbrev morainelaw16_good.C (s : ByteArray) (H : Array Obj) (R : Value → Array Obj → Prop) : Prop := HC Tryd.prog 9 #[.string s] H R
abbrev card_New.C (limit : Int) (H : Array Obj) (R : Value → Array Obj → Prop) : Prop := HC Tryd.prog 10 #[.int .i64 limit] H R
abbrev morainelaw16_begun.C  (H : Array Obj) (R : Value → Array Obj → Prop) : Prop := HC Tryd.prog 11 #[] H R
abbrev obj_Heap_Get.C (hv : Option Addr) (wv : Int) (kind : Int) (i : Int) (H : Array Obj) (R : Value → Array Obj → Prop) : Prop := HC Tryd.prog 12 #[.pointer hv, .int .u64 wv, .int .i64 kind, .int .i64 i] H R
abbrev obj_Heap_Text.C (hv : Option Addr) (wv : Int) (H : Array Obj) (R : Value → Array Obj → Prop) : Prop := HC Tryd.prog 13 #[.pointer hv, .int .u64 wv] H R
abbrev syms_named.C (hv : Option Addr) (H : Array Obj) (R : Value → Array Obj → Prop) : Prop := HC Tryd.prog 14 #[.pointer hv] H R
abbrev unicode_utf8_ValidString.C (s : ByteArray) (H : Array Obj) (R : Value → Array Obj → Prop) : Prop := HC Tryd.prog 15 #[.string s] H R
abbrev unicode_utf8_RuneCountInString.C (s : ByteArray) (H : Array Obj) (R : Value → Array Obj → Prop) : Prop := HC Tryd.prog 16 #[.string s] H R
abbrev obj_Heap_String.C (hv : Option Addr) (s : ByteArray) (H : Array Obj) (R : Value → Array Obj → Prop) : Prop := HC Tryd.prog 17 #[.pointer hv, .string s] H R
abbrev obj_Heap_Make.C (hv : Option Addr) (kind : Int) (more : Int) (lB : Option Addr) (lN : Nat) (lC : Nat) (H : Array Obj) (R : Value → Array Obj → Prop) : Prop := HC Tryd.prog 18 #[.pointer hv, .int .i64 kind, .int .u64 more, .slice lB lN lC] H R
abbrev moraineref03_Runes.C (s : ByteArray) (H : Array Obj) (R : Value → Array Obj → Prop) : Prop := HC Tryd.prog 19 #[.string s] H R
abbrev space_New.C (limit : Int) (H : Array Obj) (R : Value → Array Obj → Prop) : Prop := HC Tryd.prog 20 #[.int .i64 limit] H R
abbrev obj_Heap_field.C (hv : Option Addr) (wv : Int) (kind : Int) (i : Int) (H : Array Obj) (R : Value → Array Obj → Prop) : Prop := HC Tryd.prog 21 #[.pointer hv, .int .u64 wv, .int .i64 kind, .int .i64 i] H R
abbrev seg_Mem_Read.C (m : Option Addr) (addr : Int) (H : Array Obj) (R : Value → Array Obj → Prop) : Prop := HC Tryd.prog 22 #[.pointer m, .int .i64 addr] H R
abbrev obj_Heap_words.C (hv : Option Addr) (wv : Int) (kind : Int) (H : Array Obj) (R : Value → Array Obj → Prop) : Prop := HC Tryd.prog 23 #[.pointer hv, .int .u64 wv, .int .i64 kind] H R
abbrev syms_named_1.C (yield : Value) (cap0 : Option Addr) (H : Array Obj) (R : Value → Array Obj → Prop) : Prop := HC Tryd.prog 24 #[yield, .pointer cap0] H R
abbrev unicode_utf8_word_string.C (s : ByteArray) (H : Array Obj) (R : Value → Array Obj → Prop) : Prop := HC Tryd.prog 25 #[.string s] H R
abbrev word_Header.C (kind : Int) (nv : Int) (more : Int) (H : Array Obj) (R : Value → Array Obj → Prop) : Prop := HC Tryd.prog 26 #[.int .i64 kind, .int .i64 nv, .int .u64 more] H R
abbrev obj_Heap_put.C (hv : Option Addr) (kind : Int) (tag : Int) (lB : Option Addr) (lN : Nat) (lC : Nat) (H : Array Obj) (R : Value → Array Obj → Prop) : Prop := HC Tryd.prog 27 #[.pointer hv, .int .i64 kind, .int .i64 tag, .slice lB lN lC] H R
abbrev obj_raw.C (kind : Int) (H : Array Obj) (R : Value → Array Obj → Prop) : Prop := HC Tryd.prog 28 #[.int .i64 kind] H R
abbrev moraineref03_Char.C (c : Int) (H : Array Obj) (R : Value → Array Obj → Prop) : Prop := HC Tryd.prog 29 #[.int .i32 c] H R
abbrev seg_New.C (limit : Int) (H : Array Obj) (R : Value → Array Obj → Prop) : Prop := HC Tryd.prog 30 #[.int .i64 limit] H R
abbrev obj_Heap_object.C (hv : Option Addr) (wv : Int) (H : Array Obj) (R : Value → Array Obj → Prop) : Prop := HC Tryd.prog 31 #[.pointer hv, .int .u64 wv] H R
abbrev seg_Mem_word.C (m : Option Addr) (addr : Int) (H : Array Obj) (R : Value → Array Obj → Prop) : Prop := HC Tryd.prog 32 #[.pointer m, .int .i64 addr] H R
abbrev obj_Heap_none.C (hv : Option Addr) (H : Array Obj) (R : Value → Array Obj → Prop) : Prop := HC Tryd.prog 33 #[.pointer hv] H R
abbrev space_Space_Alloc.C (s : Option Addr) (gen : Int) (kind : Int) (nv : Int) (H : Array Obj) (R : Value → Array Obj → Prop) : Prop := HC Tryd.prog 34 #[.pointer s, .int .i64 gen, .int .i64 kind, .int .i64 nv] H R
abbrev seg_Mem_Write.C (m : Option Addr) (addr : Int) (wv : Int) (H : Array Obj) (R : Value → Array Obj → Prop) : Prop := HC Tryd.prog 35 #[.pointer m, .int .i64 addr, .int .u64 wv] H R
abbrev word_At.C (tag : Int) (addr : Int) (H : Array Obj) (R : Value → Array Obj → Prop) : Prop := HC Tryd.prog 36 #[.int .i64 tag, .int .i64 addr] H R
abbrev obj_Heap_at.C (hv : Option Addr) (wv : Int) (tag : Int) (kind : Int) (H : Array Obj) (R : Value → Array Obj → Prop) : Prop := HC Tryd.prog 37 #[.pointer hv, .int .u64 wv, .int .i64 tag, .int .i64 kind] H R
abbrev word_Head.C (wv : Int) (H : Array Obj) (R : Value → Array Obj → Prop) : Prop := HC Tryd.prog 38 #[.int .u64 wv] H R
abbrev seg_Mem_Seg.C (m : Option Addr) (seg : Int) (H : Array Obj) (R : Value → Array Obj → Prop) : Prop := HC Tryd.prog 39 #[.pointer m, .int .i64 seg] H R
abbrev seg_Mem_at.C (m : Option Addr) (seg : Int) (H : Array Obj) (R : Value → Array Obj → Prop) : Prop := HC Tryd.prog 40 #[.pointer m, .int .i64 seg] H R
abbrev space_Space_none.C (s : Option Addr) (H : Array Obj) (R : Value → Array Obj → Prop) : Prop := HC Tryd.prog 41 #[.pointer s] H R
abbrev space_may.C (gen : Int) (kind : Int) (nv : Int) (H : Array Obj) (R : Value → Array Obj → Prop) : Prop := HC Tryd.prog 42 #[.int .i64 gen, .int .i64 kind, .int .i64 nv] H R
abbrev space_Space_Current.C (s : Option Addr) (gen : Int) (kind : Int) (H : Array Obj) (R : Value → Array Obj → Prop) : Prop := HC Tryd.prog 43 #[.pointer s, .int .i64 gen, .int .i64 kind] H R
abbrev seg_Mem_Bump.C (m : Option Addr) (seg : Int) (nv : Int) (H : Array Obj) (R : Value → Array Obj → Prop) : Prop := HC Tryd.prog 44 #[.pointer m, .int .i64 seg, .int .i64 nv] H R
abbrev seg_Mem_Take.C (m : Option Addr) (gen : Int) (kind : Int) (H : Array Obj) (R : Value → Array Obj → Prop) : Prop := HC Tryd.prog 45 #[.pointer m, .int .i64 gen, .int .i64 kind] H R
abbrev word_place.C (tag : Int) (H : Array Obj) (R : Value → Array Obj → Prop) : Prop := HC Tryd.prog 46 #[.int .i64 tag] H R
abbrev word_Addr.C (wv : Int) (H : Array Obj) (R : Value → Array Obj → Prop) : Prop := HC Tryd.prog 47 #[.int .u64 wv] H R
abbrev word_Tag.C (wv : Int) (H : Array Obj) (R : Value → Array Obj → Prop) : Prop := HC Tryd.prog 48 #[.int .u64 wv] H R
abbrev word_May.C (wv : Int) (H : Array Obj) (R : Value → Array Obj → Prop) : Prop := HC Tryd.prog 49 #[.int .u64 wv] H R
abbrev word_parts.C (wv : Int) (H : Array Obj) (R : Value → Array Obj → Prop) : Prop := HC Tryd.prog 50 #[.int .u64 wv] H R
abbrev word_letter.C (c : Int) (H : Array Obj) (R : Value → Array Obj → Prop) : Prop := HC Tryd.prog 51 #[.int .u64 c] H R
abbrev word_parts_1.C (fromv : Int) (bits : Int) (cap0 : Option Addr) (H : Array Obj) (R : Value → Array Obj → Prop) : Prop := HC Tryd.prog 52 #[.int .i64 fromv, .int .i64 bits, .pointer cap0] H R
end Go.Proofs.YtillpfaabdlaiaaDoor
