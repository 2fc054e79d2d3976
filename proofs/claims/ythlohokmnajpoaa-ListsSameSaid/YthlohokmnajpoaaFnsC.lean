/-
 Written by a program of mine (gen.py): for functions of this translation a predicate transformer over heaps (.pt), and the proof that it is sound for the call (.link).
-/
import Derived.Test.YthlohokmnajpoaaRows
import Derived.Test.YthlohokmnajpoaaRange
namespace Go.Proofs.Ythlohokmnajpoaa
open Go
abbrev morainelaw22_ListsSame.C (aB : Option Addr) (aN : Nat) (aC : Nat) (bB : Option Addr) (bN : Nat) (bC : Nat) (x : Int) (H : Array Obj) (R : Value → Array Obj → Prop) : Prop := HC Try.prog 5 #[.slice aB aN aC, .slice bB bN bC, .int .i32 x] H R
abbrev obj_New.C (limit : Int) (H : Array Obj) (R : Value → Array Obj → Prop) : Prop := HC Try.prog 6 #[.int .i64 limit] H R
abbrev morainelaw22_awake.C  (H : Array Obj) (R : Value → Array Obj → Prop) : Prop := HC Try.prog 7 #[] H R
abbrev morainelaw22_fixes.C (lB : Option Addr) (lN : Nat) (lC : Nat) (H : Array Obj) (R : Value → Array Obj → Prop) : Prop := HC Try.prog 8 #[.slice lB lN lC] H R
abbrev morainelaw22_of.C (hv : Option Addr) (lB : Option Addr) (lN : Nat) (lC : Nat) (H : Array Obj) (R : Value → Array Obj → Prop) : Prop := HC Try.prog 9 #[.pointer hv, .slice lB lN lC] H R
abbrev lists_Apply.C (hv : Option Addr) (nv : Int) (argsB : Option Addr) (argsN : Nat) (argsC : Nat) (H : Array Obj) (R : Value → Array Obj → Prop) : Prop := HC Try.prog 10 #[.pointer hv, .int .i64 nv, .slice argsB argsN argsC] H R
abbrev lists_List.C (hv : Option Addr) (wv : Int) (H : Array Obj) (R : Value → Array Obj → Prop) : Prop := HC Try.prog 11 #[.pointer hv, .int .u64 wv] H R
abbrev morainelaw22_same.C (aB : Option Addr) (aN : Nat) (aC : Nat) (bB : Option Addr) (bN : Nat) (bC : Nat) (H : Array Obj) (R : Value → Array Obj → Prop) : Prop := HC Try.prog 12 #[.slice aB aN aC, .slice bB bN bC] H R
abbrev obj_Heap_Cons.C (hv : Option Addr) (car : Int) (cdr : Int) (H : Array Obj) (R : Value → Array Obj → Prop) : Prop := HC Try.prog 13 #[.pointer hv, .int .u64 car, .int .u64 cdr] H R
abbrev lists_Equal.C (hv : Option Addr) (a : Int) (b : Int) (H : Array Obj) (R : Value → Array Obj → Prop) : Prop := HC Try.prog 14 #[.pointer hv, .int .u64 a, .int .u64 b] H R
abbrev card_New.C (limit : Int) (H : Array Obj) (R : Value → Array Obj → Prop) : Prop := HC Try.prog 15 #[.int .i64 limit] H R
abbrev obj_Heap_Car.C (hv : Option Addr) (wv : Int) (H : Array Obj) (R : Value → Array Obj → Prop) : Prop := HC Try.prog 16 #[.pointer hv, .int .u64 wv] H R
abbrev lists_table.C  (H : Array Obj) (R : Value → Array Obj → Prop) : Prop := HC Try.prog 17 #[] H R
abbrev obj_Heap_Cdr.C (hv : Option Addr) (wv : Int) (H : Array Obj) (R : Value → Array Obj → Prop) : Prop := HC Try.prog 18 #[.pointer hv, .int .u64 wv] H R
abbrev lists_steps.C (hv : Option Addr) (wv : Int) (lB : Option Addr) (lN : Nat) (lC : Nat) (H : Array Obj) (R : Value → Array Obj → Prop) : Prop := HC Try.prog 19 #[.pointer hv, .int .u64 wv, .slice lB lN lC] H R
abbrev lists_done.C (ev : Int) (H : Array Obj) (R : Value → Array Obj → Prop) : Prop := HC Try.prog 20 #[.int .i64 ev] H R
abbrev obj_Heap_SetCar.C (hv : Option Addr) (wv : Int) (v : Int) (H : Array Obj) (R : Value → Array Obj → Prop) : Prop := HC Try.prog 21 #[.pointer hv, .int .u64 wv, .int .u64 v] H R
abbrev obj_Heap_SetCdr.C (hv : Option Addr) (wv : Int) (v : Int) (H : Array Obj) (R : Value → Array Obj → Prop) : Prop := HC Try.prog 22 #[.pointer hv, .int .u64 wv, .int .u64 v] H R
abbrev lists_elements.C (hv : Option Addr) (nv : Int) (wv : Int) (H : Array Obj) (R : Value → Array Obj → Prop) : Prop := HC Try.prog 23 #[.pointer hv, .int .i64 nv, .int .u64 wv] H R
abbrev lists_row.C (hv : Option Addr) (tail : Int) (lB : Option Addr) (lN : Nat) (lC : Nat) (H : Array Obj) (R : Value → Array Obj → Prop) : Prop := HC Try.prog 24 #[.pointer hv, .int .u64 tail, .slice lB lN lC] H R
abbrev lists_joins.C (hv : Option Addr) (argsB : Option Addr) (argsN : Nat) (argsC : Nat) (H : Array Obj) (R : Value → Array Obj → Prop) : Prop := HC Try.prog 25 #[.pointer hv, .slice argsB argsN argsC] H R
abbrev lists_tail.C (hv : Option Addr) (wv : Int) (nv : Int) (H : Array Obj) (R : Value → Array Obj → Prop) : Prop := HC Try.prog 26 #[.pointer hv, .int .u64 wv, .int .u64 nv] H R
abbrev lists_find.C (hv : Option Addr) (kind : Int) (x : Int) (l : Int) (cars : Bool) (H : Array Obj) (R : Value → Array Obj → Prop) : Prop := HC Try.prog 27 #[.pointer hv, .int .i64 kind, .int .u64 x, .int .u64 l, .bool cars] H R
abbrev lists_told.C (isv : Bool) (ev : Int) (H : Array Obj) (R : Value → Array Obj → Prop) : Prop := HC Try.prog 28 #[.bool isv, .int .i64 ev] H R
abbrev lists_judge_same.C (j : Option Addr) (kind : Int) (a : Int) (b : Int) (H : Array Obj) (R : Value → Array Obj → Prop) : Prop := HC Try.prog 29 #[.pointer j, .int .i64 kind, .int .u64 a, .int .u64 b] H R
abbrev lists_asks.C (hv : Option Addr) (nv : Int) (wv : Int) (H : Array Obj) (R : Value → Array Obj → Prop) : Prop := HC Try.prog 30 #[.pointer hv, .int .i64 nv, .int .u64 wv] H R
abbrev lists_pairs.C (hv : Option Addr) (wv : Int) (H : Array Obj) (R : Value → Array Obj → Prop) : Prop := HC Try.prog 31 #[.pointer hv, .int .u64 wv] H R
abbrev obj_Heap_put.C (hv : Option Addr) (kind : Int) (tag : Int) (lB : Option Addr) (lN : Nat) (lC : Nat) (H : Array Obj) (R : Value → Array Obj → Prop) : Prop := HC Try.prog 32 #[.pointer hv, .int .i64 kind, .int .i64 tag, .slice lB lN lC] H R
abbrev lists_judge_equal.C (j : Option Addr) (a : Int) (b : Int) (H : Array Obj) (R : Value → Array Obj → Prop) : Prop := HC Try.prog 33 #[.pointer j, .int .u64 a, .int .u64 b] H R
abbrev space_New.C (limit : Int) (H : Array Obj) (R : Value → Array Obj → Prop) : Prop := HC Try.prog 34 #[.int .i64 limit] H R
abbrev obj_Heap_half.C (hv : Option Addr) (wv : Int) (i : Int) (H : Array Obj) (R : Value → Array Obj → Prop) : Prop := HC Try.prog 35 #[.pointer hv, .int .u64 wv, .int .i64 i] H R
abbrev lists_table_1.C (name : ByteArray) (nv : Int) (H : Array Obj) (R : Value → Array Obj → Prop) : Prop := HC Try.prog 36 #[.string name, .int .i64 nv] H R
abbrev lists_truth.C (isv : Bool) (H : Array Obj) (R : Value → Array Obj → Prop) : Prop := HC Try.prog 38 #[.bool isv] H R
abbrev word_Fix.C (x : Int) (H : Array Obj) (R : Value → Array Obj → Prop) : Prop := HC Try.prog 39 #[.int .i64 x] H R
abbrev slices_Reverse_api_Word_api_Word.C (sB : Option Addr) (sN : Nat) (sC : Nat) (H : Array Obj) (R : Value → Array Obj → Prop) : Prop := HC Try.prog 40 #[.slice sB sN sC] H R
abbrev slices_Backward_api_Word_api_Word.C (sB : Option Addr) (sN : Nat) (sC : Nat) (H : Array Obj) (R : Value → Array Obj → Prop) : Prop := HC Try.prog 41 #[.slice sB sN sC] H R
abbrev obj_Heap_Pair.C (hv : Option Addr) (wv : Int) (H : Array Obj) (R : Value → Array Obj → Prop) : Prop := HC Try.prog 43 #[.pointer hv, .int .u64 wv] H R
abbrev lists_judge_value.C (j : Option Addr) (a : Int) (b : Int) (H : Array Obj) (R : Value → Array Obj → Prop) : Prop := HC Try.prog 44 #[.pointer j, .int .u64 a, .int .u64 b] H R
abbrev obj_Heap_Type.C (hv : Option Addr) (wv : Int) (H : Array Obj) (R : Value → Array Obj → Prop) : Prop := HC Try.prog 46 #[.pointer hv, .int .u64 wv] H R
abbrev lists_pairs_1.C (yield : Value) (cap0 : Option Addr) (cap1 : Option Addr) (H : Array Obj) (R : Value → Array Obj → Prop) : Prop := HC Try.prog 47 #[yield, .pointer cap0, .pointer cap1] H R
abbrev obj_Heap_none.C (hv : Option Addr) (H : Array Obj) (R : Value → Array Obj → Prop) : Prop := HC Try.prog 48 #[.pointer hv] H R
abbrev space_Space_Alloc.C (s : Option Addr) (gen : Int) (kind : Int) (nv : Int) (H : Array Obj) (R : Value → Array Obj → Prop) : Prop := HC Try.prog 49 #[.pointer s, .int .i64 gen, .int .i64 kind, .int .i64 nv] H R
abbrev seg_Mem_Write.C (m : Option Addr) (addr : Int) (wv : Int) (H : Array Obj) (R : Value → Array Obj → Prop) : Prop := HC Try.prog 50 #[.pointer m, .int .i64 addr, .int .u64 wv] H R
abbrev word_At.C (tag : Int) (addr : Int) (H : Array Obj) (R : Value → Array Obj → Prop) : Prop := HC Try.prog 51 #[.int .i64 tag, .int .i64 addr] H R
abbrev lists_judge_equal_1.C (x : Int) (y : Int) (cap0 : Option Addr) (H : Array Obj) (R : Value → Array Obj → Prop) : Prop := HC Try.prog 52 #[.int .u64 x, .int .u64 y, .pointer cap0] H R
abbrev obj_Heap_Len.C (hv : Option Addr) (wv : Int) (H : Array Obj) (R : Value → Array Obj → Prop) : Prop := HC Try.prog 53 #[.pointer hv, .int .u64 wv] H R
abbrev slices_Equal_api_Word_api_Word.C (s1B : Option Addr) (s1N : Nat) (s1C : Nat) (s2B : Option Addr) (s2N : Nat) (s2C : Nat) (H : Array Obj) (R : Value → Array Obj → Prop) : Prop := HC Try.prog 54 #[.slice s1B s1N s1C, .slice s2B s2N s2C] H R
abbrev lists_judge_words.C (j : Option Addr) (wv : Int) (H : Array Obj) (R : Value → Array Obj → Prop) : Prop := HC Try.prog 55 #[.pointer j, .int .u64 wv] H R
abbrev seg_New.C (limit : Int) (H : Array Obj) (R : Value → Array Obj → Prop) : Prop := HC Try.prog 56 #[.int .i64 limit] H R
abbrev obj_Heap_pair.C (hv : Option Addr) (wv : Int) (H : Array Obj) (R : Value → Array Obj → Prop) : Prop := HC Try.prog 57 #[.pointer hv, .int .u64 wv] H R
abbrev seg_Mem_Read.C (m : Option Addr) (addr : Int) (H : Array Obj) (R : Value → Array Obj → Prop) : Prop := HC Try.prog 58 #[.pointer m, .int .i64 addr] H R
abbrev slices_Backward_api_Word_api_Word_1.C (yield : Value) (cap0 : Option Addr) (H : Array Obj) (R : Value → Array Obj → Prop) : Prop := HC Try.prog 60 #[yield, .pointer cap0] H R
abbrev word_Tag.C (wv : Int) (H : Array Obj) (R : Value → Array Obj → Prop) : Prop := HC Try.prog 61 #[.int .u64 wv] H R
abbrev obj_Heap_Num.C (hv : Option Addr) (wv : Int) (H : Array Obj) (R : Value → Array Obj → Prop) : Prop := HC Try.prog 62 #[.pointer hv, .int .u64 wv] H R
abbrev num_Cmp.C (aNeg : Bool) (aMagB : Option Addr) (aMagN : Nat) (aMagC : Nat) (bNeg : Bool) (bMagB : Option Addr) (bMagN : Nat) (bMagC : Nat) (H : Array Obj) (R : Value → Array Obj → Prop) : Prop := HC Try.prog 63 #[.agg #[.bool aNeg, .slice aMagB aMagN aMagC], .agg #[.bool bNeg, .slice bMagB bMagN bMagC]] H R
abbrev obj_Heap_object.C (hv : Option Addr) (wv : Int) (H : Array Obj) (R : Value → Array Obj → Prop) : Prop := HC Try.prog 65 #[.pointer hv, .int .u64 wv] H R
abbrev space_Space_none.C (s : Option Addr) (H : Array Obj) (R : Value → Array Obj → Prop) : Prop := HC Try.prog 66 #[.pointer s] H R
abbrev space_may.C (gen : Int) (kind : Int) (nv : Int) (H : Array Obj) (R : Value → Array Obj → Prop) : Prop := HC Try.prog 67 #[.int .i64 gen, .int .i64 kind, .int .i64 nv] H R
abbrev space_Space_Current.C (s : Option Addr) (gen : Int) (kind : Int) (H : Array Obj) (R : Value → Array Obj → Prop) : Prop := HC Try.prog 68 #[.pointer s, .int .i64 gen, .int .i64 kind] H R
abbrev seg_Mem_Bump.C (m : Option Addr) (seg : Int) (nv : Int) (H : Array Obj) (R : Value → Array Obj → Prop) : Prop := HC Try.prog 69 #[.pointer m, .int .i64 seg, .int .i64 nv] H R
abbrev seg_Mem_Take.C (m : Option Addr) (gen : Int) (kind : Int) (H : Array Obj) (R : Value → Array Obj → Prop) : Prop := HC Try.prog 70 #[.pointer m, .int .i64 gen, .int .i64 kind] H R
abbrev seg_Mem_word.C (m : Option Addr) (addr : Int) (H : Array Obj) (R : Value → Array Obj → Prop) : Prop := HC Try.prog 71 #[.pointer m, .int .i64 addr] H R
abbrev word_place.C (tag : Int) (H : Array Obj) (R : Value → Array Obj → Prop) : Prop := HC Try.prog 72 #[.int .i64 tag] H R
abbrev obj_Heap_at.C (hv : Option Addr) (wv : Int) (tag : Int) (kind : Int) (H : Array Obj) (R : Value → Array Obj → Prop) : Prop := HC Try.prog 74 #[.pointer hv, .int .u64 wv, .int .i64 tag, .int .i64 kind] H R
abbrev seg_Mem_Seg.C (m : Option Addr) (seg : Int) (H : Array Obj) (R : Value → Array Obj → Prop) : Prop := HC Try.prog 76 #[.pointer m, .int .i64 seg] H R
abbrev word_Head.C (wv : Int) (H : Array Obj) (R : Value → Array Obj → Prop) : Prop := HC Try.prog 87 #[.int .u64 wv] H R
abbrev obj_raw.C (kind : Int) (H : Array Obj) (R : Value → Array Obj → Prop) : Prop := HC Try.prog 88 #[.int .i64 kind] H R
abbrev seg_Mem_at.C (m : Option Addr) (seg : Int) (H : Array Obj) (R : Value → Array Obj → Prop) : Prop := HC Try.prog 89 #[.pointer m, .int .i64 seg] H R
abbrev word_Addr.C (wv : Int) (H : Array Obj) (R : Value → Array Obj → Prop) : Prop := HC Try.prog 91 #[.int .u64 wv] H R
abbrev word_May.C (wv : Int) (H : Array Obj) (R : Value → Array Obj → Prop) : Prop := HC Try.prog 97 #[.int .u64 wv] H R
abbrev word_parts.C (wv : Int) (H : Array Obj) (R : Value → Array Obj → Prop) : Prop := HC Try.prog 98 #[.int .u64 wv] H R
abbrev word_letter.C (c : Int) (H : Array Obj) (R : Value → Array Obj → Prop) : Prop := HC Try.prog 101 #[.int .u64 c] H R
abbrev word_parts_1.C (fromv : Int) (bits : Int) (cap0 : Option Addr) (H : Array Obj) (R : Value → Array Obj → Prop) : Prop := HC Try.prog 102 #[.int .i64 fromv, .int .i64 bits, .pointer cap0] H R
end Go.Proofs.Ythlohokmnajpoaa
