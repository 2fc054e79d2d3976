/-
 Written by a program of mine (gen.py): for functions of this translation a predicate transformer over heaps (.pt), and the proof that it is sound for the call (.link).
-/
import Derived.Test.YthlohokmnajpoaaGreatRows
import Derived.Test.YthlohokmnajpoaaGreatRange
namespace Go.Proofs.YthlohokmnajpoaaGreat
open Go
abbrev morainelaw22_ListsNobody.C (nv : Int) (argsB : Option Addr) (argsN : Nat) (argsC : Nat) (H : Array Obj) (R : Value → Array Obj → Prop) : Prop := HC Tryz.prog 3 #[.int .i64 nv, .slice argsB argsN argsC] H R
abbrev morainelaw22_awake.C  (H : Array Obj) (R : Value → Array Obj → Prop) : Prop := HC Tryz.prog 4 #[] H R
abbrev lists_Apply.C (hv : Option Addr) (nv : Int) (argsB : Option Addr) (argsN : Nat) (argsC : Nat) (H : Array Obj) (R : Value → Array Obj → Prop) : Prop := HC Tryz.prog 5 #[.pointer hv, .int .i64 nv, .slice argsB argsN argsC] H R
abbrev obj_New.C (limit : Int) (H : Array Obj) (R : Value → Array Obj → Prop) : Prop := HC Tryz.prog 6 #[.int .i64 limit] H R
abbrev lists_Prims.C  (H : Array Obj) (R : Value → Array Obj → Prop) : Prop := HC Tryz.prog 7 #[] H R
abbrev space_Space_Words.C (s : Option Addr) (gensB : Option Addr) (gensN : Nat) (gensC : Nat) (H : Array Obj) (R : Value → Array Obj → Prop) : Prop := HC Tryz.prog 8 #[.pointer s, .slice gensB gensN gensC] H R
abbrev obj_Heap_Car.C (hv : Option Addr) (wv : Int) (H : Array Obj) (R : Value → Array Obj → Prop) : Prop := HC Tryz.prog 9 #[.pointer hv, .int .u64 wv] H R
abbrev lists_table.C  (H : Array Obj) (R : Value → Array Obj → Prop) : Prop := HC Tryz.prog 10 #[] H R
abbrev obj_Heap_Cons.C (hv : Option Addr) (car : Int) (cdr : Int) (H : Array Obj) (R : Value → Array Obj → Prop) : Prop := HC Tryz.prog 11 #[.pointer hv, .int .u64 car, .int .u64 cdr] H R
abbrev obj_Heap_Cdr.C (hv : Option Addr) (wv : Int) (H : Array Obj) (R : Value → Array Obj → Prop) : Prop := HC Tryz.prog 12 #[.pointer hv, .int .u64 wv] H R
abbrev lists_steps.C (hv : Option Addr) (wv : Int) (lB : Option Addr) (lN : Nat) (lC : Nat) (H : Array Obj) (R : Value → Array Obj → Prop) : Prop := HC Tryz.prog 13 #[.pointer hv, .int .u64 wv, .slice lB lN lC] H R
abbrev lists_done.C (ev : Int) (H : Array Obj) (R : Value → Array Obj → Prop) : Prop := HC Tryz.prog 14 #[.int .i64 ev] H R
abbrev obj_Heap_SetCar.C (hv : Option Addr) (wv : Int) (v : Int) (H : Array Obj) (R : Value → Array Obj → Prop) : Prop := HC Tryz.prog 15 #[.pointer hv, .int .u64 wv, .int .u64 v] H R
abbrev obj_Heap_SetCdr.C (hv : Option Addr) (wv : Int) (v : Int) (H : Array Obj) (R : Value → Array Obj → Prop) : Prop := HC Tryz.prog 16 #[.pointer hv, .int .u64 wv, .int .u64 v] H R
abbrev lists_elements.C (hv : Option Addr) (nv : Int) (wv : Int) (H : Array Obj) (R : Value → Array Obj → Prop) : Prop := HC Tryz.prog 17 #[.pointer hv, .int .i64 nv, .int .u64 wv] H R
abbrev lists_row.C (hv : Option Addr) (tail : Int) (lB : Option Addr) (lN : Nat) (lC : Nat) (H : Array Obj) (R : Value → Array Obj → Prop) : Prop := HC Tryz.prog 18 #[.pointer hv, .int .u64 tail, .slice lB lN lC] H R
abbrev lists_joins.C (hv : Option Addr) (argsB : Option Addr) (argsN : Nat) (argsC : Nat) (H : Array Obj) (R : Value → Array Obj → Prop) : Prop := HC Tryz.prog 19 #[.pointer hv, .slice argsB argsN argsC] H R
abbrev lists_tail.C (hv : Option Addr) (wv : Int) (nv : Int) (H : Array Obj) (R : Value → Array Obj → Prop) : Prop := HC Tryz.prog 20 #[.pointer hv, .int .u64 wv, .int .u64 nv] H R
abbrev lists_find.C (hv : Option Addr) (kind : Int) (x : Int) (l : Int) (cars : Bool) (H : Array Obj) (R : Value → Array Obj → Prop) : Prop := HC Tryz.prog 21 #[.pointer hv, .int .i64 kind, .int .u64 x, .int .u64 l, .bool cars] H R
abbrev lists_told.C (isv : Bool) (ev : Int) (H : Array Obj) (R : Value → Array Obj → Prop) : Prop := HC Tryz.prog 22 #[.bool isv, .int .i64 ev] H R
abbrev lists_judge_same.C (j : Option Addr) (kind : Int) (a : Int) (b : Int) (H : Array Obj) (R : Value → Array Obj → Prop) : Prop := HC Tryz.prog 23 #[.pointer j, .int .i64 kind, .int .u64 a, .int .u64 b] H R
abbrev lists_asks.C (hv : Option Addr) (nv : Int) (wv : Int) (H : Array Obj) (R : Value → Array Obj → Prop) : Prop := HC Tryz.prog 24 #[.pointer hv, .int .i64 nv, .int .u64 wv] H R
abbrev card_New.C (limit : Int) (H : Array Obj) (R : Value → Array Obj → Prop) : Prop := HC Tryz.prog 25 #[.int .i64 limit] H R
abbrev space_Space_none.C (s : Option Addr) (H : Array Obj) (R : Value → Array Obj → Prop) : Prop := HC Tryz.prog 26 #[.pointer s] H R
abbrev seg_Mem_Taken.C (m : Option Addr) (gensB : Option Addr) (gensN : Nat) (gensC : Nat) (H : Array Obj) (R : Value → Array Obj → Prop) : Prop := HC Tryz.prog 27 #[.pointer m, .slice gensB gensN gensC] H R
abbrev seg_Mem_Seg.C (m : Option Addr) (seg : Int) (H : Array Obj) (R : Value → Array Obj → Prop) : Prop := HC Tryz.prog 28 #[.pointer m, .int .i64 seg] H R
abbrev obj_Heap_half.C (hv : Option Addr) (wv : Int) (i : Int) (H : Array Obj) (R : Value → Array Obj → Prop) : Prop := HC Tryz.prog 29 #[.pointer hv, .int .u64 wv, .int .i64 i] H R
abbrev lists_table_1.C (name : ByteArray) (nv : Int) (H : Array Obj) (R : Value → Array Obj → Prop) : Prop := HC Tryz.prog 30 #[.string name, .int .i64 nv] H R
abbrev obj_Heap_put.C (hv : Option Addr) (kind : Int) (tag : Int) (lB : Option Addr) (lN : Nat) (lC : Nat) (H : Array Obj) (R : Value → Array Obj → Prop) : Prop := HC Tryz.prog 31 #[.pointer hv, .int .i64 kind, .int .i64 tag, .slice lB lN lC] H R
abbrev lists_List.C (hv : Option Addr) (wv : Int) (H : Array Obj) (R : Value → Array Obj → Prop) : Prop := HC Tryz.prog 33 #[.pointer hv, .int .u64 wv] H R
abbrev lists_truth.C (isv : Bool) (H : Array Obj) (R : Value → Array Obj → Prop) : Prop := HC Tryz.prog 34 #[.bool isv] H R
abbrev word_Fix.C (x : Int) (H : Array Obj) (R : Value → Array Obj → Prop) : Prop := HC Tryz.prog 35 #[.int .i64 x] H R
abbrev slices_Reverse_api_Word_api_Word.C (sB : Option Addr) (sN : Nat) (sC : Nat) (H : Array Obj) (R : Value → Array Obj → Prop) : Prop := HC Tryz.prog 36 #[.slice sB sN sC] H R
abbrev slices_Backward_api_Word_api_Word.C (sB : Option Addr) (sN : Nat) (sC : Nat) (H : Array Obj) (R : Value → Array Obj → Prop) : Prop := HC Tryz.prog 37 #[.slice sB sN sC] H R
abbrev lists_pairs.C (hv : Option Addr) (wv : Int) (H : Array Obj) (R : Value → Array Obj → Prop) : Prop := HC Tryz.prog 39 #[.pointer hv, .int .u64 wv] H R
abbrev obj_Heap_Pair.C (hv : Option Addr) (wv : Int) (H : Array Obj) (R : Value → Array Obj → Prop) : Prop := HC Tryz.prog 40 #[.pointer hv, .int .u64 wv] H R
abbrev slices_Contains_int_int.C (sB : Option Addr) (sN : Nat) (sC : Nat) (v : Int) (H : Array Obj) (R : Value → Array Obj → Prop) : Prop := HC Tryz.prog 43 #[.slice sB sN sC, .int .i64 v] H R
abbrev space_New.C (limit : Int) (H : Array Obj) (R : Value → Array Obj → Prop) : Prop := HC Tryz.prog 45 #[.int .i64 limit] H R
abbrev slices_SortFunc_int_int.C (xB : Option Addr) (xN : Nat) (xC : Nat) (cmp : Value) (H : Array Obj) (R : Value → Array Obj → Prop) : Prop := HC Tryz.prog 46 #[.slice xB xN xC, cmp] H R
abbrev seg_Mem_Taken_1.C (a : Int) (b : Int) (cap0 : Option Addr) (H : Array Obj) (R : Value → Array Obj → Prop) : Prop := HC Tryz.prog 47 #[.int .i64 a, .int .i64 b, .pointer cap0] H R
abbrev cmp_Compare_int.C (x : Int) (y : Int) (H : Array Obj) (R : Value → Array Obj → Prop) : Prop := HC Tryz.prog 48 #[.int .i64 x, .int .i64 y] H R
abbrev seg_Mem_at.C (m : Option Addr) (seg : Int) (H : Array Obj) (R : Value → Array Obj → Prop) : Prop := HC Tryz.prog 49 #[.pointer m, .int .i64 seg] H R
abbrev obj_Heap_pair.C (hv : Option Addr) (wv : Int) (H : Array Obj) (R : Value → Array Obj → Prop) : Prop := HC Tryz.prog 50 #[.pointer hv, .int .u64 wv] H R
abbrev seg_Mem_Read.C (m : Option Addr) (addr : Int) (H : Array Obj) (R : Value → Array Obj → Prop) : Prop := HC Tryz.prog 51 #[.pointer m, .int .i64 addr] H R
abbrev obj_Heap_none.C (hv : Option Addr) (H : Array Obj) (R : Value → Array Obj → Prop) : Prop := HC Tryz.prog 52 #[.pointer hv] H R
abbrev space_Space_Alloc.C (s : Option Addr) (gen : Int) (kind : Int) (nv : Int) (H : Array Obj) (R : Value → Array Obj → Prop) : Prop := HC Tryz.prog 53 #[.pointer s, .int .i64 gen, .int .i64 kind, .int .i64 nv] H R
abbrev seg_Mem_Write.C (m : Option Addr) (addr : Int) (wv : Int) (H : Array Obj) (R : Value → Array Obj → Prop) : Prop := HC Tryz.prog 54 #[.pointer m, .int .i64 addr, .int .u64 wv] H R
abbrev word_At.C (tag : Int) (addr : Int) (H : Array Obj) (R : Value → Array Obj → Prop) : Prop := HC Tryz.prog 55 #[.int .i64 tag, .int .i64 addr] H R
abbrev slices_Backward_api_Word_api_Word_1.C (yield : Value) (cap0 : Option Addr) (H : Array Obj) (R : Value → Array Obj → Prop) : Prop := HC Tryz.prog 57 #[yield, .pointer cap0] H R
abbrev word_Tag.C (wv : Int) (H : Array Obj) (R : Value → Array Obj → Prop) : Prop := HC Tryz.prog 58 #[.int .u64 wv] H R
abbrev lists_pairs_1.C (yield : Value) (cap0 : Option Addr) (cap1 : Option Addr) (H : Array Obj) (R : Value → Array Obj → Prop) : Prop := HC Tryz.prog 59 #[yield, .pointer cap0, .pointer cap1] H R
abbrev slices_Index_int_int.C (sB : Option Addr) (sN : Nat) (sC : Nat) (v : Int) (H : Array Obj) (R : Value → Array Obj → Prop) : Prop := HC Tryz.prog 66 #[.slice sB sN sC, .int .i64 v] H R
abbrev seg_New.C (limit : Int) (H : Array Obj) (R : Value → Array Obj → Prop) : Prop := HC Tryz.prog 68 #[.int .i64 limit] H R
abbrev cmp_isNaN_int.C (x : Int) (H : Array Obj) (R : Value → Array Obj → Prop) : Prop := HC Tryz.prog 71 #[.int .i64 x] H R
abbrev obj_Heap_at.C (hv : Option Addr) (wv : Int) (tag : Int) (kind : Int) (H : Array Obj) (R : Value → Array Obj → Prop) : Prop := HC Tryz.prog 72 #[.pointer hv, .int .u64 wv, .int .i64 tag, .int .i64 kind] H R
abbrev seg_Mem_word.C (m : Option Addr) (addr : Int) (H : Array Obj) (R : Value → Array Obj → Prop) : Prop := HC Tryz.prog 73 #[.pointer m, .int .i64 addr] H R
abbrev space_may.C (gen : Int) (kind : Int) (nv : Int) (H : Array Obj) (R : Value → Array Obj → Prop) : Prop := HC Tryz.prog 74 #[.int .i64 gen, .int .i64 kind, .int .i64 nv] H R
abbrev space_Space_Current.C (s : Option Addr) (gen : Int) (kind : Int) (H : Array Obj) (R : Value → Array Obj → Prop) : Prop := HC Tryz.prog 75 #[.pointer s, .int .i64 gen, .int .i64 kind] H R
abbrev seg_Mem_Bump.C (m : Option Addr) (seg : Int) (nv : Int) (H : Array Obj) (R : Value → Array Obj → Prop) : Prop := HC Tryz.prog 76 #[.pointer m, .int .i64 seg, .int .i64 nv] H R
abbrev seg_Mem_Take.C (m : Option Addr) (gen : Int) (kind : Int) (H : Array Obj) (R : Value → Array Obj → Prop) : Prop := HC Tryz.prog 77 #[.pointer m, .int .i64 gen, .int .i64 kind] H R
abbrev word_place.C (tag : Int) (H : Array Obj) (R : Value → Array Obj → Prop) : Prop := HC Tryz.prog 78 #[.int .i64 tag] H R
abbrev word_Addr.C (wv : Int) (H : Array Obj) (R : Value → Array Obj → Prop) : Prop := HC Tryz.prog 102 #[.int .u64 wv] H R
abbrev word_May.C (wv : Int) (H : Array Obj) (R : Value → Array Obj → Prop) : Prop := HC Tryz.prog 108 #[.int .u64 wv] H R
abbrev word_parts.C (wv : Int) (H : Array Obj) (R : Value → Array Obj → Prop) : Prop := HC Tryz.prog 109 #[.int .u64 wv] H R
abbrev word_letter.C (c : Int) (H : Array Obj) (R : Value → Array Obj → Prop) : Prop := HC Tryz.prog 117 #[.int .u64 c] H R
abbrev word_parts_1.C (fromv : Int) (bits : Int) (cap0 : Option Addr) (H : Array Obj) (R : Value → Array Obj → Prop) : Prop := HC Tryz.prog 118 #[.int .i64 fromv, .int .i64 bits, .pointer cap0] H R
end Go.Proofs.YthlohokmnajpoaaGreat
