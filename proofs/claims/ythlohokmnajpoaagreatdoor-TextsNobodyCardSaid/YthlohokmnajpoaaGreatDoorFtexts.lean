/-
 Written by a program of mine (gen.py): for functions of this translation a predicate transformer over heaps (.pt), and the proof that it is sound for the call (.link).
-/
import Derived.Test.YthlohokmnajpoaaGreatDoorFnsC
set_option linter.unusedSimpArgs false
set_option linter.unusedVariables false
set_option maxHeartbeats 1000000
noncomputable section
namespace Go.Proofs.YthlohokmnajpoaaGreatDoor
open Go
/-! moraine/texts.Apply -/
namespace texts_Apply
def kk0 := Func.code Tryz.f28
def kk1 := Code.fa kk0
def kk2 := Code.fb kk0
def kk3 := Code.fa kk2
def kk4 := Code.fb kk2
def kk5 := Code.fa kk3
def kk6 := Code.fb kk3
def kk7 := Code.fa kk6
def kk8 := Code.fb kk6
def kk9 := Code.fa kk7
def kk10 := Code.fb kk7
def kk11 := Code.fa kk4
def kk12 := Code.fb kk4
def kk13 := Code.fa kk12
def kk14 := Code.fb kk12
def kk15 := Code.fa kk13
def kk16 := Code.fb kk13
def kk17 := Code.fa kk16
def kk18 := Code.fb kk16
def kk19 := Code.fa kk17
def kk20 := Code.fb kk17
def kk21 := Code.fa kk14
def kk22 := Code.fb kk14
def kk23 := Code.fa kk21
def kk24 := Code.fb kk21
def kk25 := Code.fa kk24
def kk26 := Code.fa kk25
def kk27 := Code.fa kk26
def kk28 := Code.fb kk26
def kk29 := Code.fa kk28
def kk30 := Code.fb kk28
def kk31 := Code.fa kk29
def kk32 := Code.fb kk29
def kk33 := Code.fa kk30
def kk34 := Code.fb kk30
def kk35 := Code.fa kk33
def kk36 := Code.fa kk35
def kk37 := Code.fb kk35
def kk38 := Code.fa kk37
def kk39 := Code.fb kk37
def kk40 := Code.fa kk39
def kk41 := Code.fb kk39
def kk42 := Code.fa kk40
def kk43 := Code.fb kk40
def kk44 := Code.fa kk22
def kk45 := Code.fb kk22
def kk46 := Code.fa kk44
def kk47 := Code.fa kk46
def kk48 := Code.fb kk46
def kk49 := Code.fa kk48
def kk50 := Code.fb kk48
def kk51 := Code.fa kk49
def kk52 := Code.fb kk49
def kk53 := Code.fa kk50
def kk54 := Code.fb kk50
def kk55 := Code.fa kk54
def kk56 := Code.fb kk54
def kk57 := Code.fa kk55
def kk58 := Code.fb kk55
def kk59 := Code.fa kk58
def kk60 := Code.fb kk58
def kk61 := Code.fa kk56
def kk62 := Code.fb kk56
def kk63 := Code.fa kk62
def kk64 := Code.fb kk62
def kk65 := Code.fa kk63
def kk66 := Code.fb kk63
def kk67 := Code.fa kk64
def kk68 := Code.fb kk64
def kk69 := Code.fa kk68
def kk70 := Code.fb kk68
def kk71 := Code.fa kk69
def kk72 := Code.fb kk69
def kk73 := Code.fa kk72
def kk74 := Code.fb kk72
def kk75 := Code.fa kk73
def kk76 := Code.fb kk73
def kk77 := Code.fa kk76
def kk78 := Code.fa kk77
def kk79 := Code.fa kk78
def kk80 := Code.fb kk78
def kk81 := Code.fa kk80
def kk82 := Code.fb kk80
def kk83 := Code.fa kk81
def kk84 := Code.fb kk81
def kk85 := Code.fa kk82
def kk86 := Code.fb kk82
def kk87 := Code.fa kk85
def kk88 := Code.fa kk87
def kk89 := Code.fb kk87
def kk90 := Code.fa kk74
def kk91 := Code.fb kk74
def kk92 := Code.fa kk70
def kk93 := Code.fb kk70
def kk94 := Code.fa kk93
def kk95 := Code.fb kk93
def kk96 := Code.fa kk94
def kk97 := Code.fb kk94
def kk98 := Code.fa kk95
def kk99 := Code.fb kk95
def kk100 := Code.fa kk99
def kk101 := Code.fb kk99
def kk102 := Code.fa kk100
def kk103 := Code.fb kk100
def kk104 := Code.fa kk101
def kk105 := Code.fb kk101
def kk106 := Code.fa kk105
def kk107 := Code.fb kk105
def kk108 := Code.fa kk106
def kk109 := Code.fb kk106
def kk110 := Code.fa kk109
def kk111 := Code.fb kk109
def kk112 := Code.fa kk107
def kk113 := Code.fb kk107
def kk114 := Code.fa kk113
def kk115 := Code.fb kk113
def kk116 := Code.fa kk114
def kk117 := Code.fb kk114
def kk118 := Code.fa kk117
def kk119 := Code.fb kk117
def kk120 := Code.fa kk115
def kk121 := Code.fb kk115
def kk122 := Code.fa kk121
def kk123 := Code.fb kk121
def kk124 := Code.fa kk122
def kk125 := Code.fb kk122
def kk126 := Code.fa kk45
def kk127 := Code.fb kk45
end texts_Apply
set_option maxRecDepth 100000 in def texts_Apply.pt (hv : Option Addr) (nv : Int) (argsB : Option Addr) (argsN : Nat) (argsC : Nat) (H : Array Obj) (R : Value → Array Obj → Prop) : Prop :=
 onPtr hv (
 R (.tuple #[.int .u64 0, .int .i64 1]) H) (fun d =>
 ∃ x : Option Addr, hat H d = some (.pointer x) ∧
 onPtr x (
 R (.tuple #[.int .u64 0, .int .i64 1]) H) (fun xA =>
 if ((decide (nv < 0)) || (decide (nv ≥ 32))) = true then (
 R (.tuple #[.int .u64 0, .int .i64 1]) H)
 else
 texts_table.C  H (fun v H1 => ∃ bm : List Value, v = .agg (bm).toArray ∧ bm.length = 128 ∧ 
 ∃ o : ByteArray, ∃ j : Int, ∃ m : Int, ∃ ad : Option Addr, ∃ ac : Nat, ∃ ab : Nat, ((0 ≤ nv ∧ nv < (32 : Int)) ∧ (((bm : List Value).toArray.toList).drop (Int.toNat nv * 4)).take 4 = [.string o, .int .i64 j, .int .i64 m, .slice ad ac ab]) ∧
 ∀ (b : Nat) (H2 : Array Obj), b = H1.size → H2 = H1.push (.cells #[.string (ByteArray.mk #[]), .int .i64 0, .int .i64 0, .slice none 0 0] 125) →
 (CanPuts H2 (Addr.mk b 0 none) 0 4) ∧ ∀ H3 : Array Obj, H3 = hputs H2 (Addr.mk b 0 none) [.string o, .int .i64 j, .int .i64 m, .slice ad ac ab] 0 →
 ∃ J : Bool → Array Obj → Prop, (
 ∃ ah : Int, hat H3 ((Addr.mk b 0 none).add 1) = some (.int .i64 ah) ∧
 if (argsN : Int) < ah then (
 J true H3)
 else
 ∃ ai : Int, hat H3 ((Addr.mk b 0 none).add 2) = some (.int .i64 ai) ∧
 if ai ≥ 0 then (
 ∃ av : Int, hat H3 ((Addr.mk b 0 none).add 2) = some (.int .i64 av) ∧
 J (decide ((argsN : Int) > av)) H3)
 else
 J false H3) ∧ ∀ (bd : Bool) (H4 : Array Obj), J bd H4 →
 if bd = true then (
 R (.tuple #[.int .u64 0, .int .i64 5]) H4)
 else
 ∃ (b8 : Int → Array Obj → Prop) (m27 : Int → Array Obj → Nat), b8 0 H4 ∧ ∀ (f : Int) (H5 : Array Obj), b8 f H5 →
 if f < (argsN : Int) then (
 ∃ e : Addr, argsB = some e ∧
 ((0 : Int) ≤ f ∧ f < (argsN : Int)) ∧
 ∃ ag : Int, hat H5 (e.add (Int.toNat f * 1)) = some (.int .u64 ag) ∧
 ∃ xB : Option Addr, ∃ xN : Nat, ∃ xC : Nat, hat H5 ((Addr.mk b 0 none).add 3) = some (.slice xB xN xC) ∧
 ∃ b1 : Option Addr, ∃ l : Nat, ∃ b6 : Nat, hat H5 ((Addr.mk b 0 none).add 3) = some (.slice b1 l b6) ∧
 ∃ be : Addr, xB = some be ∧
 ((0 : Int) ≤ (if (IntKind.wrap .i64 ((l : Int) - 1)) < f then (IntKind.wrap .i64 ((l : Int) - 1)) else f) ∧ (if (IntKind.wrap .i64 ((l : Int) - 1)) < f then (IntKind.wrap .i64 ((l : Int) - 1)) else f) < (xN : Int)) ∧
 ∃ bv : Int, hat H5 (be.add (Int.toNat (if (IntKind.wrap .i64 ((l : Int) - 1)) < f then (IntKind.wrap .i64 ((l : Int) - 1)) else f) * 1)) = some (.int .i64 bv) ∧
 texts_is.C (some d) ag bv H5 (fun db H6 => ∃ au : Bool, db = .bool au ∧ 
 if au = true then (
 (b8 (IntKind.wrap .i64 (f + 1)) H6 ∧ m27 (IntKind.wrap .i64 (f + 1)) H6 < m27 f H5))
 else
 R (.tuple #[.int .u64 0, .int .i64 3]) H6))
 else
 if nv ≤ 2 then (
 ∃ y : Addr, argsB = some y ∧
 ((0 : Int) ≤ 0 ∧ 0 < (argsN : Int)) ∧
 ∃ bt : Int, hat H5 (y.add (Int.toNat 0 * 1)) = some (.int .u64 bt) ∧
 texts_asks.C (some d) nv bt H5 (fun cu H7 => ∃ ra : Int, ∃ rb : Int, cu = .tuple #[.int .u64 ra, .int .i64 rb] ∧ 
 R (.tuple #[.int .u64 ra, .int .i64 rb]) H7))
 else
 if nv = 4 then (
 ∃ aa : Addr, argsB = some aa ∧
 ((0 : Int) ≤ 0 ∧ 0 < (argsN : Int)) ∧
 ∃ bz : Int, hat H5 (aa.add (Int.toNat 0 * 1)) = some (.int .u64 bz) ∧
 word_Int.C bz H5 (fun cs H8 => ∃ ae : Int, ∃ b9 : Bool, cs = .tuple #[.int .i64 ae, .bool b9] ∧ 
 word_Char.C (IntKind.wrap .i32 (if (-1) < (if 1073741824 < ae then 1073741824 else ae) then (if 1073741824 < ae then 1073741824 else ae) else (-1))) H8 (fun cy H9 => ∃ a3 : Int, ∃ a7 : Int, cy = .tuple #[.int .u64 a3, .int .i64 a7] ∧ 
 R (.tuple #[.int .u64 a3, .int .i64 a7]) H9)))
 else
 if nv ≤ 9 then (
 ∃ q : Addr, argsB = some q ∧
 ((0 : Int) ≤ 0 ∧ 0 < (argsN : Int)) ∧
 ∃ bx : Int, hat H5 (q.add (Int.toNat 0 * 1)) = some (.int .u64 bx) ∧
 ∀ (bu : Nat) (H10 : Array Obj), bu = H5.size → H10 = H5.push (.cells #[.int .u64 bx] 35) →
 texts_letters.C (some (Addr.mk bu 0 none)) 1 1 H10 (fun c6 ck => ∃ b4 : Option Addr, ∃ a4 : Nat, ∃ bi : Nat, c6 = .slice b4 a4 bi ∧ 
 ∃ ak : Addr, b4 = some ak ∧
 ((0 : Int) ≤ 0 ∧ 0 < (a4 : Int)) ∧
 ∃ bw : Int, hat ck (ak.add (Int.toNat 0 * 1)) = some (.int .i32 bw) ∧
 texts_ofChar.C nv bw ck (fun c0 c8 => ∃ az : Int, ∃ a2 : Int, c0 = .tuple #[.int .u64 az, .int .i64 a2] ∧ 
 R (.tuple #[.int .u64 az, .int .i64 a2]) c8)))
 else
 if nv ≤ 14 then (
 texts_letters.C argsB argsN argsC H5 (fun cw ct => ∃ af : Option Addr, ∃ g : Nat, ∃ p : Nat, cw = .slice af g p ∧ 
 ∃ (b7 : (Option Addr) → Nat → Nat → Int → Array Obj → Prop) (m79 : (Option Addr) → Nat → Nat → Int → Array Obj → Nat), b7 none 0 0 0 ct ∧ ∀ (lB : Option Addr) (lN : Nat) (lC : Nat) (s130 : Int) (H14 : Array Obj), b7 lB lN lC s130 H14 →
 if s130 < (g : Int) then (
 ∃ u : Addr, af = some u ∧
 ((0 : Int) ≤ s130 ∧ s130 < (g : Int)) ∧
 ∃ aj : Int, hat H14 (u.add (Int.toNat s130 * 1)) = some (.int .i32 aj) ∧
 ∀ (b0 : Nat) (H15 : Array Obj), b0 = H14.size → H15 = H14.push (.cells #[.int .i32 aj] 21) →
 ∀ (bs : Nat) (H16 : Array Obj), bs = H15.size → H16 = H15.push (.cells #[.slice (some (Addr.mk b0 0 none)) 1 1] 65) →
 appendK 1 65 24 [.slice none 0 0] lB lN lC (some (Addr.mk bs 0 none)) 1 H16 (fun ap bh cl =>
 (b7 ap (lN + 1) bh (IntKind.wrap .i64 (s130 + 1)) cl ∧ m79 ap (lN + 1) bh (IntKind.wrap .i64 (s130 + 1)) cl < m79 lB lN lC s130 H14)))
 else
 texts_rises.C nv lB lN lC H14 (fun cp da => ∃ br : Bool, cp = .bool br ∧ 
 texts_truth.C br da (fun cd c5 => ∃ ba : Int, ∃ ay : Int, cd = .tuple #[.int .u64 ba, .int .i64 ay] ∧ 
 R (.tuple #[.int .u64 ba, .int .i64 ay]) c5))))
 else
 if nv = 15 then (
 texts_makes.C (some d) argsB argsN argsC H5 (fun cb cq => ∃ a1 : Int, ∃ bb : Int, cb = .tuple #[.int .u64 a1, .int .i64 bb] ∧ 
 R (.tuple #[.int .u64 a1, .int .i64 bb]) cq))
 else
 if nv = 16 then (
 texts_letters.C argsB argsN argsC H5 (fun cm cr => ∃ bq : Option Addr, ∃ bk : Nat, ∃ bo : Nat, cm = .slice bq bk bo ∧ 
 texts_made.C (some d) bq bk bo cr (fun cj c1 => ∃ a9 : Int, ∃ a6 : Int, cj = .tuple #[.int .u64 a9, .int .i64 a6] ∧ 
 R (.tuple #[.int .u64 a9, .int .i64 a6]) c1)))
 else
 if nv = 29 then (
 ∃ z : Addr, argsB = some z ∧
 ((0 : Int) ≤ 0 ∧ 0 < (argsN : Int)) ∧
 ∃ a5 : Int, hat H5 (z.add (Int.toNat 0 * 1)) = some (.int .u64 a5) ∧
 syms_Name.C (some d) a5 H5 (fun cf c9 => ∃ aw : ByteArray, ∃ ca : Int, cf = .tuple #[.string aw, .int .i64 ca] ∧ 
 obj_Heap_String.C (some d) aw c9 (fun ce co => ∃ a8 : Int, ∃ ax : Int, ce = .tuple #[.int .u64 a8, .int .i64 ax] ∧ 
 R (.tuple #[.int .u64 a8, .int .i64 ax]) co)))
 else
 if ((nv == 27) || (nv == 31)) = true then (
 ∃ s : Addr, argsB = some s ∧
 ((0 : Int) ≤ 0 ∧ 0 < (argsN : Int)) ∧
 ∃ bc : Int, hat H5 (s.add (Int.toNat 0 * 1)) = some (.int .u64 bc) ∧
 lists_List.C (some d) bc H5 (fun cn cx => ∃ bg : Option Addr, ∃ bj : Nat, ∃ bl : Nat, ∃ b2 : Bool, cn = .tuple #[.slice bg bj bl, .bool b2] ∧ 
 texts_ofList.C (some d) nv bg bj bl cx (fun cg cv => ∃ an : Int, ∃ ao : Int, cg = .tuple #[.int .u64 an, .int .i64 ao] ∧ 
 R (.tuple #[.int .u64 an, .int .i64 ao]) cv)))
 else
 if nv = 30 then (
 ∃ r : Addr, argsB = some r ∧
 ((0 : Int) ≤ 0 ∧ 0 < (argsN : Int)) ∧
 ∃ a0 : Int, hat H5 (r.add (Int.toNat 0 * 1)) = some (.int .u64 a0) ∧
 texts_words.C (some d) a0 H5 (fun ch c3 => ∃ bp : Option Addr, ∃ bf : Nat, ∃ bn : Nat, ch = .slice bp bf bn ∧ 
 texts_row.C (some d) bp bf bn c3 (fun ci cz => ∃ al : Int, ∃ am : Int, ci = .tuple #[.int .u64 al, .int .i64 am] ∧ 
 R (.tuple #[.int .u64 al, .int .i64 am]) cz)))
 else
 texts_ofText.C (some d) nv argsB argsN argsC H5 (fun cc c7 => ∃ aq : Int, ∃ ar : Int, cc = .tuple #[.int .u64 aq, .int .i64 ar] ∧ 
 R (.tuple #[.int .u64 aq, .int .i64 ar]) c7))))
namespace texts_Apply
set_option maxRecDepth 100000 in
theorem link {hv : Option Addr} {nv : Int} {argsB : Option Addr} {argsN : Nat} {argsC : Nat} {H : Array Obj} {R : Value → Array Obj → Prop} (h : pt hv nv argsB argsN argsC H R) : C hv nv argsB argsN argsC H R := by
 refine S_enter (fn := Tryz.f28) (c := kk0) 218 Tryz.func28 (by kernel_rfl) (by kernel_rfl) (Nat.le_of_ble_eq_true (by kernel_rfl)) ?_
 intro w0 Q hQ
 unfold pt at h
 refine T_su [(0, vp hv), (1, vi nv), (2, vs argsB argsN argsC)] ?_
 refine T_sr 0 kk1 kk2 ?_
 refine T_ne 2 [(0, vp hv), (1, vi nv), (2, vs argsB argsN argsC)] ?_
 refine T_s kk3 kk4 ?_
 refine T_sr 1 kk5 kk6 ?_
 refine T_n 1 [(0, vp hv), (1, vi nv), (2, vs argsB argsN argsC), (20, vp hv)] ?_
 rcases hv with _ | d
 ·rw [onPtr_none] at h
  refine T_ne 16 [(0, vp none), (1, vi nv), (2, vs argsB argsN argsC), (36, .bool true)] ?_
  refine T_t 36 kk7 kk8 ?_
  refine T_sr 2 kk9 kk10 ?_
  refine T_ne 2 [(6, vu 0), (7, vi 1)] ?_
  refine S_ret (by kernel_rfl) ?_
  show At _ _ _ _ _ (Q .ret)
  exact S_done (fn := Tryz.f28) [vu 0, vi 1] hQ (show ResOK _ _ _ [.tmp 6, .tmp 7] _ from .tmp (by kernel_rfl) (.tmp (by kernel_rfl) (.nil))) h
 ·rw [onPtr_some] at h
  refine T_n 5 [(0, vp (some d)), (1, vi nv), (2, vs argsB argsN argsC), (22, .bool false), (25, vp (some d))] ?_
  obtain ⟨x, q1, h⟩ := h
  refine T_l (some 26) 48 q1 [(0, vp (some d)), (1, vi nv), (2, vs argsB argsN argsC), (22, .bool false), (26, vp x)] ?_
  rcases x with _ | xA
  ·rw [onPtr_none] at h
   refine T_ne 10 [(0, vp (some d)), (1, vi nv), (2, vs argsB argsN argsC), (36, .bool true)] ?_
   refine T_t 36 kk7 kk8 ?_
   refine T_sr 2 kk9 kk10 ?_
   refine T_ne 2 [(6, vu 0), (7, vi 1)] ?_
   refine S_ret (by kernel_rfl) ?_
   show At _ _ _ _ _ (Q .ret)
   exact S_done (fn := Tryz.f28) [vu 0, vi 1] hQ (show ResOK _ _ _ [.tmp 6, .tmp 7] _ from .tmp (by kernel_rfl) (.tmp (by kernel_rfl) (.nil))) h
  ·rw [onPtr_some] at h
   refine T_n 7 [(0, vp (some d)), (1, vi nv), (2, vs argsB argsN argsC), (33, .bool (decide (nv < 0)))] ?_
   refine N_cut [(0, vp (some d)), (1, vi nv), (2, vs argsB argsN argsC), (36, .bool ((decide (nv < 0)) || (decide (nv ≥ 32))))] ?_ ?_
   ·refine S_then ?_
    by_cases c4 : ((decide (nv < 0)) || (decide (nv ≥ 32))) = true
    ·rw [if_pos c4] at h
     have b5 : ((decide (nv < 0)) || (decide (nv ≥ 32))) = true := c4
     refine S_env [(0, vp (some d)), (1, vi nv), (2, vs argsB argsN argsC), (36, .bool true)] (by simp only [b5, Bool.not_true, Bool.not_false]) ?_
     clear b5
     refine T_t 36 kk7 kk8 ?_
     refine T_sr 2 kk9 kk10 ?_
     refine T_ne 2 [(6, vu 0), (7, vi 1)] ?_
     refine S_ret (by kernel_rfl) ?_
     show At _ _ _ _ _ (Q .ret)
     exact S_done (fn := Tryz.f28) [vu 0, vi 1] hQ (show ResOK _ _ _ [.tmp 6, .tmp 7] _ from .tmp (by kernel_rfl) (.tmp (by kernel_rfl) (.nil))) h
    ·rw [if_neg c4] at h
     have b5 : ((decide (nv < 0)) || (decide (nv ≥ 32))) = false := eq_false_of_ne_true c4
     refine S_env [(0, vp (some d)), (1, vi nv), (2, vs argsB argsN argsC), (36, .bool false)] (by simp only [b5, Bool.not_true, Bool.not_false]) ?_
     clear b5
     refine T_f 36 kk7 kk8 ?_
     refine T_kt ?_
     refine T_sr 3 kk11 kk12 ?_
     refine T_nu [(0, vp (some d)), (1, vi nv), (2, vs argsB argsN argsC)] ?_
     refine N_call (some 37) 56 #[] (fun _=>by kernel_rfl) h ?_; clear h
     rintro v H1 ⟨bm, rfl, hl, h⟩
     refine ⟨[(0, vp (some d)), (1, vi nv), (2, vs argsB argsN argsC), (37, .agg (bm).toArray)], pk, ?_⟩
     refine T_n 1 [(0, vp (some d)), (1, vi nv), (2, vs argsB argsN argsC), (37, .agg (bm).toArray), (38, vi nv)] ?_
     obtain ⟨o, j, m, ad, ac, ab, q6, h⟩ := h
     refine T_v (some 39) (indexN 126 (.agg (bm).toArray) (vi nv)) (.agg #[.string o, vi j, vi m, vs ad ac ab]) (fun w _ => indexAggs_run (P := Tryz.prog) (t := 126) (elem := 125) (n := 32) (sz := 4) Tryz.underlying126 (fun _=>by kernel_rfl) (fun _=>by kernel_rfl) q6.1.1 q6.1.2 q6.2 w) [(0, vp (some d)), (1, vi nv), (2, vs argsB argsN argsC), (39, .agg #[.string o, vi j, vi m, vs ad ac ab])] ?_
     refine N_new (some 8) (fun b => vp (pa b)) (.cells #[.string (ByteArray.mk #[]), vi 0, vi 0, vs none 0 0] 125) (fun _=>by kernel_rfl) ?_
     intro b H2 e7 e8
     replace h := h b H2 e7 e8
     refine ⟨[(0, vp (some d)), (1, vi nv), (2, vs argsB argsN argsC), (8, vp (pa b)), (39, .agg #[.string o, vi j, vi m, vs ad ac ab])], pk, ?_⟩
     obtain ⟨q10, h⟩ := h
     refine N_skipop none (storeN 125 (vp (pa b)) (.agg #[.string o, vi j, vi m, vs ad ac ab])) (fun Hz => Hz = hputs H2 (Addr.mk b 0 none) [.string o, vi j, vi m, vs ad ac ab] 0) (fun _=>by kernel_rfl) (ss_store [.string o, vi j, vi m, vs ad ac ab] 4 (by kernel_rfl) (by kernel_rfl) (fun _=>by kernel_rfl) (by kernel_rfl) q10) ?_
     intro H3 e9
     replace h := h H3 e9
     refine ⟨[(0, vp (some d)), (1, vi nv), (2, vs argsB argsN argsC), (8, vp (pa b))], pk, ?_⟩
     refine T_e ?_
     refine T_s kk13 kk14 ?_
     refine T_s kk15 kk16 ?_
     obtain ⟨J, h, j12⟩ := h
     refine S_join (σ := Bool) (fun s_ => [(0, vp (some d)), (1, vi nv), (2, vs argsB argsN argsC), (8, vp (pa b)), (59, .bool s_)]) (fun s_ H => J s_ H) ?_ ?_
     ·rintro bd H4 j13
      replace h := j12 bd H4 j13
      refine T_su [(0, vp (some d)), (1, vi nv), (2, vs argsB argsN argsC), (8, vp (pa b)), (59, .bool bd)] ?_
      refine S_then ?_
      by_cases c14 : bd = true
      ·rw [if_pos c14] at h
       have b15 : bd = true := c14
       refine S_env [(0, vp (some d)), (1, vi nv), (2, vs argsB argsN argsC), (8, vp (pa b)), (59, .bool true)] (by simp only [b15, Bool.not_true, Bool.not_false]) ?_
       clear b15
       refine T_t 59 kk17 kk18 ?_
       refine T_sr 5 kk19 kk20 ?_
       refine T_ne 2 [(6, vu 0), (7, vi 5)] ?_
       refine S_ret (by kernel_rfl) ?_
       show At _ _ _ _ _ (Q .ret)
       exact S_done (fn := Tryz.f28) [vu 0, vi 5] hQ (show ResOK _ _ _ [.tmp 6, .tmp 7] _ from .tmp (by kernel_rfl) (.tmp (by kernel_rfl) (.nil))) h
      ·rw [if_neg c14] at h
       have b15 : bd = false := eq_false_of_ne_true c14
       refine S_env [(0, vp (some d)), (1, vi nv), (2, vs argsB argsN argsC), (8, vp (pa b)), (59, .bool false)] (by simp only [b15, Bool.not_true, Bool.not_false]) ?_
       clear b15
       refine T_f 59 kk17 kk18 ?_
       refine T_kt ?_
       refine T_s kk21 kk22 ?_
       refine T_sr 6 kk23 kk24 ?_
       refine T_ne 3 [(0, vp (some d)), (1, vi nv), (2, vs argsB argsN argsC), (8, vp (pa b)), (60, vs argsB argsN argsC), (61, vi argsN), (62, vi 0)] ?_
       refine T_b 0 kk25 ?_
       obtain ⟨b8, m27, i16, i17⟩ := h
       refine S_loop (x := kk26) (σ := Int) (fun s_ => [(0, vp (some d)), (1, vi nv), (2, vs argsB argsN argsC), (8, vp (pa b)), (60, vs argsB argsN argsC), (61, vi argsN), (62, vi s_)]) (fun s_ H => b8 s_ H) (fun s_ H => m27 s_ H) (0 : Int) (by kernel_rfl) i16 sk ?_
       rintro f H5 i18
       have h := i17 f H5 i18
       refine T_su [(0, vp (some d)), (1, vi nv), (2, vs argsB argsN argsC), (8, vp (pa b)), (60, vs argsB argsN argsC), (61, vi argsN), (62, vi f)] ?_
       refine T_sr 7 kk27 kk28 ?_
       refine T_ne 1 [(0, vp (some d)), (1, vi nv), (2, vs argsB argsN argsC), (8, vp (pa b)), (60, vs argsB argsN argsC), (61, vi argsN), (62, vi f), (63, .bool (decide (f < (argsN : Int))))] ?_
       refine T_s kk29 kk30 ?_
       by_cases c19 : f < (argsN : Int)
       ·rw [if_pos c19] at h
        have b20 : (decide (f < (argsN : Int))) = true := decide_eq_true c19
        refine S_env [(0, vp (some d)), (1, vi nv), (2, vs argsB argsN argsC), (8, vp (pa b)), (60, vs argsB argsN argsC), (61, vi argsN), (62, vi f), (63, .bool true)] (by simp only [b20, Bool.not_true, Bool.not_false]) ?_
        clear b20
        refine T_t 63 kk31 kk32 ?_
        refine T_kt ?_
        refine T_s kk33 kk34 ?_
        refine T_b 1 kk35 ?_
        refine T_sr 8 kk36 kk37 ?_
        refine T_n 1 [(0, vp (some d)), (1, vi nv), (2, vs argsB argsN argsC), (8, vp (pa b)), (60, vs argsB argsN argsC), (61, vi argsN), (62, vi f), (64, vi f)] ?_
        obtain ⟨e, rfl, h⟩ := h
        obtain ⟨q21, h⟩ := h
        refine T_ix (some 65) 43 35 1 e argsN argsC .i64 f Tryz.underlying43 q21.1 q21.2 [(0, vp (some d)), (1, vi nv), (2, vs (some e) argsN argsC), (8, vp (pa b)), (60, vs (some e) argsN argsC), (61, vi argsN), (62, vi f), (64, vi f), (65, vp (some (e.add (Int.toNat f * 1))))] ?_
        obtain ⟨ag, q22, h⟩ := h
        refine T_l (some 66) 35 q22 [(0, vp (some d)), (1, vi nv), (2, vs (some e) argsN argsC), (8, vp (pa b)), (60, vs (some e) argsN argsC), (61, vi argsN), (62, vi f), (64, vi f), (66, vu ag)] ?_
        refine T_ne 2 [(0, vp (some d)), (1, vi nv), (2, vs (some e) argsN argsC), (8, vp (pa b)), (9, vi f), (10, vu ag), (60, vs (some e) argsN argsC), (61, vi argsN), (62, vi f)] ?_
        refine T_sr 9 kk38 kk39 ?_
        refine T_n 3 [(0, vp (some d)), (1, vi nv), (2, vs (some e) argsN argsC), (8, vp (pa b)), (9, vi f), (60, vs (some e) argsN argsC), (61, vi argsN), (62, vi f), (67, vp (some d)), (68, vu ag), (69, vp (some ((Addr.mk b 0 none).add 3)))] ?_
        obtain ⟨xB, xN, xC, q23, h⟩ := h
        refine T_l (some 70) 101 q23 [(0, vp (some d)), (1, vi nv), (2, vs (some e) argsN argsC), (8, vp (pa b)), (9, vi f), (60, vs (some e) argsN argsC), (61, vi argsN), (62, vi f), (67, vp (some d)), (68, vu ag), (70, vs xB xN xC)] ?_
        refine T_n 2 [(0, vp (some d)), (1, vi nv), (2, vs (some e) argsN argsC), (8, vp (pa b)), (60, vs (some e) argsN argsC), (61, vi argsN), (62, vi f), (67, vp (some d)), (68, vu ag), (70, vs xB xN xC), (71, vi f), (72, vp (some ((Addr.mk b 0 none).add 3)))] ?_
        obtain ⟨b1, l, b6, q24, h⟩ := h
        refine T_l (some 73) 101 q24 [(0, vp (some d)), (1, vi nv), (2, vs (some e) argsN argsC), (8, vp (pa b)), (60, vs (some e) argsN argsC), (61, vi argsN), (62, vi f), (67, vp (some d)), (68, vu ag), (70, vs xB xN xC), (71, vi f), (73, vs b1 l b6)] ?_
        refine T_n 3 [(0, vp (some d)), (1, vi nv), (2, vs (some e) argsN argsC), (8, vp (pa b)), (60, vs (some e) argsN argsC), (61, vi argsN), (62, vi f), (67, vp (some d)), (68, vu ag), (70, vs xB xN xC), (76, vi (if (IntKind.wrap .i64 ((l : Int) - 1)) < f then (IntKind.wrap .i64 ((l : Int) - 1)) else f))] ?_
        obtain ⟨be, rfl, h⟩ := h
        obtain ⟨q25, h⟩ := h
        refine T_ix (some 77) 101 3 1 be xN xC .i64 (if (IntKind.wrap .i64 ((l : Int) - 1)) < f then (IntKind.wrap .i64 ((l : Int) - 1)) else f) Tryz.underlying101 q25.1 q25.2 [(0, vp (some d)), (1, vi nv), (2, vs (some e) argsN argsC), (8, vp (pa b)), (60, vs (some e) argsN argsC), (61, vi argsN), (62, vi f), (67, vp (some d)), (68, vu ag), (77, vp (some (be.add (Int.toNat (if (IntKind.wrap .i64 ((l : Int) - 1)) < f then (IntKind.wrap .i64 ((l : Int) - 1)) else f) * 1))))] ?_
        obtain ⟨bv, q26, h⟩ := h
        refine T_l (some 78) 3 q26 [(0, vp (some d)), (1, vi nv), (2, vs (some e) argsN argsC), (8, vp (pa b)), (60, vs (some e) argsN argsC), (61, vi argsN), (62, vi f), (67, vp (some d)), (68, vu ag), (78, vi bv)] ?_
        refine N_call (some 79) 57 #[vp (some d), vu ag, vi bv] (fun _=>by kernel_rfl) h ?_; clear h
        rintro db H6 ⟨au, rfl, h⟩
        refine ⟨[(0, vp (some d)), (1, vi nv), (2, vs (some e) argsN argsC), (8, vp (pa b)), (60, vs (some e) argsN argsC), (61, vi argsN), (62, vi f), (79, .bool au)], pk, ?_⟩
        refine T_ne 1 [(0, vp (some d)), (1, vi nv), (2, vs (some e) argsN argsC), (8, vp (pa b)), (60, vs (some e) argsN argsC), (61, vi argsN), (62, vi f), (80, .bool (!au))] ?_
        by_cases c27 : au = true
        ·rw [if_pos c27] at h
         have b28 : (!au) = false := congrArg Bool.not (c27)
         have b282 : au = true := c27
         refine S_env [(0, vp (some d)), (1, vi nv), (2, vs (some e) argsN argsC), (8, vp (pa b)), (60, vs (some e) argsN argsC), (61, vi argsN), (62, vi f), (80, .bool false)] (by simp only [b28, b282, Bool.not_true, Bool.not_false]) ?_
         clear b28 b282
         refine T_f 80 kk40 kk41 ?_
         refine T_k ?_
         refine S_blockEnd ?_
         refine S_then ?_
         refine T_r 11 kk34 ?_
         refine T_ne 2 [(0, vp (some d)), (1, vi nv), (2, vs (some e) argsN argsC), (8, vp (pa b)), (60, vs (some e) argsN argsC), (61, vi argsN), (62, vi (IntKind.wrap .i64 (f + 1)))] ?_
         exact S_round ((IntKind.wrap .i64 (f + 1)) : Int) sk h
        ·rw [if_neg c27] at h
         have b28 : (!au) = true := congrArg Bool.not (eq_false_of_ne_true c27)
         have b282 : au = false := eq_false_of_ne_true c27
         refine S_env [(0, vp (some d)), (1, vi nv), (2, vs (some e) argsN argsC), (8, vp (pa b)), (60, vs (some e) argsN argsC), (61, vi argsN), (62, vi f), (80, .bool true)] (by simp only [b28, b282, Bool.not_true, Bool.not_false]) ?_
         clear b28 b282
         refine T_t 80 kk40 kk41 ?_
         refine T_sr 10 kk42 kk43 ?_
         refine T_ne 2 [(6, vu 0), (7, vi 3)] ?_
         refine S_ret (by kernel_rfl) ?_
         show At _ _ _ _ _ (Q .ret)
         exact S_done (fn := Tryz.f28) [vu 0, vi 3] hQ (show ResOK _ _ _ [.tmp 6, .tmp 7] _ from .tmp (by kernel_rfl) (.tmp (by kernel_rfl) (.nil))) h
       ·rw [if_neg c19] at h
        have b20 : (decide (f < (argsN : Int))) = false := decide_eq_false c19
        refine S_env [(0, vp (some d)), (1, vi nv), (2, vs argsB argsN argsC), (8, vp (pa b)), (60, vs argsB argsN argsC), (61, vi argsN), (62, vi f), (63, .bool false)] (by simp only [b20, Bool.not_true, Bool.not_false]) ?_
        clear b20
        refine T_f 63 kk31 kk32 ?_
        refine S_exit 0 (by kernel_rfl) ?_
        refine S_exitThen ?_
        refine S_exitThen ?_
        refine S_exitHere ?_
        refine S_then ?_
        refine T_s kk44 kk45 ?_
        refine T_b 2 kk46 ?_
        refine T_sr 12 kk47 kk48 ?_
        refine T_ne 3 [(0, vp (some d)), (1, vi nv), (2, vs argsB argsN argsC), (82, .bool (decide (nv ≤ 2)))] ?_
        by_cases c29 : nv ≤ 2
        ·rw [if_pos c29] at h
         have b30 : (decide (nv ≤ 2)) = true := decide_eq_true c29
         refine S_env [(0, vp (some d)), (1, vi nv), (2, vs argsB argsN argsC), (82, .bool true)] (by simp only [b30, Bool.not_true, Bool.not_false]) ?_
         clear b30
         refine T_t 82 kk49 kk50 ?_
         refine T_sr 13 kk51 kk52 ?_
         refine T_n 3 [(85, vp (some d)), (86, vi nv), (87, vs argsB argsN argsC)] ?_
         obtain ⟨y, rfl, h⟩ := h
         obtain ⟨q31, h⟩ := h
         refine T_ix (some 88) 43 35 1 y argsN argsC .i64 0 Tryz.underlying43 q31.1 q31.2 [(85, vp (some d)), (86, vi nv), (88, vp (some (y.add (Int.toNat 0 * 1))))] ?_
         obtain ⟨bt, q32, h⟩ := h
         refine T_l (some 89) 35 q32 [(85, vp (some d)), (86, vi nv), (89, vu bt)] ?_
         refine N_call (some 90) 58 #[vp (some d), vi nv, vu bt] (fun _=>by kernel_rfl) h ?_; clear h
         rintro cu H7 ⟨ra, rb, rfl, h⟩
         refine ⟨[(90, .tuple #[vu ra, vi rb])], pk, ?_⟩
         refine T_ne 4 [(6, vu ra), (7, vi rb)] ?_
         refine S_ret (by kernel_rfl) ?_
         show At _ _ _ _ _ (Q .ret)
         exact S_done (fn := Tryz.f28) [vu ra, vi rb] hQ (show ResOK _ _ _ [.tmp 6, .tmp 7] _ from .tmp (by kernel_rfl) (.tmp (by kernel_rfl) (.nil))) h
        ·rw [if_neg c29] at h
         have b30 : (decide (nv ≤ 2)) = false := decide_eq_false c29
         refine S_env [(0, vp (some d)), (1, vi nv), (2, vs argsB argsN argsC), (82, .bool false)] (by simp only [b30, Bool.not_true, Bool.not_false]) ?_
         clear b30
         refine T_f 82 kk49 kk50 ?_
         refine T_sr 14 kk53 kk54 ?_
         refine T_ne 3 [(0, vp (some d)), (1, vi nv), (2, vs argsB argsN argsC), (93, .bool (nv == 4))] ?_
         by_cases c33 : nv = 4
         ·rw [if_pos c33] at h
          have b34 : (nv == 4) = true := beq_iff_eq.mpr c33
          refine S_env [(0, vp (some d)), (1, vi nv), (2, vs argsB argsN argsC), (93, .bool true)] (by simp only [b34, Bool.not_true, Bool.not_false]) ?_
          clear b34
          refine T_t 93 kk55 kk56 ?_
          refine T_sr 15 kk57 kk58 ?_
          refine T_n 1 [(97, vs argsB argsN argsC)] ?_
          obtain ⟨aa, rfl, h⟩ := h
          obtain ⟨q35, h⟩ := h
          refine T_ix (some 98) 43 35 1 aa argsN argsC .i64 0 Tryz.underlying43 q35.1 q35.2 [(98, vp (some (aa.add (Int.toNat 0 * 1))))] ?_
          obtain ⟨bz, q36, h⟩ := h
          refine T_l (some 99) 35 q36 [(99, vu bz)] ?_
          refine N_call (some 100) 59 #[vu bz] (fun _=>by kernel_rfl) h ?_; clear h
          rintro cs H8 ⟨ae, b9, rfl, h⟩
          refine ⟨[(100, .tuple #[vi ae, .bool b9])], pk, ?_⟩
          refine T_ne 5 [(11, vi ae)] ?_
          refine T_sr 16 kk59 kk60 ?_
          refine T_n 4 [(106, .int .i32 (IntKind.wrap .i32 (if (-1) < (if 1073741824 < ae then 1073741824 else ae) then (if 1073741824 < ae then 1073741824 else ae) else (-1))))] ?_
          refine N_call (some 107) 38 #[.int .i32 (IntKind.wrap .i32 (if (-1) < (if 1073741824 < ae then 1073741824 else ae) then (if 1073741824 < ae then 1073741824 else ae) else (-1)))] (fun _=>by kernel_rfl) h ?_; clear h
          rintro cy H9 ⟨a3, a7, rfl, h⟩
          refine ⟨[(107, .tuple #[vu a3, vi a7])], pk, ?_⟩
          refine T_ne 4 [(6, vu a3), (7, vi a7)] ?_
          refine S_ret (by kernel_rfl) ?_
          show At _ _ _ _ _ (Q .ret)
          exact S_done (fn := Tryz.f28) [vu a3, vi a7] hQ (show ResOK _ _ _ [.tmp 6, .tmp 7] _ from .tmp (by kernel_rfl) (.tmp (by kernel_rfl) (.nil))) h
         ·rw [if_neg c33] at h
          have b34 : (nv == 4) = false := beq_eq_false_iff_ne.mpr c33
          refine S_env [(0, vp (some d)), (1, vi nv), (2, vs argsB argsN argsC), (93, .bool false)] (by simp only [b34, Bool.not_true, Bool.not_false]) ?_
          clear b34
          refine T_f 93 kk55 kk56 ?_
          refine T_sr 17 kk61 kk62 ?_
          refine T_ne 3 [(0, vp (some d)), (1, vi nv), (2, vs argsB argsN argsC), (110, .bool (decide (nv ≤ 9)))] ?_
          by_cases c37 : nv ≤ 9
          ·rw [if_pos c37] at h
           have b38 : (decide (nv ≤ 9)) = true := decide_eq_true c37
           refine S_env [(0, vp (some d)), (1, vi nv), (2, vs argsB argsN argsC), (110, .bool true)] (by simp only [b38, Bool.not_true, Bool.not_false]) ?_
           clear b38
           refine T_t 110 kk63 kk64 ?_
           refine T_sr 18 kk65 kk66 ?_
           refine T_n 2 [(113, vi nv), (114, vs argsB argsN argsC)] ?_
           obtain ⟨q, rfl, h⟩ := h
           obtain ⟨q39, h⟩ := h
           refine T_ix (some 115) 43 35 1 q argsN argsC .i64 0 Tryz.underlying43 q39.1 q39.2 [(113, vi nv), (115, vp (some (q.add (Int.toNat 0 * 1))))] ?_
           obtain ⟨bx, q40, h⟩ := h
           refine T_l (some 116) 35 q40 [(113, vi nv), (116, vu bx)] ?_
           refine N_new (some 117) (fun b => vs (pa b) 1 1) (.cells #[vu bx] 35) (fun _=>by kernel_rfl) ?_
           intro bu H10 e41 e42
           replace h := h bu H10 e41 e42
           refine ⟨[(113, vi nv), (117, vs (pa bu) 1 1)], pk, ?_⟩
           refine N_call (some 118) 61 #[vs (pa bu) 1 1] (fun _=>by kernel_rfl) h ?_; clear h
           rintro c6 ck ⟨b4, a4, bi, rfl, h⟩
           refine ⟨[(113, vi nv), (118, vs b4 a4 bi)], pk, ?_⟩
           obtain ⟨ak, rfl, h⟩ := h
           obtain ⟨q43, h⟩ := h
           refine T_ix (some 119) 65 21 1 ak a4 bi .i64 0 Tryz.underlying65 q43.1 q43.2 [(113, vi nv), (119, vp (some (ak.add (Int.toNat 0 * 1))))] ?_
           obtain ⟨bw, q44, h⟩ := h
           refine T_l (some 120) 21 q44 [(113, vi nv), (120, .int .i32 bw)] ?_
           refine N_call (some 121) 60 #[vi nv, .int .i32 bw] (fun _=>by kernel_rfl) h ?_; clear h
           rintro c0 c8 ⟨az, a2, rfl, h⟩
           refine ⟨[(121, .tuple #[vu az, vi a2])], pk, ?_⟩
           refine T_ne 4 [(6, vu az), (7, vi a2)] ?_
           refine S_ret (by kernel_rfl) ?_
           show At _ _ _ _ _ (Q .ret)
           exact S_done (fn := Tryz.f28) [vu az, vi a2] hQ (show ResOK _ _ _ [.tmp 6, .tmp 7] _ from .tmp (by kernel_rfl) (.tmp (by kernel_rfl) (.nil))) h
          ·rw [if_neg c37] at h
           have b38 : (decide (nv ≤ 9)) = false := decide_eq_false c37
           refine S_env [(0, vp (some d)), (1, vi nv), (2, vs argsB argsN argsC), (110, .bool false)] (by simp only [b38, Bool.not_true, Bool.not_false]) ?_
           clear b38
           refine T_f 110 kk63 kk64 ?_
           refine T_sr 19 kk67 kk68 ?_
           refine T_ne 3 [(0, vp (some d)), (1, vi nv), (2, vs argsB argsN argsC), (124, .bool (decide (nv ≤ 14)))] ?_
           by_cases c45 : nv ≤ 14
           ·rw [if_pos c45] at h
            have b46 : (decide (nv ≤ 14)) = true := decide_eq_true c45
            refine S_env [(0, vp (some d)), (1, vi nv), (2, vs argsB argsN argsC), (124, .bool true)] (by simp only [b46, Bool.not_true, Bool.not_false]) ?_
            clear b46
            refine T_t 124 kk69 kk70 ?_
            refine T_sr 20 kk71 kk72 ?_
            refine T_ne 1 [(1, vi nv), (2, vs argsB argsN argsC), (13, vs none 0 0)] ?_
            refine T_s kk73 kk74 ?_
            refine T_sr 21 kk75 kk76 ?_
            refine T_n 1 [(1, vi nv), (13, vs none 0 0), (127, vs argsB argsN argsC)] ?_
            refine N_call (some 128) 61 #[vs argsB argsN argsC] (fun _=>by kernel_rfl) h ?_; clear h
            rintro cw ct ⟨af, g, p, rfl, h⟩
            refine ⟨[(1, vi nv), (13, vs none 0 0), (128, vs af g p)], pk, ?_⟩
            refine T_ne 2 [(1, vi nv), (13, vs none 0 0), (128, vs af g p), (129, vi g), (130, vi 0)] ?_
            refine T_b 3 kk77 ?_
            obtain ⟨b7, m79, i47, i48⟩ := h
            refine S_loop (x := kk78) (σ := (Option Addr) × Nat × Nat × Int) (fun s_ => [(1, vi nv), (13, vs s_.1 s_.2.1 s_.2.2.1), (128, vs af g p), (129, vi g), (130, vi s_.2.2.2)]) (fun s_ H => b7 s_.1 s_.2.1 s_.2.2.1 s_.2.2.2 H) (fun s_ H => m79 s_.1 s_.2.1 s_.2.2.1 s_.2.2.2 H) ((none, 0, 0, 0) : (Option Addr) × Nat × Nat × Int) (by kernel_rfl) i47 sk ?_
            rintro ⟨lB, lN, lC, s130⟩ H14 i49
            have h := i48 lB lN lC s130 H14 i49
            refine T_su [(1, vi nv), (13, vs lB lN lC), (128, vs af g p), (129, vi g), (130, vi s130)] ?_
            refine T_sr 22 kk79 kk80 ?_
            refine T_ne 1 [(1, vi nv), (13, vs lB lN lC), (128, vs af g p), (129, vi g), (130, vi s130), (131, .bool (decide (s130 < (g : Int))))] ?_
            refine T_s kk81 kk82 ?_
            by_cases c50 : s130 < (g : Int)
            ·rw [if_pos c50] at h
             have b51 : (decide (s130 < (g : Int))) = true := decide_eq_true c50
             refine S_env [(1, vi nv), (13, vs lB lN lC), (128, vs af g p), (129, vi g), (130, vi s130), (131, .bool true)] (by simp only [b51, Bool.not_true, Bool.not_false]) ?_
             clear b51
             refine T_t 131 kk83 kk84 ?_
             refine T_kt ?_
             refine T_s kk85 kk86 ?_
             refine T_b 4 kk87 ?_
             refine T_sr 23 kk88 kk89 ?_
             refine T_nu [(1, vi nv), (13, vs lB lN lC), (128, vs af g p), (129, vi g), (130, vi s130)] ?_
             obtain ⟨u, rfl, h⟩ := h
             obtain ⟨q52, h⟩ := h
             refine T_ix (some 132) 65 21 1 u g p .i64 s130 Tryz.underlying65 q52.1 q52.2 [(1, vi nv), (13, vs lB lN lC), (128, vs (some u) g p), (129, vi g), (130, vi s130), (132, vp (some (u.add (Int.toNat s130 * 1))))] ?_
             obtain ⟨aj, q53, h⟩ := h
             refine T_l (some 133) 21 q53 [(1, vi nv), (13, vs lB lN lC), (128, vs (some u) g p), (129, vi g), (130, vi s130), (133, .int .i32 aj)] ?_
             refine T_ne 1 [(1, vi nv), (13, vs lB lN lC), (15, .int .i32 aj), (128, vs (some u) g p), (129, vi g), (130, vi s130)] ?_
             refine T_r 24 kk89 ?_
             refine T_n 2 [(1, vi nv), (128, vs (some u) g p), (129, vi g), (130, vi s130), (134, vs lB lN lC), (135, .int .i32 aj)] ?_
             refine N_new (some 136) (fun b => vs (pa b) 1 1) (.cells #[.int .i32 aj] 21) (fun _=>by kernel_rfl) ?_
             intro b0 H15 e54 e55
             replace h := h b0 H15 e54 e55
             refine ⟨[(1, vi nv), (128, vs (some u) g p), (129, vi g), (130, vi s130), (134, vs lB lN lC), (136, vs (pa b0) 1 1)], pk, ?_⟩
             refine N_new (some 137) (fun b => vs (pa b) 1 1) (.cells #[vs (pa b0) 1 1] 65) (fun _=>by kernel_rfl) ?_
             intro bs H16 e56 e57
             replace h := h bs H16 e56 e57
             refine ⟨[(1, vi nv), (128, vs (some u) g p), (129, vi g), (130, vi s130), (134, vs lB lN lC), (137, vs (pa bs) 1 1)], pk, ?_⟩
             refine N_op (some 138) (appendN #[134, 134] 134 #[vs lB lN lC, vs (pa bs) 1 1]) _ (fun _=>by kernel_rfl) (ss_append (T := 65) (sz := 1) (bytes := 24) (zero := (vs none 0 0 : Value)) Tryz.underlying134 Tryz.underlying134 rfl (show Tryz.prog.info? 65 = some Tryz.t65 from by kernel_rfl) (by kernel_rfl) (by kernel_rfl) (by decide) (by kernel_rfl) (by first | exact h | (simpa only [Value.cells, List.toList_toArray] using h))) ?_; clear h
             rintro _ cl ⟨ap, bh, rfl, h⟩
             refine ⟨[(1, vi nv), (128, vs (some u) g p), (129, vi g), (130, vi s130), (138, vs ap (lN + 1) bh)], pk, ?_⟩
             refine T_n 1 [(1, vi nv), (13, vs ap (lN + 1) bh), (128, vs (some u) g p), (129, vi g), (130, vi s130)] ?_
             refine N_end (by kernel_rfl) ?_
             refine S_blockEnd ?_
             refine S_then ?_
             refine T_r 25 kk86 ?_
             refine T_ne 2 [(1, vi nv), (13, vs ap (lN + 1) bh), (128, vs (some u) g p), (129, vi g), (130, vi (IntKind.wrap .i64 (s130 + 1)))] ?_
             exact S_round ((ap, (lN + 1), bh, (IntKind.wrap .i64 (s130 + 1))) : (Option Addr) × Nat × Nat × Int) sk h
            ·rw [if_neg c50] at h
             have b51 : (decide (s130 < (g : Int))) = false := decide_eq_false c50
             refine S_env [(1, vi nv), (13, vs lB lN lC), (128, vs af g p), (129, vi g), (130, vi s130), (131, .bool false)] (by simp only [b51, Bool.not_true, Bool.not_false]) ?_
             clear b51
             refine T_f 131 kk83 kk84 ?_
             refine S_exit 3 (by kernel_rfl) ?_
             refine S_exitThen ?_
             refine S_exitThen ?_
             refine S_exitHere ?_
             refine S_then ?_
             refine T_sr 26 kk90 kk91 ?_
             refine T_n 2 [(140, vi nv), (141, vs lB lN lC)] ?_
             refine N_call (some 142) 63 #[vi nv, vs lB lN lC] (fun _=>by kernel_rfl) h ?_; clear h
             rintro cp da ⟨br, rfl, h⟩
             refine ⟨[(142, .bool br)], pk, ?_⟩
             refine N_call (some 143) 62 #[.bool br] (fun _=>by kernel_rfl) h ?_; clear h
             rintro cd c5 ⟨ba, ay, rfl, h⟩
             refine ⟨[(143, .tuple #[vu ba, vi ay])], pk, ?_⟩
             refine T_ne 4 [(6, vu ba), (7, vi ay)] ?_
             refine S_ret (by kernel_rfl) ?_
             show At _ _ _ _ _ (Q .ret)
             exact S_done (fn := Tryz.f28) [vu ba, vi ay] hQ (show ResOK _ _ _ [.tmp 6, .tmp 7] _ from .tmp (by kernel_rfl) (.tmp (by kernel_rfl) (.nil))) h
           ·rw [if_neg c45] at h
            have b46 : (decide (nv ≤ 14)) = false := decide_eq_false c45
            refine S_env [(0, vp (some d)), (1, vi nv), (2, vs argsB argsN argsC), (124, .bool false)] (by simp only [b46, Bool.not_true, Bool.not_false]) ?_
            clear b46
            refine T_f 124 kk69 kk70 ?_
            refine T_sr 27 kk92 kk93 ?_
            refine T_ne 3 [(0, vp (some d)), (1, vi nv), (2, vs argsB argsN argsC), (146, .bool (nv == 15))] ?_
            by_cases c58 : nv = 15
            ·rw [if_pos c58] at h
             have b59 : (nv == 15) = true := beq_iff_eq.mpr c58
             refine S_env [(0, vp (some d)), (1, vi nv), (2, vs argsB argsN argsC), (146, .bool true)] (by simp only [b59, Bool.not_true, Bool.not_false]) ?_
             clear b59
             refine T_t 146 kk94 kk95 ?_
             refine T_sr 28 kk96 kk97 ?_
             refine T_n 2 [(149, vp (some d)), (150, vs argsB argsN argsC)] ?_
             refine N_call (some 151) 64 #[vp (some d), vs argsB argsN argsC] (fun _=>by kernel_rfl) h ?_; clear h
             rintro cb cq ⟨a1, bb, rfl, h⟩
             refine ⟨[(151, .tuple #[vu a1, vi bb])], pk, ?_⟩
             refine T_ne 4 [(6, vu a1), (7, vi bb)] ?_
             refine S_ret (by kernel_rfl) ?_
             show At _ _ _ _ _ (Q .ret)
             exact S_done (fn := Tryz.f28) [vu a1, vi bb] hQ (show ResOK _ _ _ [.tmp 6, .tmp 7] _ from .tmp (by kernel_rfl) (.tmp (by kernel_rfl) (.nil))) h
            ·rw [if_neg c58] at h
             have b59 : (nv == 15) = false := beq_eq_false_iff_ne.mpr c58
             refine S_env [(0, vp (some d)), (1, vi nv), (2, vs argsB argsN argsC), (146, .bool false)] (by simp only [b59, Bool.not_true, Bool.not_false]) ?_
             clear b59
             refine T_f 146 kk94 kk95 ?_
             refine T_sr 29 kk98 kk99 ?_
             refine T_ne 3 [(0, vp (some d)), (1, vi nv), (2, vs argsB argsN argsC), (154, .bool (nv == 16))] ?_
             by_cases c60 : nv = 16
             ·rw [if_pos c60] at h
              have b61 : (nv == 16) = true := beq_iff_eq.mpr c60
              refine S_env [(0, vp (some d)), (1, vi nv), (2, vs argsB argsN argsC), (154, .bool true)] (by simp only [b61, Bool.not_true, Bool.not_false]) ?_
              clear b61
              refine T_t 154 kk100 kk101 ?_
              refine T_sr 30 kk102 kk103 ?_
              refine T_n 2 [(157, vp (some d)), (158, vs argsB argsN argsC)] ?_
              refine N_call (some 159) 61 #[vs argsB argsN argsC] (fun _=>by kernel_rfl) h ?_; clear h
              rintro cm cr ⟨bq, bk, bo, rfl, h⟩
              refine ⟨[(157, vp (some d)), (159, vs bq bk bo)], pk, ?_⟩
              refine N_call (some 160) 65 #[vp (some d), vs bq bk bo] (fun _=>by kernel_rfl) h ?_; clear h
              rintro cj c1 ⟨a9, a6, rfl, h⟩
              refine ⟨[(160, .tuple #[vu a9, vi a6])], pk, ?_⟩
              refine T_ne 4 [(6, vu a9), (7, vi a6)] ?_
              refine S_ret (by kernel_rfl) ?_
              show At _ _ _ _ _ (Q .ret)
              exact S_done (fn := Tryz.f28) [vu a9, vi a6] hQ (show ResOK _ _ _ [.tmp 6, .tmp 7] _ from .tmp (by kernel_rfl) (.tmp (by kernel_rfl) (.nil))) h
             ·rw [if_neg c60] at h
              have b61 : (nv == 16) = false := beq_eq_false_iff_ne.mpr c60
              refine S_env [(0, vp (some d)), (1, vi nv), (2, vs argsB argsN argsC), (154, .bool false)] (by simp only [b61, Bool.not_true, Bool.not_false]) ?_
              clear b61
              refine T_f 154 kk100 kk101 ?_
              refine T_sr 31 kk104 kk105 ?_
              refine T_ne 3 [(0, vp (some d)), (1, vi nv), (2, vs argsB argsN argsC), (163, .bool (nv == 29))] ?_
              by_cases c62 : nv = 29
              ·rw [if_pos c62] at h
               have b63 : (nv == 29) = true := beq_iff_eq.mpr c62
               refine S_env [(0, vp (some d)), (1, vi nv), (2, vs argsB argsN argsC), (163, .bool true)] (by simp only [b63, Bool.not_true, Bool.not_false]) ?_
               clear b63
               refine T_t 163 kk106 kk107 ?_
               refine T_sr 32 kk108 kk109 ?_
               refine T_n 2 [(0, vp (some d)), (167, vp (some d)), (168, vs argsB argsN argsC)] ?_
               obtain ⟨z, rfl, h⟩ := h
               obtain ⟨q64, h⟩ := h
               refine T_ix (some 169) 43 35 1 z argsN argsC .i64 0 Tryz.underlying43 q64.1 q64.2 [(0, vp (some d)), (167, vp (some d)), (169, vp (some (z.add (Int.toNat 0 * 1))))] ?_
               obtain ⟨a5, q65, h⟩ := h
               refine T_l (some 170) 35 q65 [(0, vp (some d)), (167, vp (some d)), (170, vu a5)] ?_
               refine N_call (some 171) 66 #[vp (some d), vu a5] (fun _=>by kernel_rfl) h ?_; clear h
               rintro cf c9 ⟨aw, ca, rfl, h⟩
               refine ⟨[(0, vp (some d)), (171, .tuple #[.string aw, vi ca])], pk, ?_⟩
               refine T_ne 5 [(0, vp (some d)), (16, .string aw)] ?_
               refine T_sr 33 kk110 kk111 ?_
               refine T_n 2 [(174, vp (some d)), (175, .string aw)] ?_
               refine N_call (some 176) 22 #[vp (some d), .string aw] (fun _=>by kernel_rfl) h ?_; clear h
               rintro ce co ⟨a8, ax, rfl, h⟩
               refine ⟨[(176, .tuple #[vu a8, vi ax])], pk, ?_⟩
               refine T_ne 4 [(6, vu a8), (7, vi ax)] ?_
               refine S_ret (by kernel_rfl) ?_
               show At _ _ _ _ _ (Q .ret)
               exact S_done (fn := Tryz.f28) [vu a8, vi ax] hQ (show ResOK _ _ _ [.tmp 6, .tmp 7] _ from .tmp (by kernel_rfl) (.tmp (by kernel_rfl) (.nil))) h
              ·rw [if_neg c62] at h
               have b63 : (nv == 29) = false := beq_eq_false_iff_ne.mpr c62
               refine S_env [(0, vp (some d)), (1, vi nv), (2, vs argsB argsN argsC), (163, .bool false)] (by simp only [b63, Bool.not_true, Bool.not_false]) ?_
               clear b63
               refine T_f 163 kk106 kk107 ?_
               refine T_sr 34 kk112 kk113 ?_
               refine N_cut [(0, vp (some d)), (1, vi nv), (2, vs argsB argsN argsC), (179, .bool ((nv == 27) || (nv == 31)))] ?_ ?_
               ·refine S_then ?_
                by_cases c68 : ((nv == 27) || (nv == 31)) = true
                ·rw [if_pos c68] at h
                 have b69 : ((nv == 27) || (nv == 31)) = true := c68
                 refine S_env [(0, vp (some d)), (1, vi nv), (2, vs argsB argsN argsC), (179, .bool true)] (by simp only [b69, Bool.not_true, Bool.not_false]) ?_
                 clear b69
                 refine T_t 179 kk114 kk115 ?_
                 refine T_sr 35 kk116 kk117 ?_
                 refine T_n 2 [(0, vp (some d)), (1, vi nv), (187, vp (some d)), (188, vs argsB argsN argsC)] ?_
                 obtain ⟨s, rfl, h⟩ := h
                 obtain ⟨q70, h⟩ := h
                 refine T_ix (some 189) 43 35 1 s argsN argsC .i64 0 Tryz.underlying43 q70.1 q70.2 [(0, vp (some d)), (1, vi nv), (187, vp (some d)), (189, vp (some (s.add (Int.toNat 0 * 1))))] ?_
                 obtain ⟨bc, q71, h⟩ := h
                 refine T_l (some 190) 35 q71 [(0, vp (some d)), (1, vi nv), (187, vp (some d)), (190, vu bc)] ?_
                 refine N_call (some 191) 67 #[vp (some d), vu bc] (fun _=>by kernel_rfl) h ?_; clear h
                 rintro cn cx ⟨bg, bj, bl, b2, rfl, h⟩
                 refine ⟨[(0, vp (some d)), (1, vi nv), (191, .tuple #[vs bg bj bl, .bool b2])], pk, ?_⟩
                 refine T_ne 5 [(0, vp (some d)), (1, vi nv), (18, vs bg bj bl)] ?_
                 refine T_sr 36 kk118 kk119 ?_
                 refine T_n 3 [(194, vp (some d)), (195, vi nv), (196, vs bg bj bl)] ?_
                 refine N_call (some 197) 68 #[vp (some d), vi nv, vs bg bj bl] (fun _=>by kernel_rfl) h ?_; clear h
                 rintro cg cv ⟨an, ao, rfl, h⟩
                 refine ⟨[(197, .tuple #[vu an, vi ao])], pk, ?_⟩
                 refine T_ne 4 [(6, vu an), (7, vi ao)] ?_
                 refine S_ret (by kernel_rfl) ?_
                 show At _ _ _ _ _ (Q .ret)
                 exact S_done (fn := Tryz.f28) [vu an, vi ao] hQ (show ResOK _ _ _ [.tmp 6, .tmp 7] _ from .tmp (by kernel_rfl) (.tmp (by kernel_rfl) (.nil))) h
                ·rw [if_neg c68] at h
                 have b69 : ((nv == 27) || (nv == 31)) = false := eq_false_of_ne_true c68
                 refine S_env [(0, vp (some d)), (1, vi nv), (2, vs argsB argsN argsC), (179, .bool false)] (by simp only [b69, Bool.not_true, Bool.not_false]) ?_
                 clear b69
                 refine T_f 179 kk114 kk115 ?_
                 refine T_sr 37 kk120 kk121 ?_
                 refine T_ne 3 [(0, vp (some d)), (1, vi nv), (2, vs argsB argsN argsC), (200, .bool (nv == 30))] ?_
                 by_cases c72 : nv = 30
                 ·rw [if_pos c72] at h
                  have b73 : (nv == 30) = true := beq_iff_eq.mpr c72
                  refine S_env [(0, vp (some d)), (1, vi nv), (2, vs argsB argsN argsC), (200, .bool true)] (by simp only [b73, Bool.not_true, Bool.not_false]) ?_
                  clear b73
                  refine T_t 200 kk122 kk123 ?_
                  refine T_sr 38 kk124 kk125 ?_
                  refine T_n 3 [(203, vp (some d)), (204, vp (some d)), (205, vs argsB argsN argsC)] ?_
                  obtain ⟨r, rfl, h⟩ := h
                  obtain ⟨q74, h⟩ := h
                  refine T_ix (some 206) 43 35 1 r argsN argsC .i64 0 Tryz.underlying43 q74.1 q74.2 [(203, vp (some d)), (204, vp (some d)), (206, vp (some (r.add (Int.toNat 0 * 1))))] ?_
                  obtain ⟨a0, q75, h⟩ := h
                  refine T_l (some 207) 35 q75 [(203, vp (some d)), (204, vp (some d)), (207, vu a0)] ?_
                  refine N_call (some 208) 70 #[vp (some d), vu a0] (fun _=>by kernel_rfl) h ?_; clear h
                  rintro ch c3 ⟨bp, bf, bn, rfl, h⟩
                  refine ⟨[(203, vp (some d)), (208, vs bp bf bn)], pk, ?_⟩
                  refine N_call (some 209) 69 #[vp (some d), vs bp bf bn] (fun _=>by kernel_rfl) h ?_; clear h
                  rintro ci cz ⟨al, am, rfl, h⟩
                  refine ⟨[(209, .tuple #[vu al, vi am])], pk, ?_⟩
                  refine T_ne 4 [(6, vu al), (7, vi am)] ?_
                  refine S_ret (by kernel_rfl) ?_
                  show At _ _ _ _ _ (Q .ret)
                  exact S_done (fn := Tryz.f28) [vu al, vi am] hQ (show ResOK _ _ _ [.tmp 6, .tmp 7] _ from .tmp (by kernel_rfl) (.tmp (by kernel_rfl) (.nil))) h
                 ·rw [if_neg c72] at h
                  have b73 : (nv == 30) = false := beq_eq_false_iff_ne.mpr c72
                  refine S_env [(0, vp (some d)), (1, vi nv), (2, vs argsB argsN argsC), (200, .bool false)] (by simp only [b73, Bool.not_true, Bool.not_false]) ?_
                  clear b73
                  refine T_f 200 kk122 kk123 ?_
                  refine T_k ?_
                  refine S_blockEnd ?_
                  refine S_then ?_
                  refine T_sr 39 kk126 kk127 ?_
                  refine T_n 3 [(212, vp (some d)), (213, vi nv), (214, vs argsB argsN argsC)] ?_
                  refine N_call (some 215) 71 #[vp (some d), vi nv, vs argsB argsN argsC] (fun _=>by kernel_rfl) h ?_; clear h
                  rintro cc c7 ⟨aq, ar, rfl, h⟩
                  refine ⟨[(215, .tuple #[vu aq, vi ar])], pk, ?_⟩
                  refine T_ne 4 [(6, vu aq), (7, vi ar)] ?_
                  refine S_ret (by kernel_rfl) ?_
                  show At _ _ _ _ _ (Q .ret)
                  exact S_done (fn := Tryz.f28) [vu aq, vi ar] hQ (show ResOK _ _ _ [.tmp 6, .tmp 7] _ from .tmp (by kernel_rfl) (.tmp (by kernel_rfl) (.nil))) h
               ·intro hk
                refine T_n 3 [(0, vp (some d)), (1, vi nv), (2, vs argsB argsN argsC), (182, .bool (nv == 27))] ?_
                by_cases c66 : nv = 27
                ·have b67 : (nv == 27) = true := beq_iff_eq.mpr c66
                 refine N_env [(0, vp (some d)), (1, vi nv), (2, vs argsB argsN argsC), (182, .bool true)] (by simp only [b67, Bool.not_true, Bool.not_false]) ?_
                 refine T_n 4 [(0, vp (some d)), (1, vi nv), (2, vs argsB argsN argsC), (179, .bool true)] ?_
                 refine N_end (by kernel_rfl) ?_
                 refine S_env [(0, vp (some d)), (1, vi nv), (2, vs argsB argsN argsC), (179, .bool ((nv == 27) || (nv == 31)))] (by simp only [b67, Bool.true_or, Bool.false_or, Bool.or_true, Bool.or_false, Bool.true_and, Bool.false_and, Bool.and_true, Bool.and_false, Bool.not_true, Bool.not_false, cond_true, cond_false]) ?_
                 exact hk
                ·have b67 : (nv == 27) = false := beq_eq_false_iff_ne.mpr c66
                 refine N_env [(0, vp (some d)), (1, vi nv), (2, vs argsB argsN argsC), (182, .bool false)] (by simp only [b67, Bool.not_true, Bool.not_false]) ?_
                 refine T_n 4 [(0, vp (some d)), (1, vi nv), (2, vs argsB argsN argsC), (179, .bool (nv == 31))] ?_
                 refine N_end (by kernel_rfl) ?_
                 refine S_env [(0, vp (some d)), (1, vi nv), (2, vs argsB argsN argsC), (179, .bool ((nv == 27) || (nv == 31)))] (by simp only [b67, Bool.true_or, Bool.false_or, Bool.or_true, Bool.or_false, Bool.true_and, Bool.false_and, Bool.and_true, Bool.and_false, Bool.not_true, Bool.not_false, cond_true, cond_false]) ?_
                 exact hk
     ·refine T_r 4 kk15 ?_
      refine T_n 4 [(0, vp (some d)), (1, vi nv), (2, vs argsB argsN argsC), (8, vp (pa b)), (41, vi argsN), (43, vp (some ((Addr.mk b 0 none).add 1)))] ?_
      obtain ⟨ah, q76, h⟩ := h
      refine T_l (some 44) 3 q76 [(0, vp (some d)), (1, vi nv), (2, vs argsB argsN argsC), (8, vp (pa b)), (41, vi argsN), (44, vi ah)] ?_
      refine T_n 2 [(0, vp (some d)), (1, vi nv), (2, vs argsB argsN argsC), (8, vp (pa b)), (46, .bool (decide ((argsN : Int) < ah)))] ?_
      by_cases c77 : (argsN : Int) < ah
      ·rw [if_pos c77] at h
       have b78 : (decide ((argsN : Int) < ah)) = true := decide_eq_true c77
       refine N_env [(0, vp (some d)), (1, vi nv), (2, vs argsB argsN argsC), (8, vp (pa b)), (46, .bool true)] (by simp only [b78, Bool.not_true, Bool.not_false]) ?_
       clear b78
       refine T_ne 13 [(0, vp (some d)), (1, vi nv), (2, vs argsB argsN argsC), (8, vp (pa b)), (59, .bool true)] ?_
       exact S_meet (true : Bool) sk h
      ·rw [if_neg c77] at h
       have b78 : (decide ((argsN : Int) < ah)) = false := decide_eq_false c77
       refine N_env [(0, vp (some d)), (1, vi nv), (2, vs argsB argsN argsC), (8, vp (pa b)), (46, .bool false)] (by simp only [b78, Bool.not_true, Bool.not_false]) ?_
       clear b78
       refine T_n 2 [(0, vp (some d)), (1, vi nv), (2, vs argsB argsN argsC), (8, vp (pa b)), (46, .bool false), (48, vp (some ((Addr.mk b 0 none).add 2)))] ?_
       obtain ⟨ai, q79, h⟩ := h
       refine T_l (some 49) 3 q79 [(0, vp (some d)), (1, vi nv), (2, vs argsB argsN argsC), (8, vp (pa b)), (46, .bool false), (49, vi ai)] ?_
       refine T_n 2 [(0, vp (some d)), (1, vi nv), (2, vs argsB argsN argsC), (8, vp (pa b)), (46, .bool false), (51, .bool (decide (ai ≥ 0)))] ?_
       by_cases c80 : ai ≥ 0
       ·rw [if_pos c80] at h
        have b81 : (decide (ai ≥ 0)) = true := decide_eq_true c80
        refine N_env [(0, vp (some d)), (1, vi nv), (2, vs argsB argsN argsC), (8, vp (pa b)), (46, .bool false), (51, .bool true)] (by simp only [b81, Bool.not_true, Bool.not_false]) ?_
        clear b81
        refine T_n 4 [(0, vp (some d)), (1, vi nv), (2, vs argsB argsN argsC), (8, vp (pa b)), (46, .bool false), (51, .bool true), (53, vi argsN), (55, vp (some ((Addr.mk b 0 none).add 2)))] ?_
        obtain ⟨av, q82, h⟩ := h
        refine T_l (some 56) 3 q82 [(0, vp (some d)), (1, vi nv), (2, vs argsB argsN argsC), (8, vp (pa b)), (46, .bool false), (51, .bool true), (53, vi argsN), (56, vi av)] ?_
        refine T_ne 3 [(0, vp (some d)), (1, vi nv), (2, vs argsB argsN argsC), (8, vp (pa b)), (59, .bool (decide ((argsN : Int) > av)))] ?_
        exact S_meet ((decide ((argsN : Int) > av)) : Bool) sk h
       ·rw [if_neg c80] at h
        have b81 : (decide (ai ≥ 0)) = false := decide_eq_false c80
        refine N_env [(0, vp (some d)), (1, vi nv), (2, vs argsB argsN argsC), (8, vp (pa b)), (46, .bool false), (51, .bool false)] (by simp only [b81, Bool.not_true, Bool.not_false]) ?_
        clear b81
        refine T_ne 8 [(0, vp (some d)), (1, vi nv), (2, vs argsB argsN argsC), (8, vp (pa b)), (59, .bool false)] ?_
        exact S_meet (false : Bool) sk h
   ·intro hk
    refine T_nu [(0, vp (some d)), (1, vi nv), (2, vs argsB argsN argsC), (33, .bool (decide (nv < 0)))] ?_
    by_cases c2 : nv < 0
    ·have b3 : (decide (nv < 0)) = true := decide_eq_true c2
     refine N_env [(0, vp (some d)), (1, vi nv), (2, vs argsB argsN argsC), (33, .bool true)] (by simp only [b3, Bool.not_true, Bool.not_false]) ?_
     refine T_n 3 [(0, vp (some d)), (1, vi nv), (2, vs argsB argsN argsC), (36, .bool true)] ?_
     refine N_end (by kernel_rfl) ?_
     refine S_env [(0, vp (some d)), (1, vi nv), (2, vs argsB argsN argsC), (36, .bool ((decide (nv < 0)) || (decide (nv ≥ 32))))] (by simp only [b3, Bool.true_or, Bool.false_or, Bool.or_true, Bool.or_false, Bool.true_and, Bool.false_and, Bool.and_true, Bool.and_false, Bool.not_true, Bool.not_false, cond_true, cond_false]) ?_
     exact hk
    ·have b3 : (decide (nv < 0)) = false := decide_eq_false c2
     refine N_env [(0, vp (some d)), (1, vi nv), (2, vs argsB argsN argsC), (33, .bool false)] (by simp only [b3, Bool.not_true, Bool.not_false]) ?_
     refine T_n 3 [(0, vp (some d)), (1, vi nv), (2, vs argsB argsN argsC), (36, .bool (decide (nv ≥ 32)))] ?_
     refine N_end (by kernel_rfl) ?_
     refine S_env [(0, vp (some d)), (1, vi nv), (2, vs argsB argsN argsC), (36, .bool ((decide (nv < 0)) || (decide (nv ≥ 32))))] (by simp only [b3, Bool.true_or, Bool.false_or, Bool.or_true, Bool.or_false, Bool.true_and, Bool.false_and, Bool.and_true, Bool.and_false, Bool.not_true, Bool.not_false, cond_true, cond_false]) ?_
     exact hk
end texts_Apply

/-! moraine/texts.Prims -/
namespace texts_Prims
def kk0 := Func.code Tryz.f29
def kk1 := Code.fa kk0
def kk2 := Code.fb kk0
def kk3 := Code.fa kk2
def kk4 := Code.fb kk2
def kk5 := Code.fa kk4
def kk6 := Code.fb kk4
def kk7 := Code.fa kk5
def kk8 := Code.fb kk5
def kk9 := Code.fa kk8
def kk10 := Code.fa kk9
def kk11 := Code.fa kk10
def kk12 := Code.fb kk10
def kk13 := Code.fa kk12
def kk14 := Code.fb kk12
def kk15 := Code.fa kk13
def kk16 := Code.fb kk13
def kk17 := Code.fa kk14
def kk18 := Code.fb kk14
def kk19 := Code.fa kk17
def kk20 := Code.fa kk19
def kk21 := Code.fb kk19
def kk22 := Code.fa kk6
def kk23 := Code.fb kk6
end texts_Prims
def texts_Prims.pt  (H : Array Obj) (R : Value → Array Obj → Prop) : Prop :=
 texts_table.C  H (fun v H1 => ∃ x : List Value, v = .agg (x).toArray ∧ x.length = 128 ∧ 
 ∃ (p : (Option Addr) → Nat → Nat → Int → Array Obj → Prop) (m11 : (Option Addr) → Nat → Nat → Int → Array Obj → Nat), p none 0 0 0 H1 ∧ ∀ (lB : Option Addr) (lN : Nat) (lC : Nat) (s5 : Int) (H2 : Array Obj), p lB lN lC s5 H2 →
 if s5 < 32 then (
 ∃ d : ByteArray, ∃ a : Int, ∃ e : Int, ∃ g : Option Addr, ∃ i : Nat, ∃ f : Nat, ((0 ≤ s5 ∧ s5 < (32 : Int)) ∧ (((x : List Value).toArray.toList).drop (Int.toNat s5 * 4)).take 4 = [.string d, .int .i64 a, .int .i64 e, .slice g i f]) ∧
 ∀ (b : Nat) (H3 : Array Obj), b = H2.size → H3 = H2.push (.cells #[.string (ByteArray.mk #[]), .int .i64 0, .int .i64 0, .slice none 0 0] 125) →
 (CanPuts H3 (Addr.mk b 0 none) 0 4) ∧ ∀ H4 : Array Obj, H4 = hputs H3 (Addr.mk b 0 none) [.string d, .int .i64 a, .int .i64 e, .slice g i f] 0 →
 ∃ l : ByteArray, ∃ j : Int, ∃ k : Int, RowAt H4 (Addr.mk b 0 none) 0 [.string l, .int .i64 j, .int .i64 k] ∧
 ∀ (o : Nat) (H5 : Array Obj), o = H4.size → H5 = H4.push (.cells #[.string l, .int .i64 j, .int .i64 k] 123) →
 appendK 3 123 32 [.string (ByteArray.mk #[]), .int .i64 0, .int .i64 0] lB lN lC (some (Addr.mk o 0 none)) 1 H5 (fun ap m H6 =>
 (p ap (lN + 1) m (IntKind.wrap .i64 (s5 + 1)) H6 ∧ m11 ap (lN + 1) m (IntKind.wrap .i64 (s5 + 1)) H6 < m11 lB lN lC s5 H2)))
 else
 R (.slice lB lN lC) H2)
namespace texts_Prims
set_option maxRecDepth 100000 in
theorem link  {H : Array Obj} {R : Value → Array Obj → Prop} (h : pt  H R) : C  H R := by
 refine S_enter (fn := Tryz.f29) (c := kk0) 15 Tryz.func29 (by kernel_rfl) (by kernel_rfl) (Nat.le_of_ble_eq_true (by kernel_rfl)) ?_
 intro w0 Q hQ
 unfold pt at h
 refine T_su [] ?_
 refine T_sr 0 kk1 kk2 ?_
 refine T_ne 1 [] ?_
 refine T_sr 1 kk3 kk4 ?_
 refine T_ne 1 [(1, vs none 0 0)] ?_
 refine T_s kk5 kk6 ?_
 refine T_sr 2 kk7 kk8 ?_
 refine N_call (some 4) 56 #[] (fun _=>by kernel_rfl) h ?_; clear h
 rintro v H1 ⟨x, rfl, hl, h⟩
 refine ⟨[(1, vs none 0 0), (4, .agg (x).toArray)], pk, ?_⟩
 refine T_ne 1 [(1, vs none 0 0), (4, .agg (x).toArray), (5, vi 0)] ?_
 refine T_b 0 kk9 ?_
 obtain ⟨p, m11, i1, i2⟩ := h
 refine S_loop (x := kk10) (σ := (Option Addr) × Nat × Nat × Int) (fun s_ => [(1, vs s_.1 s_.2.1 s_.2.2.1), (4, .agg (x).toArray), (5, vi s_.2.2.2)]) (fun s_ H => p s_.1 s_.2.1 s_.2.2.1 s_.2.2.2 H) (fun s_ H => m11 s_.1 s_.2.1 s_.2.2.1 s_.2.2.2 H) ((none, 0, 0, 0) : (Option Addr) × Nat × Nat × Int) (by kernel_rfl) i1 sk ?_
 rintro ⟨lB, lN, lC, s5⟩ H2 i3
 have h := i2 lB lN lC s5 H2 i3
 refine T_su [(1, vs lB lN lC), (4, .agg (x).toArray), (5, vi s5)] ?_
 refine T_sr 3 kk11 kk12 ?_
 refine T_ne 1 [(1, vs lB lN lC), (4, .agg (x).toArray), (5, vi s5), (6, .bool (decide (s5 < 32)))] ?_
 refine T_s kk13 kk14 ?_
 by_cases c4 : s5 < 32
 ·rw [if_pos c4] at h
  have b5 : (decide (s5 < 32)) = true := decide_eq_true c4
  refine S_env [(1, vs lB lN lC), (4, .agg (x).toArray), (5, vi s5), (6, .bool true)] (by simp only [b5, Bool.not_true, Bool.not_false]) ?_
  clear b5
  refine T_t 6 kk15 kk16 ?_
  refine T_kt ?_
  refine T_s kk17 kk18 ?_
  refine T_b 1 kk19 ?_
  refine T_sr 4 kk20 kk21 ?_
  refine T_nu [(1, vs lB lN lC), (4, .agg (x).toArray), (5, vi s5)] ?_
  obtain ⟨d, a, e, g, i, f, q6, h⟩ := h
  refine T_v (some 7) (indexN 126 (.agg (x).toArray) (vi s5)) (.agg #[.string d, vi a, vi e, vs g i f]) (fun w _ => indexAggs_run (P := Tryz.prog) (t := 126) (elem := 125) (n := 32) (sz := 4) Tryz.underlying126 (fun _=>by kernel_rfl) (fun _=>by kernel_rfl) q6.1.1 q6.1.2 q6.2 w) [(1, vs lB lN lC), (4, .agg (x).toArray), (5, vi s5), (7, .agg #[.string d, vi a, vi e, vs g i f])] ?_
  refine N_new (some 3) (fun b => vp (pa b)) (.cells #[.string (ByteArray.mk #[]), vi 0, vi 0, vs none 0 0] 125) (fun _=>by kernel_rfl) ?_
  intro b H3 e7 e8
  replace h := h b H3 e7 e8
  refine ⟨[(1, vs lB lN lC), (3, vp (pa b)), (4, .agg (x).toArray), (5, vi s5), (7, .agg #[.string d, vi a, vi e, vs g i f])], pk, ?_⟩
  obtain ⟨q10, h⟩ := h
  refine N_skipop none (storeN 125 (vp (pa b)) (.agg #[.string d, vi a, vi e, vs g i f])) (fun Hz => Hz = hputs H3 (Addr.mk b 0 none) [.string d, vi a, vi e, vs g i f] 0) (fun _=>by kernel_rfl) (ss_store [.string d, vi a, vi e, vs g i f] 4 (by kernel_rfl) (by kernel_rfl) (fun _=>by kernel_rfl) (by kernel_rfl) q10) ?_
  intro H4 e9
  replace h := h H4 e9
  refine ⟨[(1, vs lB lN lC), (3, vp (pa b)), (4, .agg (x).toArray), (5, vi s5)], pk, ?_⟩
  refine T_e ?_
  refine T_r 5 kk21 ?_
  refine T_n 2 [(4, .agg (x).toArray), (5, vi s5), (8, vs lB lN lC), (9, vp (pa b))] ?_
  obtain ⟨l, j, k, q11, h⟩ := h
  refine T_v (some 10) (loadN 123 (vp (pa b))) (.agg #[.string l, vi j, vi k]) (loadN_run (loadOK_row (fun _=>by kernel_rfl) (fun _=>by kernel_rfl) q11)) [(4, .agg (x).toArray), (5, vi s5), (8, vs lB lN lC), (10, .agg #[.string l, vi j, vi k])] ?_
  refine N_new (some 11) (fun b => vs (pa b) 1 1) (.cells #[.string l, vi j, vi k] 123) (fun _=>by kernel_rfl) ?_
  intro o H5 e12 e13
  replace h := h o H5 e12 e13
  refine ⟨[(4, .agg (x).toArray), (5, vi s5), (8, vs lB lN lC), (11, vs (pa o) 1 1)], pk, ?_⟩
  refine N_op (some 12) (appendN #[80, 80] 80 #[vs lB lN lC, vs (pa o) 1 1]) _ (fun _=>by kernel_rfl) (ss_append (T := 123) (sz := 3) (bytes := 32) (zero := (.agg #[.string (ByteArray.mk #[]), vi 0, vi 0] : Value)) Tryz.underlying80 Tryz.underlying80 rfl (show Tryz.prog.info? 123 = some Tryz.t123 from by kernel_rfl) (by kernel_rfl) (by kernel_rfl) (by decide) (by kernel_rfl) (by first | exact h | (simpa only [Value.cells, List.toList_toArray] using h))) ?_; clear h
  rintro _ H6 ⟨ap, m, rfl, h⟩
  refine ⟨[(4, .agg (x).toArray), (5, vi s5), (12, vs ap (lN + 1) m)], pk, ?_⟩
  refine T_n 1 [(1, vs ap (lN + 1) m), (4, .agg (x).toArray), (5, vi s5)] ?_
  refine N_end (by kernel_rfl) ?_
  refine S_blockEnd ?_
  refine S_then ?_
  refine T_r 6 kk18 ?_
  refine T_ne 2 [(1, vs ap (lN + 1) m), (4, .agg (x).toArray), (5, vi (IntKind.wrap .i64 (s5 + 1)))] ?_
  exact S_round ((ap, (lN + 1), m, (IntKind.wrap .i64 (s5 + 1))) : (Option Addr) × Nat × Nat × Int) sk h
 ·rw [if_neg c4] at h
  have b5 : (decide (s5 < 32)) = false := decide_eq_false c4
  refine S_env [(1, vs lB lN lC), (4, .agg (x).toArray), (5, vi s5), (6, .bool false)] (by simp only [b5, Bool.not_true, Bool.not_false]) ?_
  clear b5
  refine T_f 6 kk15 kk16 ?_
  refine S_exit 0 (by kernel_rfl) ?_
  refine S_exitThen ?_
  refine S_exitThen ?_
  refine S_exitHere ?_
  refine S_then ?_
  refine T_sr 7 kk22 kk23 ?_
  refine T_ne 2 [(0, vs lB lN lC)] ?_
  refine S_ret (by kernel_rfl) ?_
  show At _ _ _ _ _ (Q .ret)
  exact S_done (fn := Tryz.f29) [vs lB lN lC] hQ (show ResOK _ _ _ [.tmp 0] _ from .tmp (by kernel_rfl) (.nil)) h
end texts_Prims

end Go.Proofs.YthlohokmnajpoaaGreatDoor
