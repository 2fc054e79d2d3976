/-
  TextsBack: there and back, a string's characters by lists, by vectors, by symbols, and by two substrings, appended; a character by its number. Where what is handed in is of bulk 1048576 at most (the second form).
-/
import Derived.Lib.LaidU8T
import Derived.Lib.LaidIn
import Derived.Deep.DeepHandedRow
import Derived.JoinedCond
import Derived.Test.YthlohokmnajpoaaGreatDoorTextsQ
import Derived.Test.YthlohokmnajpoaaGreatDoorLaws23
import Derived.Test.YthlohokmnajpoaaGreatDoorLaw
import Derived.Test.YthlohokmnajpoaaGreatDoorRead
import Derived.Test.YthlohokmnajpoaaGreatDoorLx
import Derived.LaidMore
import Derived.Lay
import Derived.SevenTiedAt
import Derived.Stop.Joined
import Derived.Test.YthlohokmnajpoaaGreatDoorTie
import Derived.Test.YthlohokmnajpoaaGreatDoorCards
set_option linter.unusedVariables false
set_option linter.unusedSimpArgs false
namespace Go.Proofs.YthlohokmnajpoaaGreatDoor.textsBack
open Go Go.Proofs.YthlohokmnajpoaaGreatDoor
open Go.ChangeShapes Go.WideShapes Go.ChangeAt Go.RowKit

def ren : Go.Shelf.Ren := ⟨id, fun | 5 => 5 | 119 => 218 | 138 => 220 | 139 => 221 | n => n, fun | 3 => 0 | 4 => 1 | n => n⟩
theorem tabs8 {W : World} (h : laidMetH Tryz.prog Rows.textsBackUptoRow.laid W) : Tabs8 W.heap := by
  rw [MakeChecks.laidMetH_plain _ _ _ (by kernel_rfl)] at h
  have ef : Pinned.utf8First = Lib.firstData := by kernel_rfl
  have ea : Rows.laid_unicode_utf8_acceptRanges (H := Unit) = Lib.acceptData := by kernel_rfl
  have r2 := Lib.laidMet.reads h (.head _)
  have r1 := Lib.laidMet.reads h (.tail _ (.head _))
  rw [show Rows.laid_unicode_utf8_first = Lib.firstData from ef] at r1
  rw [ea] at r2
  have t := utf8Tabs_of_readsT (P := Tryz.prog) (ρ := ren) ⟨Tryz.underlying5, Tryz.underlying218, Tryz.underlying220, Tryz.underlying221⟩
    ⟨by kernel_rfl, by kernel_rfl, by kernel_rfl, by kernel_rfl, by kernel_rfl, by kernel_rfl, by kernel_rfl⟩ r1 r2
  refine ⟨fun c hc => ?_, fun i hi => ⟨?_, ?_, trivial⟩⟩
  · have := t.1 c hc
    rw [cell_hat] at this
    rw [addr_add_mk, Nat.zero_add]; exact this
  · have := (t.2 i hi).1
    rw [cell_hat] at this
    rw [addr_add_mk, addr_add_mk, Nat.zero_add, Nat.add_zero, Nat.mul_comm]; exact this
  · have := (t.2 i hi).2
    rw [cell_hat] at this
    rw [addr_add_mk, addr_add_mk, Nat.zero_add, Nat.mul_comm]; exact this
theorem does_ok {H : Array Obj} {hv B : Option Addr} {nv : Int} {n c : Nat} {P : Int → Array Obj → Prop} (h : texts_Apply.C hv nv B n c H (fun v H' => ∃ ra, v = .tuple #[.int .u64 ra, .int .i64 0] ∧ P ra H')) :
    morainelaw23_does.C hv nv B n c H (fun v H' => ∃ ra, v = .tuple #[.int .u64 ra, .bool true] ∧ P ra H') := by
  refine HC.mono (does23_c (Q := fun ra rb H' => rb = 0 ∧ P ra H') (HC.mono h (fun v A h => by obtain ⟨ra, h1, h2⟩ := h; exact ⟨ra, 0, h1, rfl, h2⟩))) ?_
  rintro _ A ⟨ra, rb, rfl, rfl, h⟩
  exact ⟨ra, rfl, h⟩
theorem text23_c {H : Array Obj} {hv : Option Addr} {o : Option (Blk × Hp)} {w more : Int} {rs : List Int} (V : View H hv o) (t : Thing (mof o) w 2 more rs) (hlet : ∀ r ∈ rs, Letter r) :
    morainelaw23_text.C hv w H (fun v H' => v = .string (runesStr rs) ∧ Ext H H') := by
  refine HC.via fun R hR => morainelaw23_text.link ?_
  unfold morainelaw23_text.pt
  refine HC.mono (obj_Text_c V t.word) ?_
  rw [if_pos ⟨t.obj, t.typ⟩, t.words, wordsText_letters hlet]
  rintro _ H1 ⟨rfl, e⟩
  exact ⟨_, _, rfl, hR _ _ ⟨rfl, e⟩⟩
theorem shl3 {n : Int} (h : 0 ≤ n ∧ n ≤ 1114111) : ishl .u64 (IntKind.wrap .u64 n) 3 = n * 8 := by
  rw [wu64 (n := n) (by omega), ishl_u64 3 3 rfl (by decide)]
  show n * 8 % _ = _
  omega
theorem and16 (a : Int) : 0 ≤ iand .i64 a 65535 ∧ iand .i64 a 65535 ≤ 65535 := by
  unfold iand
  have h : (BitVec.ofInt IntKind.i64.bits a &&& BitVec.ofInt IntKind.i64.bits 65535).toNat ≤ 65535 := by
    rw [BitVec.toNat_and]
    have e : (BitVec.ofInt IntKind.i64.bits 65535).toNat = 65535 := by decide
    rw [e]; exact Nat.and_le_right
  rw [w64 (by omega)]; omega

set_option maxRecDepth 100000 in
theorem law (s : ByteArray) (atv : Int) (H : Array Obj) (hs : s.size ≤ 70368744177664) (T : Tabs8 H) : morainelaw23_TextsBack.C s atv H (fun v H' => v = .bool true ∧ Ext H H') := by
  refine HC.via fun R hR => morainelaw23_TextsBack.link ?_
  unfold morainelaw23_TextsBack.pt
  refine HC.mono (obj_New_c ⟨by decide, by decide⟩) ?_
  rintro _ H1 (⟨hno, _⟩ | ⟨_, k, x, rfl, V1, hx, e1, hy⟩)
  · exact absurd ⟨by decide, by decide⟩ hno
  have L1 : Live H H1 k x := ⟨V1.inv.2.1, V1.inv.2.2, e1, hy⟩
  have hc : x.sp.mem.count = 0 := by subst hx; rfl
  have hv : x.sp.mem.Even := by subst hx; exact even_fresh _
  have hf : x.sp.mem.free = 200 := by subst hx; rfl
  have hsy : x.sy = .slice none 0 0 := by subst hx; rfl
  clear hx V1
  refine ⟨_, _, rfl, ?_⟩
  refine torunes_in hs fun c2 b2 H2 hb2 o2 e2 => ?_
  by_cases hbig : (s.size : Int) > 1000 ∨ ((runesOf s).length : Int) > 62
  · rw [if_pos (by simpa using hbig)]
    refine ⟨fun q A => q = true ∧ Ext H A, ?_, ?_⟩
    · rw [if_pos rfl]
      refine HC.mono awake23_c ?_
      rintro _ A ⟨rfl, e⟩
      exact ⟨_, rfl, rfl, (e1.trans e2).trans e⟩
    rintro _ A ⟨rfl, e⟩
    exact hR _ _ ⟨rfl, e⟩
  rw [if_neg (by simpa using hbig)]
  have la := runesOf_letter s
  have h62 : (runesOf s).length ≤ 62 := by omega
  have hb2k : b2 ∉ k.all := fun h => by have := L1.at'.lt b2 h; omega
  have L2 := L1.grow e2
  refine HC.mono (live_String L2 hv (s := s) h62 (by omega) (by omega)) ?_
  generalize runesOf s = rs at *
  rintro _ H5 ⟨w, x2, rfl, L5, M2, f5⟩
  have cn2 := M2.made.count
  have fr2 := M2.made.free
  have tw := M2.thing
  have ro2 := room_free L5.ok
  have o5 := o2.keep f5 (fun j hj => by simp at hj; subst hj; exact hb2k)
  refine ⟨_, _, rfl, rs, ⟨o5.src, fun _ => rfl⟩, fun b6 H6 hb6 hH6 => ?_⟩
  have e6 : Ext H5 H6 := Ext.push' hH6
  have L6 := L5.grow e6
  refine HC.mono (does_ok (P := fun ra A => ∃ (x' : Hp) (l : List (Int × Int)), Live H A k x' ∧ RowAs x2 x' ra 20 l ∧ l.map (·.2) = rs.map chrW ∧ Fr k.all H6 A) (HC.mono (apply_toList L6 M2.even (push_get hb6 hH6) tw la (by omega) (by omega)) (fun v A h => by
    obtain ⟨w', x', l, h1, h2⟩ := h; exact ⟨w', h1, x', l, h2⟩))) ?_
  rintro _ H7 ⟨wl, rfl, x3, l, L7, R3, hm3, f7⟩
  have hll : l.length = rs.length := by have := congrArg List.length hm3; simpa using this
  have cn3 := R3.count
  have ro3 := room_free L7.ok
  have rr3 := R3.room
  have tw := tw.keep L6.n64 R3.keep
  refine ⟨_, _, rfl, fun b8 H8 hb8 hH8 => ?_⟩
  have e8 : Ext H7 H8 := Ext.push' hH8
  have L8 := L7.grow e8
  refine HC.mono (does_ok (P := fun ra A => ∃ x' : Hp, Live H A k x' ∧ MadeOn x3 x' ra 2 0 rs ∧ Fr k.all H8 A) (HC.mono (apply_ofChars L8 R3.even (push_get hb8 hH8) (rowAs_chain R3 (Keep.refl _)) hm3 la h62 (by omega) (by omega)) (fun v A h => by
    obtain ⟨w', x', h1, h2⟩ := h; exact ⟨w', h1, x', h2⟩))) ?_
  rintro _ H9 ⟨wx, rfl, x4, L9, M4, f9⟩
  have cn4 := M4.made.count
  have fr4 := M4.made.free
  have tw := tw.keep L8.n64 M4.made.keep
  have tx := M4.thing
  refine ⟨_, _, rfl, ?_⟩
  rw [if_pos rfl, if_pos rfl, if_pos rfl]
  refine HC.mono (text23_c L9.view tx la) ?_
  rintro _ H10 ⟨rfl, e10⟩
  refine ⟨_, rfl, ?_⟩
  rw [if_pos rfl]
  have L10 := L9.grow e10
  refine fun b11 H11 hb11 hH11 => ?_
  have e11 : Ext H10 H11 := Ext.push' hH11
  have L11 := L10.grow e11
  refine HC.mono (does_ok (P := fun ra A => ∃ x' : Hp, Live H A k x' ∧ MadeOn x4 x' ra 1 0 (rs.map chrW) ∧ Fr k.all H11 A) (HC.mono (apply_toVec L11 M4.even (push_get hb11 hH11) (rowAs_chain R3 M4.made.keep) hm3 (chrW_words la) (by simpa using h62) (by omega) (by omega)) (fun v A h => by
    obtain ⟨w', x', h1, h2⟩ := h; exact ⟨w', h1, x', h2⟩))) ?_
  rintro _ H12 ⟨wv, rfl, x5, L12, M5, f12⟩
  have cn5 := M5.made.count
  have fr5 := M5.made.free
  have ro5 := room_free L12.ok
  have tw := tw.keep L11.n64 M5.made.keep
  have tv := M5.thing
  refine ⟨_, _, rfl, fun b13 H13 hb13 hH13 => ?_⟩
  have e13 : Ext H12 H13 := Ext.push' hH13
  have L13 := L12.grow e13
  refine HC.mono (does_ok (P := fun ra A => ∃ (x' : Hp) (l : List (Int × Int)), Live H A k x' ∧ RowAs x5 x' ra 20 l ∧ l.map (·.2) = rs.map chrW ∧ Fr k.all H13 A) (HC.mono (apply_fromVec L13 M5.even (push_get hb13 hH13) tv (chrW_words la) (by simp; omega) (by omega)) (fun v A h => by
    obtain ⟨w', x', l, h1, h2⟩ := h; exact ⟨w', h1, x', l, h2⟩))) ?_
  rintro _ H14 ⟨wk, rfl, x6, l6, L14, R6, hm6, f14⟩
  have hl6 : l6.length = rs.length := by have := congrArg List.length hm6; simpa using this
  have cn6 := R6.count
  have ro6 := room_free L14.ok
  have rr6 := R6.room
  have tw := tw.keep L13.n64 R6.keep
  have tv := tv.keep L13.n64 R6.keep
  refine ⟨_, _, rfl, fun b15 H15 hb15 hH15 => ?_⟩
  have e15 : Ext H14 H15 := Ext.push' hH15
  have L15 := L14.grow e15
  refine HC.mono (does_ok (P := fun ra A => ∃ x' : Hp, Live H A k x' ∧ MadeOn x6 x' ra 2 0 rs ∧ Fr k.all H15 A) (HC.mono (apply_ofChars L15 R6.even (push_get hb15 hH15) (rowAs_chain R6 (Keep.refl _)) hm6 la h62 (by omega) (by omega)) (fun v A h => by
    obtain ⟨w', x', h1, h2⟩ := h; exact ⟨w', h1, x', h2⟩))) ?_
  rintro _ H16 ⟨wy, rfl, x7, L16, M7, f16⟩
  have cn7 := M7.made.count
  have fr7 := M7.made.free
  have tw := tw.keep L15.n64 M7.made.keep
  have tv := tv.keep L15.n64 M7.made.keep
  have ty := M7.thing
  refine ⟨_, _, rfl, ?_⟩
  rw [if_pos rfl, if_pos rfl, if_pos rfl]
  refine HC.mono (text23_c L16.view ty la) ?_
  rintro _ H17 ⟨rfl, e17⟩
  refine ⟨_, rfl, ?_⟩
  rw [if_pos rfl]
  have L17 := L16.grow e17
  refine HC.mono (obj_Len_c L17.view tv.word) ?_
  rw [show (mof (some (k, x7))).len wv = (rs.length : Int) from by show x7.sp.mem.len wv = _; rw [tv.len, List.length_map]]
  rintro _ H18 ⟨rfl, e18⟩
  refine ⟨_, rfl, ?_⟩
  rw [if_pos rfl]
  have L18 := L17.grow e18
  have hA := and16 atv
  have hK : 0 ≤ Int.tmod (iand .i64 atv 65535) (IntKind.wrap .i64 ((rs.length : Int) + 1)) ∧ Int.tmod (iand .i64 atv 65535) (IntKind.wrap .i64 ((rs.length : Int) + 1)) ≤ rs.length := by
    rw [w64 (n := (rs.length : Int) + 1) (by omega), Int.tmod_eq_emod_of_nonneg hA.1]
    have h1 := Int.emod_nonneg (iand .i64 atv 65535) (show ((rs.length : Int) + 1) ≠ 0 by omega)
    have h2 := Int.emod_lt_of_pos (iand .i64 atv 65535) (show 0 < ((rs.length : Int) + 1) by omega)
    omega
  generalize Int.tmod (iand .i64 atv 65535) (IntKind.wrap .i64 ((rs.length : Int) + 1)) = K at *
  refine ⟨by rw [w64 (by omega)]; omega, fun b19 H19 hb19 hH19 => ?_⟩
  rw [shl3 (n := K) (by omega)] at hH19
  have g19 := push_get hb19 hH19
  have e19 : Ext H18 H19 := Ext.push' hH19
  have L19 := L18.grow e19
  refine HC.mono (does_ok (P := fun ra A => ∃ x' : Hp, Live H A k x' ∧ MadeOn x7 x' ra 2 0 ((rs.drop (0 : Int).toNat).take (K - 0).toNat) ∧ Fr k.all H19 A) (HC.mono (apply_cut (i := 0) (j := K) L19 M7.even g19 tw la (by omega) (by omega) (by omega)) (fun v A h => by
    obtain ⟨w', x', h1, h2⟩ := h; exact ⟨w', h1, x', h2⟩))) ?_
  rw [show (rs.drop (0 : Int).toNat).take (K - 0).toNat = rs.take K.toNat by rw [show (0 : Int).toNat = 0 from rfl, List.drop_zero, Int.sub_zero]]
  rintro _ H20 ⟨wp, rfl, x8, L20, M8, f20⟩
  have cn8 := M8.made.count
  have fr8 := M8.made.free
  have tw := tw.keep L19.n64 M8.made.keep
  have tp := M8.thing
  refine ⟨_, _, rfl, fun b21 H21 hb21 hH21 => ?_⟩
  rw [shl3 (n := K) (by omega), shl3 (n := (rs.length : Int)) (by omega)] at hH21
  have g21 := push_get hb21 hH21
  have e21 : Ext H20 H21 := Ext.push' hH21
  have L21 := L20.grow e21
  refine HC.mono (does_ok (P := fun ra A => ∃ x' : Hp, Live H A k x' ∧ MadeOn x8 x' ra 2 0 ((rs.drop K.toNat).take ((rs.length : Int) - K).toNat) ∧ Fr k.all H21 A) (HC.mono (apply_cut (i := K) (j := (rs.length : Int)) L21 M8.even g21 tw la (by omega) (by omega) (by omega)) (fun v A h => by
    obtain ⟨w', x', h1, h2⟩ := h; exact ⟨w', h1, x', h2⟩))) ?_
  rw [show (rs.drop K.toNat).take ((rs.length : Int) - K).toNat = rs.drop K.toNat from List.take_of_length_le (by rw [List.length_drop]; omega)]
  rintro _ H22 ⟨wq, rfl, x9, L22, M9, f22⟩
  have cn9 := M9.made.count
  have fr9 := M9.made.free
  have tw := tw.keep L21.n64 M9.made.keep
  have tp := tp.keep L21.n64 M9.made.keep
  have tq := M9.thing
  have lp : ∀ r ∈ rs.take K.toNat, Letter r := fun r hr => la r (List.mem_of_mem_take hr)
  have lq : ∀ r ∈ rs.drop K.toNat, Letter r := fun r hr => la r (List.mem_of_mem_drop hr)
  refine ⟨_, _, rfl, fun b23 H23 hb23 hH23 => ?_⟩
  have e23 : Ext H22 H23 := Ext.push' hH23
  have L23 := L22.grow e23
  have hss : strs x9.sp.mem [wp, wq] = [rs.take K.toNat, rs.drop K.toNat] := by rw [strs_cons, if_pos tp.typ, tp.runes lp, strs_cons, if_pos tq.typ, tq.runes lq, strs_nil]
  have hfl : [rs.take K.toNat, rs.drop K.toNat].flatten = rs := by simp
  refine HC.mono (does_ok (P := fun ra A => ∃ x' : Hp, Live H A k x' ∧ MadeOn x9 x' ra 2 0 rs ∧ Fr k.all H23 A) (HC.mono (apply_join (ws := [wp, wq]) L23 M9.even (rowAt_blk (push_get hb23 hH23) _ 0 0 (fun j hj => by simp [wvs])) (by simp) (fun u hu => by
    simp at hu; rcases hu with rfl | rfl
    · exact ⟨tp.word, tp.typ⟩
    · exact ⟨tq.word, tq.typ⟩) hss (by rw [hfl]; exact la) (by rw [hfl]; exact h62) (fun r hr => by
      simp at hr; rcases hr with rfl | rfl
      · rw [List.length_take]; omega
      · rw [List.length_drop]; omega) (by omega) (by omega)) (fun v A h => by
    rw [hfl] at h; obtain ⟨w', x', h1, h2⟩ := h; exact ⟨w', h1, x', h2⟩))) ?_
  rintro _ H24 ⟨wz, rfl, x10, L24, M10, f24⟩
  have cn10 := M10.made.count
  have fr10 := M10.made.free
  have tw := tw.keep L23.n64 M10.made.keep
  have tp := tp.keep L23.n64 M10.made.keep
  have tz := M10.thing
  refine ⟨_, _, rfl, fun q A => q = false ∧ Ext H24 A, ?_, ?_⟩
  · rw [if_pos rfl, if_pos rfl, if_pos rfl]
    refine HC.mono (text23_c L24.view tz la) ?_
    rintro _ H42 ⟨rfl, e42⟩
    refine ⟨_, rfl, ?_⟩
    rw [if_pos rfl]
    have L42 := L24.grow e42
    have f242 : Fr k.all H5 H42 := ((((((((((((((e6.fr (S := k.all)).trans f7).trans (e8.fr (S := k.all))).trans f9).trans ((e10.trans e11).fr (S := k.all))).trans f12).trans (e13.fr (S := k.all))).trans f14).trans (e15.fr (S := k.all))).trans f16).trans (((e17.trans e18).trans e19).fr (S := k.all))).trans f20).trans (e21.fr (S := k.all))).trans f22).trans (((e23.fr (S := k.all)).trans f24).trans (e42.fr (S := k.all)))
    have o42 := o5.keep f242 (fun j hj => by simp at hj; subst hj; exact hb2k)
    have hcap := own_cap o42
    refine ⟨0, K.toNat, rfl, by omega, by omega, by omega, fun sl hsl => ?_⟩
    have hsl' : sl = some ⟨b2, 0, none⟩ := by
      rw [hsl]
      by_cases h : c2 = 0
      · rw [if_pos h]
      · rw [if_neg h]; rfl
    subst hsl'
    rw [onPtr_some]
    have hrow : RowAt H42 ⟨b2, 0, none⟩ 0 (i32s rs) := o42.src
    have hrow2 : RowAt H42 ⟨b2, 0, none⟩ 0 ((rs.take K.toNat).map (Value.int .i32)) := by
      have := RowAt.sub (us := (rs.take K.toNat).map (Value.int .i32)) 0 hrow (by
        rw [List.drop_zero, List.length_map]
        unfold i32s
        rw [← List.map_take, List.length_take, Nat.min_eq_left (by omega)])
      rwa [addr_plus0] at this
    refine ⟨rs.take K.toNat, ⟨hrow2, by rw [List.length_take]; omega⟩, ?_⟩
    refine HC.mono (text23_c L42.view tp lp) ?_
    rintro _ H44 ⟨rfl, e44⟩
    refine ⟨_, rfl, e44.rowAt hrow2, ?_, e42.trans e44⟩
    simp
  rintro _ H25 ⟨rfl, e25⟩
  rw [if_neg (by decide)]
  have L25 := L24.grow e25
  have f525 : Fr k.all H5 H25 := (((((((((((((((e6.fr (S := k.all)).trans f7).trans (e8.fr (S := k.all))).trans f9).trans ((e10.trans e11).fr (S := k.all))).trans f12).trans (e13.fr (S := k.all))).trans f14).trans (e15.fr (S := k.all))).trans f16).trans (((e17.trans e18).trans e19).fr (S := k.all))).trans f20).trans (e21.fr (S := k.all))).trans f22).trans (((e23.fr (S := k.all)).trans f24).trans (e25.fr (S := k.all))))
  have o25 := o5.keep f525 (fun j hj => by simp at hj; subst hj; exact hb2k)
  refine ⟨fun i A => (0 ≤ i ∧ i ≤ rs.length) ∧ Ext H25 A, fun i _ => (rs.length - i).toNat, ⟨by omega, Ext.refl _⟩, ?_⟩
  rintro i H26 ⟨hi, e26⟩
  have L26 := L25.grow e26
  by_cases hlt : i < (rs.length : Int)
  · rw [if_pos hlt]
    have hiN : i.toNat < rs.length := by omega
    have hr : rs[i.toNat]? = some rs[i.toNat] := List.getElem?_eq_getElem hiN
    have hlr := la _ (List.getElem_mem hiN)
    obtain ⟨_, q2, q3⟩ := letter_B hlr
    generalize rs[i.toNat] = r at *
    intro b27 H27 hb27 hH27
    rw [shl3 (n := i) (by omega)] at hH27
    have g27 := push_get hb27 hH27
    have e27 : Ext H26 H27 := Ext.push' hH27
    have L27 := L26.grow e27
    refine HC.mono (does_ok (P := fun ra A => ra = chrW r ∧ Ext H27 A) (HC.mono (apply_ref L27 g27 tw la hi.1 hr) (fun v A h => ⟨_, h.1, rfl, h.2⟩))) ?_
    rintro _ H28 ⟨_, rfl, rfl, e28⟩
    refine ⟨_, _, rfl, fun b29 H29 hb29 hH29 => ?_⟩
    have e29 : Ext H28 H29 := Ext.push' hH29
    have L29 := (L27.grow e28).grow e29
    refine HC.mono (does_ok (P := fun ra A => ra = r * 8 ∧ Ext H29 A) (HC.mono (apply_chrInt L29 (push_get hb29 hH29) hlr) (fun v A h => ⟨_, h.1, rfl, h.2⟩))) ?_
    rintro _ H30 ⟨_, rfl, rfl, e30⟩
    refine ⟨_, _, rfl, fun b31 H31 hb31 hH31 => ?_⟩
    have e31 : Ext H30 H31 := Ext.push' hH31
    have L31 := (L29.grow e30).grow e31
    refine HC.mono (does_ok (P := fun ra A => ra = chrW r ∧ Ext H31 A) (HC.mono (apply_intChr L31 (push_get hb31 hH31) hlr) (fun v A h => ⟨_, h.1, rfl, h.2⟩))) ?_
    rintro _ H32 ⟨_, rfl, rfl, e32⟩
    refine ⟨_, _, rfl, ?_⟩
    rw [if_pos rfl, if_pos rfl, if_pos rfl]
    have e2632 := ((((e27.trans e28).trans e29).trans e30).trans e31).trans e32
    obtain ⟨a, ha, hat'⟩ := src_at ((o25.ext (e26.trans e2632)).src) (k := i.toNat) (v := .int .i32 r) (by rw [i32s, List.getElem?_map, hr]; rfl)
    rw [show ((i.toNat : Nat) : Int) = i by omega] at hat'
    refine ⟨a, ha, ⟨hi.1, hlt⟩, r, hat', ?_⟩
    rw [shl3 (n := r) (by omega), if_neg (by simp), w64 (by omega)]
    exact ⟨⟨by omega, e26.trans e2632⟩, by show ((rs.length : Int) - (i + 1)).toNat < ((rs.length : Int) - i).toNat; omega⟩
  rw [if_neg hlt]
  by_cases hz : (rs.length : Int) = 0
  · rw [if_pos hz]
    refine HC.mono awake23_c ?_
    rintro _ A ⟨rfl, e⟩
    exact ⟨_, rfl, hR _ _ ⟨rfl, L26.ext.trans e⟩⟩
  rw [if_neg hz]
  have hrr := runesOf_runesStr la
  have hne : (runesStr rs).toList ≠ (ByteArray.mk #[]).toList := fun h => by
    rw [Lib.toList_data, Lib.toList_data] at h
    have h2 : (runesStr rs).size = 0 := by
      show (runesStr rs).data.size = 0
      rw [← Array.length_toList, h]; rfl
    have h3 := runesOf_len (runesStr rs)
    rw [hrr] at h3; omega
  have hsy10 : x10.sy = .slice none 0 0 := by rw [M10.rest.1, M9.rest.1, M8.rest.1, M7.rest.1, R6.rest.1, M5.rest.1, M4.rest.1, R3.rest.1, M2.rest.1, hsy]
  intro b34 H34 hb34 hH34
  have e34 : Ext H26 H34 := Ext.push' hH34
  have L34 := L26.grow e34
  have S34 : SyAt H H34 k x10 [] := .nil hsy10
  refine HC.mono (does_ok (P := fun ra A => ∃ (sv : Int) (x' y1 y2 : Hp), Live H A k x' ∧ MadeOn x10 y1 sv 2 0 rs ∧ MadeOn y1 y2 ra 4 0 [sv] ∧ x'.sp = y2.sp ∧ SyAt H A k x' ([] ++ [ra]) ∧ (∀ q, (y1.sp.mem.seg q).n ≤ 64))
    (apply_sym (Q := fun v A => ∃ ra, v = .tuple #[.int .u64 ra, .int .i64 0] ∧ ∃ (sv : Int) (x' y1 y2 : Hp), Live H A k x' ∧ MadeOn x10 y1 sv 2 0 rs ∧ MadeOn y1 y2 ra 4 0 [sv] ∧ x'.sp = y2.sp ∧ SyAt H A k x' ([] ++ [ra]) ∧ (∀ q, (y1.sp.mem.seg q).n ≤ 64)) L34 (push_get hb34 hH34) tw la (fun v A h => by obtain ⟨ra, h, _⟩ := h; exact ⟨_, _, h⟩)
      (fun A eA => (live_Intern_new (L34.grow eA) M10.even (S34.keep (S := []) rfl eA.fr (by simp)) (by simp) hne (ValidString_runes (T.ext (L34.ext.trans eA)) la h62) (by rw [hrr]; exact h62) rfl (by omega) (by omega)).mono (fun v A' h => by
        rw [hrr] at h
        obtain ⟨w, s, x', x1, x2, h1, h2, h3, h4, h5, _, _, h6, h7, _⟩ := h
        exact ⟨w, h1, s, x', x1, x2, h2, h3, h4, h5, h6, h7⟩)))) ?_
  rintro _ H35 ⟨wm, rfl, sv, x11, y1, y2, L35, N1, N2, hsp, S35, n1⟩
  have cy1 := N1.made.count
  have fy1 := N1.made.free
  have cy2 := N2.made.count
  have fy2 := N2.made.free
  have tw : Thing x11.sp.mem w 2 0 rs := by rw [hsp]; exact (tw.keep L34.n64 N1.made.keep).keep n1 N2.made.keep
  have tz : Thing x11.sp.mem wz 2 0 rs := by rw [hsp]; exact (tz.keep L34.n64 N1.made.keep).keep n1 N2.made.keep
  have tm : Thing x11.sp.mem wm 4 0 [sv] := by rw [hsp]; exact N2.thing
  have tsv : Thing x11.sp.mem sv 2 0 rs := by rw [hsp]; exact N1.thing.keep n1 N2.made.keep
  have hnm : nameR x11.sp.mem wm = (runesStr rs, 0) := by rw [name_new tm tsv, wordsText_letters la]
  have hev : x11.sp.mem.Even := by rw [hsp]; exact N2.even
  refine ⟨_, _, rfl, fun b36 H36 hb36 hH36 => ?_⟩
  have e36 : Ext H35 H36 := Ext.push' hH36
  have L36 := L35.grow e36
  have hfind : findR x11.sp.mem ([] ++ [wm]) (runesStr rs) = some wm := by
    rw [findR_snoc rfl, if_pos]
    unfold symIs
    rw [hnm]
    simp
  refine HC.mono (does_ok (P := fun ra A => ra = wm ∧ Ext H36 A) (apply_sym (Q := fun v A => ∃ ra, v = .tuple #[.int .u64 ra, .int .i64 0] ∧ ra = wm ∧ Ext H36 A) L36 (push_get hb36 hH36) tz la (fun v A h => by obtain ⟨ra, h, _⟩ := h; exact ⟨_, _, h⟩)
    (fun A eA => (live_Intern_old (L36.grow eA) ((S35.keep (S := []) rfl e36.fr (by simp)).keep (S := []) rfl eA.fr (by simp)) (by simp) hne (ValidString_runes (T.ext (L36.ext.trans eA)) la h62) (by rw [hrr]; exact h62) hfind).mono (fun v A' h => ⟨wm, h.1, rfl, eA.trans h.2⟩)))) ?_
  rintro _ H37 ⟨_, rfl, rfl, e37⟩
  refine ⟨_, _, rfl, fun b38 H38 hb38 hH38 => ?_⟩
  have e38 : Ext H37 H38 := Ext.push' hH38
  have L38 := (L36.grow e37).grow e38
  refine HC.mono (does_ok (P := fun ra A => ∃ x' : Hp, Live H A k x' ∧ MadeOn x11 x' ra 2 0 rs ∧ Fr k.all H38 A) (HC.mono (apply_name L38 hev (push_get hb38 hH38) tm.word hnm la h62 (by rw [hsp]; omega) (by rw [hsp]; omega)) (fun v A h => by
    obtain ⟨w', x', h1, h2⟩ := h; exact ⟨w', h1, x', h2⟩))) ?_
  rintro _ H39 ⟨wu, rfl, x12, L39, M12, f39⟩
  refine ⟨_, _, rfl, ?_⟩
  rw [if_pos rfl, if_pos rfl, if_pos rfl, if_pos rfl]
  refine HC.mono (text23_c L39.view M12.thing la) ?_
  rintro _ H40 ⟨rfl, e40⟩
  refine ⟨_, rfl, ?_⟩
  have hnew : wu ≠ w := fun h => by
    have := M12.made.sep L38.n64 tw 0 0 (by omega) (by omega)
    rw [h] at this; exact this rfl
  rw [if_pos rfl, if_neg hnew]
  refine HC.mono awake23_c ?_
  rintro _ A ⟨rfl, e⟩
  exact ⟨_, rfl, hR _ _ ⟨rfl, (L39.grow e40).ext.trans e⟩⟩

set_option maxRecDepth 100000 in
theorem law_lifted_row {os : Os} (started : os.Started) {H : Type} {enc : TypeId × Value → H} {F : Stop.Interp} {f : FuncId} {fn : Func} {s : ChangeSpec} {tb : TypeId} {laid : List (String × DataW Unit)}
    (noInit : Tryz.checked.prog.inits.idxOf? f = none) (hfn : Tryz.prog.funcs[f]? = some fn)
    (witness : ∃ (w : World) (tape : Tape) (i : Input), w.os = os ∧ (w.forCall tape i).Shaped Tryz.checked.prog ∧ i.vars = [] ∧ Input.okWide Tryz.checked.prog (w.forCall tape i) .any w.heap.size f i ∧
      (Rows.OpenSpec.upto s).preRow enc Tryz.checked.prog fn [] false laid (w.forCall tape i).memory i.args ∧ Assume.holds {} Tryz.checked.prog (lone (Frame.enter Tryz.checked.prog f i.args .normal) [] (w.forCall tape i)))
    (hvars : s.vars = []) (hpar : (fn.params.toList.all fun t => Tryz.prog.readableRec t && decide (t < Tryz.prog.types.size)) = true) (hrt : fn.resultTypes = #[tb]) (hbool : Tryz.prog.underlying tb = some .bool)
    (hspec : ∀ ds : List (DataW H), ds.length = fn.params.size → s.fn H ds = { results := [.lit (.bool true)], args := ds })
    (walk : ∀ (W : World) (base : Nat) (args : Array Value) (ds : List (DataW H)) (p : List MemPlace), laidMetH Tryz.prog laid W →
      (∀ (j : Nat) t v, fn.params[j]? = some t → args[j]? = some v → Value.okWide Tryz.prog W .any base t v) →
      DataW.TrodAll enc Tryz.prog W 0 (fun _ => true) true fn.params.toList args.toList ds p →
      Rows.uptoBulkAll ds ≤ 1048576 →
      HC Tryz.prog f args W.heap (fun v H' => v = .bool true ∧ Ext W.heap H')) :
    ReturnsInHanded {} Tryz.checked os f .any ((Rows.OpenSpec.upto s).preRow enc Tryz.prog fn [] false laid) (((Rows.OpenSpec.upto s).at F).post enc Tryz.prog fn false true false false) := by
  refine returnsInHanded_of_row (C := Tryz.checked) (s := Rows.OpenSpec.upto s) ownNone started noInit hfn witness ?_
  intro W base args ds gs before hval hW0 _ hk _ hL _ _
  have hW : DataW.Whole enc Tryz.prog fn.params.toList s.vars false W args.toList ds gs before := hW0
  have hW' := hW
  obtain ⟨p, q, hA, hV, rfl, _, _⟩ := hW
  have hgs : gs = [] := by
    rw [hvars] at hV
    cases gs with
    | nil => rfl
    | cons g gs => exact hV.elim
  subst hgs
  have hlen : ds.length = fn.params.size := by
    have : ∀ (ts : List TypeId) (vs : List Value) (ds : List (DataW H)) (ps : List MemPlace), DataW.TrodAll enc Tryz.prog W 0 (fun _ => true) true ts vs ds ps → ds.length = ts.length := by
      intro ts
      induction ts with
      | nil => intro vs ds ps h; cases vs <;> cases ds <;> first | rfl | exact h.elim
      | cons t ts ih => intro vs ds ps h; cases vs <;> cases ds <;> first | exact h.elim | (obtain ⟨p, q, _, h2, _⟩ := h; simp [ih _ _ _ h2])
    simpa using this _ _ _ _ hA
  have hb : Rows.uptoBulkAll ds ≤ 1048576 := by
    have hk' := hk Rows.uptoSmall rfl
    rw [List.append_nil] at hk'
    exact of_decide_eq_true hk'
  refine (walk W base args ds p hL hval hA hb W rfl).mono fun e W' ⟨v, he, hs, hv, hx⟩ => ?_
  subst hv
  refine ⟨_, he, law_post laidOut hvars (fun t ht => ?_) hrt hbool (hspec ds hlen) hW' ⟨hs.os, hs.tape, hs.output, hx.size, hx.old⟩⟩
  have := List.all_eq_true.1 hpar t ht
  rw [Bool.and_eq_true] at this
  exact ⟨this.1, of_decide_eq_true this.2⟩
theorem open_str2 {P : Program} {Hd : Type} {enc : TypeId × Value → Hd} {w : World} {base : Nat} {spare : Nat → Bool} {held : Bool} {r : Reach} {b0 : Nat} {t : TypeId} {v : Value} {d : DataW Hd} {ps : List MemPlace} (ht : P.underlying t = some .string) (hval : Value.okWide P w r b0 t v) (hd : DataW.Trod enc P w base spare held t v d ps) :
    ∃ s : ByteArray, v = .string s ∧ d = .lit (.string s.data.toList) := by
  obtain ⟨s, rfl⟩ := okWide_string ht hval
  obtain ⟨fuel, hf⟩ := hd
  obtain ⟨s', h, hx, hs⟩ := DataW.trod_string ht hf
  simp [Value.cells] at h
  subst h
  exact ⟨s, rfl, congrArg Prod.fst hx⟩

set_option maxRecDepth 100000 in
theorem lifted (os : Os) (started : os.Started) (H : Type) (enc : TypeId × Value → H) (F : Stop.Interp) :
    ReturnsInHanded {} Tryz.checked os 5 .any ((Rows.OpenSpec.upto Rows.textsBackSpec).preRow enc Tryz.prog Tryz.f5 Rows.textsBackUptoRow.domain false Rows.textsBackUptoRow.laid) (((Rows.OpenSpec.upto Rows.textsBackSpec).at F).post enc Tryz.prog Tryz.f5 false true false false) := by
  refine law_lifted_row (tb := 4) started (by kernel_rfl) Tryz.func5
    (witness_row_at (enc := enc) (C := Tryz.checked) false (World.laidAll Tryz.prog os Rows.textsBackUptoRow.laid) #[.string (ByteArray.mk #[]), .int .i64 0] (World.laidAll_os _ _ _) (by kernel_rfl) (by kernel_rfl) (by kernel_rfl)
      (OpenSpec.preRow_of_cond 8 (x := ([.lit (.string []), .lit (.int .i64 0)], [], [])) (by kernel_rfl) (by kernel_rfl) (fun k hk => by cases hk; kernel_rfl) (by kernel_rfl)
        (by rw [MakeChecks.laidMetH_plain _ _ _ (by kernel_rfl)]; exact laidMet_laidAll _ (by kernel_rfl) (by kernel_rfl))))
    rfl (by kernel_rfl) rfl Tryz.underlying4 (fun ds hds => ?_) ?_
  · match ds, hds with
    | [d0, d1], _ => rfl
  intro W base args ds p hL hval hA hb
  rw [Tryz.params5] at hA hval
  obtain ⟨v0, vs0, d0, ds0, p0, q0, hargs, rfl, rfl, h0, r0⟩ := trodAll_cons hA
  obtain ⟨v1, vs1, d1, ds1, p1, q1, rfl, rfl, rfl, h1, r1⟩ := trodAll_cons r0
  obtain ⟨rfl, rfl, rfl⟩ := trodAll_nil r1
  obtain rfl : args = #[v0, v1] := by cases args; simp_all
  obtain ⟨a0, rfl, rfl⟩ := open_str2 Tryz.underlying9 (hval 0 9 v0 rfl rfl) h0
  obtain ⟨a1, rfl, rfl, rfl, w1⟩ := open_int Tryz.underlying3 (hval 1 3 v1 rfl rfl) h1
  refine law a0 a1 W.heap ?_ (tabs8 hL)
  simp only [Rows.uptoBulkAll, Rows.uptoBulk] at hb
  have : a0.data.toList.length = a0.size := by simp
  omega

theorem over : Rows.TextsBackUptoSaid :=
  OpenClaim.holds_of_cond 5 Tryz.f5 rfl rfl rfl rfl rfl rfl rfl ⟨rfl, rfl, rfl, rfl, rfl⟩ rfl rfl rfl rfl rfl (by kernel_rfl) Tryz.func5 (by kernel_rfl)
    (of_decide_eq_true (by kernel_rfl)) (by unfold Func.isWrapper; first | (rw [if_pos (by decide +kernel)]; kernel_rfl) | (rw [if_neg (by decide +kernel)]; exact ⟨rfl, rfl⟩))
    (fun os started H enc _ F => by rw [OpenClaim.pre_eq_preRow]; exact lifted os started H enc F)
theorem proved : Rows.TextsBackUptoCardSaid :=
  Claim7.holds_tied_plain_at .later [] [.data, .pinned] true (true, "7894965f36cbce92406310930e64986d2ea7bf966cf13c5e6d826dd7bc3f29f6") false over (fun _ h => by cases h) (by kernel_rfl) (fun _ h => by cases h) textsBackUpto_row_tie rfl ⟨rfl, rfl⟩ (by kernel_rfl) rfl
    (fun f fn hf hfn => by
      obtain rfl : f = 5 := Option.some.inj ((show Tryz.prog.funcNamed "moraine/morainelaw23.TextsBack" = some 5 by kernel_rfl).symm.trans hf) |>.symm
      obtain rfl : fn = Tryz.f5 := (Option.some.inj (Tryz.func5.symm.trans hfn)).symm
      exact ⟨by kernel_rfl, fun j t ht => by
        rw [Tryz.params5] at ht
        have hm : t ∈ [9, 3] := by simpa using Array.mem_of_getElem? ht
        have hall : ([9, 3].all fun u => !Tryz.prog.wantsStandIn u) = true := by kernel_rfl
        exact (show Tryz.prog.wantsStandIn t = false by simpa using List.all_eq_true.1 hall t hm)⟩)
    (by kernel_rfl)
#print axioms proved
end Go.Proofs.YthlohokmnajpoaaGreatDoor.textsBack
