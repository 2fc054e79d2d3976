/-
  Characters that become a text, and are told again. Proves nothing of any one statement.
-/
import Derived.Test.YthlohokmnajpoaaGreatDoorText
set_option linter.unusedVariables false
set_option linter.unusedSimpArgs false
namespace Go.Proofs.YthlohokmnajpoaaGreatDoor
open Go

theorem ba_size (a b : ByteArray) : (a ++ b).size = a.size + b.size := by simp
theorem get_mid (pre e post : ByteArray) (k : Nat) (h : k < e.size) : (pre ++ e ++ post).get! (pre.size + k) = e.get! k := by
  have h1 : ∀ (x : ByteArray) (i : Nat), x.get! i = x.data[i]! := fun x i => by cases x; rfl
  rw [h1, h1]
  simp only [ByteArray.data_append]
  have hs : pre.size = pre.data.size := rfl
  have he : e.size = e.data.size := rfl
  rw [hs, getElem!_pos _ _ (by simp; omega), getElem!_pos _ _ (by omega)]
  rw [Array.getElem_append_left (by simp; omega), Array.getElem_append_right (by omega)]
  congr 1; omega
theorem lit_get (l : List UInt8) (k : Nat) (h : k < l.length) : (ByteArray.mk l.toArray).get! k = l[k] := by
  show l.toArray[k]! = _
  rw [getElem!_pos _ _ (by simpa using h)]; simp
theorem lit_size (l : List UInt8) : (ByteArray.mk l.toArray).size = l.length := by
  show l.toArray.size = _; simp
theorem u8 (n : Nat) (h : n < 256) : (UInt8.ofNat n).toNat = n := by
  simp [UInt8.toNat_ofNat']; omega
theorem mid_get (pre post : ByteArray) (l : List UInt8) (k n : Nat) (h : k < l.length) (hn : l[k] = UInt8.ofNat n) (h2 : n < 256) : ((pre ++ ByteArray.mk l.toArray ++ post).get! (pre.size + k)).toNat = n := by
  rw [get_mid _ _ _ _ (by rw [lit_size]; exact h), lit_get l k h, hn, u8 n h2]
theorem mid_lt (pre post : ByteArray) (l : List UInt8) (k : Nat) (h : k < l.length) : pre.size + k < (pre ++ ByteArray.mk l.toArray ++ post).size := by
  rw [ba_size, ba_size, lit_size l]; omega
section
variable {S : ByteArray} {i : Nat}
theorem dec1 {n0 : Nat} (h0 : (S.get! (i + 0)).toNat = n0) (h : n0 < 128) : Utf8.decode S i = (n0, 1) := by
  unfold Utf8.decode
  simp only [h0, if_pos h]
theorem dec2 {n0 n1 : Nat} (h0 : (S.get! (i + 0)).toNat = n0) (h1 : (S.get! (i + 1)).toNat = n1) (s1 : i + 1 < S.size) (a0 : n0 / 32 = 6) (a1 : n1 / 64 = 2) (hc : 128 ≤ n0 % 32 * 64 + n1 % 64) :
    Utf8.decode S i = (n0 % 32 * 64 + n1 % 64, 2) := by
  have e1 : ¬ n0 < 128 := by omega
  unfold Utf8.decode
  simp only [h0, h1, if_neg e1, a0, a1, decide_eq_true s1, beq_self_eq_true, Bool.and_self, if_true]
  rw [if_pos hc]
theorem dec3 {n0 n1 n2 : Nat} (h0 : (S.get! (i + 0)).toNat = n0) (h1 : (S.get! (i + 1)).toNat = n1) (h2 : (S.get! (i + 2)).toNat = n2) (s1 : i + 1 < S.size) (s2 : i + 2 < S.size) (a0 : n0 / 16 = 14) (a1 : n1 / 64 = 2) (a2 : n2 / 64 = 2)
    (hc : 2048 ≤ n0 % 16 * 4096 + n1 % 64 * 64 + n2 % 64) (hv : Utf8.valid ((n0 % 16 * 4096 + n1 % 64 * 64 + n2 % 64 : Nat) : Int) = true) :
    Utf8.decode S i = (n0 % 16 * 4096 + n1 % 64 * 64 + n2 % 64, 3) := by
  have e1 : ¬ n0 < 128 := by omega
  have e2 : (n0 / 32 == 6) = false := by simp; omega
  unfold Utf8.decode
  simp only [h0, h1, h2, if_neg e1, e2, a0, a1, a2, decide_eq_true s1, decide_eq_true s2, beq_self_eq_true, Bool.and_self, Bool.false_and, if_true, Bool.false_eq_true, if_false]
  rw [if_pos (by rw [hv, Bool.and_true, decide_eq_true_eq]; exact hc)]
theorem dec4 {n0 n1 n2 n3 : Nat} (h0 : (S.get! (i + 0)).toNat = n0) (h1 : (S.get! (i + 1)).toNat = n1) (h2 : (S.get! (i + 2)).toNat = n2) (h3 : (S.get! (i + 3)).toNat = n3) (s1 : i + 1 < S.size) (s2 : i + 2 < S.size) (s3 : i + 3 < S.size)
    (a0 : n0 / 8 = 30) (a1 : n1 / 64 = 2) (a2 : n2 / 64 = 2) (a3 : n3 / 64 = 2)
    (hc : 65536 ≤ n0 % 8 * 262144 + n1 % 64 * 4096 + n2 % 64 * 64 + n3 % 64) (hv : Utf8.valid ((n0 % 8 * 262144 + n1 % 64 * 4096 + n2 % 64 * 64 + n3 % 64 : Nat) : Int) = true) :
    Utf8.decode S i = (n0 % 8 * 262144 + n1 % 64 * 4096 + n2 % 64 * 64 + n3 % 64, 4) := by
  have e1 : ¬ n0 < 128 := by omega
  have e2 : (n0 / 32 == 6) = false := by simp; omega
  have e3 : (n0 / 16 == 14) = false := by simp; omega
  unfold Utf8.decode
  simp only [h0, h1, h2, h3, if_neg e1, e2, e3, a0, a1, a2, a3, decide_eq_true s1, decide_eq_true s2, decide_eq_true s3, beq_self_eq_true, Bool.and_self, Bool.false_and, if_true, Bool.false_eq_true, if_false]
  rw [if_pos (by rw [hv, Bool.and_true, decide_eq_true_eq]; exact hc)]
end
theorem decode_enc (pre post : ByteArray) (c : Nat) (hv : Utf8.valid c = true) : Utf8.decode (pre ++ Utf8.encode c ++ post) pre.size = (c, (Utf8.encode c).size) := by
  have hc : c < 1114112 := by
    unfold Utf8.valid at hv
    simp only [Bool.or_eq_true, Bool.and_eq_true, decide_eq_true_eq] at hv
    omega
  unfold Utf8.encode
  simp only [hv, if_true, Int.toNat_natCast]
  by_cases h1 : c < 128
  · rw [if_pos h1]
    exact dec1 (mid_get pre post [UInt8.ofNat c] 0 c (by simp) rfl (by omega)) h1
  rw [if_neg h1]
  by_cases h2 : c < 2048
  · rw [if_pos h2]
    generalize hl : [UInt8.ofNat (192 + c / 64), UInt8.ofNat (128 + c % 64)] = l
    have hlen : l.length = 2 := by rw [← hl]; rfl
    have e := dec2 (S := pre ++ ByteArray.mk l.toArray ++ post) (i := pre.size) (mid_get pre post l 0 (192 + c / 64) (by omega) (by subst hl; rfl) (by omega)) (mid_get pre post l 1 (128 + c % 64) (by omega) (by subst hl; rfl) (by omega))
      (mid_lt _ _ _ _ (by omega)) (by omega) (by omega) (by omega)
    rw [show (192 + c / 64) % 32 * 64 + (128 + c % 64) % 64 = c by omega] at e
    rw [← show (ByteArray.mk l.toArray).size = 2 by rw [lit_size, hlen]] at e
    subst hl
    exact e
  rw [if_neg h2]
  by_cases h3 : c < 65536
  · rw [if_pos h3]
    generalize hl : [UInt8.ofNat (224 + c / 4096), UInt8.ofNat (128 + c / 64 % 64), UInt8.ofNat (128 + c % 64)] = l
    have hlen : l.length = 3 := by rw [← hl]; rfl
    have e4 : (224 + c / 4096) % 16 * 4096 + (128 + c / 64 % 64) % 64 * 64 + (128 + c % 64) % 64 = c := by omega
    have e := dec3 (S := pre ++ ByteArray.mk l.toArray ++ post) (i := pre.size) (mid_get pre post l 0 (224 + c / 4096) (by omega) (by subst hl; rfl) (by omega)) (mid_get pre post l 1 (128 + c / 64 % 64) (by omega) (by subst hl; rfl) (by omega))
      (mid_get pre post l 2 (128 + c % 64) (by omega) (by subst hl; rfl) (by omega)) (mid_lt _ _ _ _ (by omega)) (mid_lt _ _ _ _ (by omega)) (by omega) (by omega) (by omega) (by omega) (by rw [e4]; exact hv)
    rw [e4, ← show (ByteArray.mk l.toArray).size = 3 by rw [lit_size, hlen]] at e
    subst hl
    exact e
  · rw [if_neg h3]
    generalize hl : [UInt8.ofNat (240 + c / 262144), UInt8.ofNat (128 + c / 4096 % 64), UInt8.ofNat (128 + c / 64 % 64), UInt8.ofNat (128 + c % 64)] = l
    have hlen : l.length = 4 := by rw [← hl]; rfl
    have e4 : (240 + c / 262144) % 8 * 262144 + (128 + c / 4096 % 64) % 64 * 4096 + (128 + c / 64 % 64) % 64 * 64 + (128 + c % 64) % 64 = c := by omega
    have e := dec4 (S := pre ++ ByteArray.mk l.toArray ++ post) (i := pre.size) (mid_get pre post l 0 (240 + c / 262144) (by omega) (by subst hl; rfl) (by omega)) (mid_get pre post l 1 (128 + c / 4096 % 64) (by omega) (by subst hl; rfl) (by omega))
      (mid_get pre post l 2 (128 + c / 64 % 64) (by omega) (by subst hl; rfl) (by omega)) (mid_get pre post l 3 (128 + c % 64) (by omega) (by subst hl; rfl) (by omega)) (mid_lt _ _ _ _ (by omega)) (mid_lt _ _ _ _ (by omega)) (mid_lt _ _ _ _ (by omega)) (by omega) (by omega) (by omega) (by omega) (by omega) (by rw [e4]; exact hv)
    rw [e4, ← show (ByteArray.mk l.toArray).size = 4 by rw [lit_size, hlen]] at e
    subst hl
    exact e

def Letter (r : Int) : Prop := Utf8.valid r = true
theorem Letter.nat {r : Int} (h : Letter r) : 0 ≤ r ∧ r ≤ 1114111 := by
  unfold Letter Utf8.valid at h
  simp only [Bool.or_eq_true, Bool.and_eq_true, decide_eq_true_eq] at h
  omega
theorem enc_pos (r : Int) : 0 < (Utf8.encode r).size := by
  unfold Utf8.encode
  simp only []
  repeat' split
  all_goals first | exact Nat.succ_pos 0 | exact Nat.succ_pos 1 | exact Nat.succ_pos 2 | exact Nat.succ_pos 3
def catR : List Int → ByteArray
  | [] => ByteArray.empty
  | r :: rs => Utf8.encode r ++ catR rs
theorem ba_assoc (a b c : ByteArray) : a ++ b ++ c = a ++ (b ++ c) := by
  apply ByteArray.ext; simp [ByteArray.data_append, Array.append_assoc]
theorem ba_nil (a : ByteArray) : a ++ ByteArray.empty = a := by
  apply ByteArray.ext; simp [ByteArray.data_append]
theorem nil_ba (a : ByteArray) : ByteArray.empty ++ a = a := by
  apply ByteArray.ext; simp [ByteArray.data_append]
theorem foldl_cat : ∀ (rs : List Int) (s : ByteArray), rs.foldl (fun s n => s ++ Utf8.encode n) s = s ++ catR rs
  | [], s => (ba_nil s).symm
  | r :: rs, s => by
    rw [List.foldl_cons, foldl_cat rs, ba_assoc]; rfl
theorem runesStr_cat (rs : List Int) : runesStr rs = catR rs := by
  unfold runesStr; rw [foldl_cat, nil_ba]
theorem runesAt_cat : ∀ (rs : List Int) (pre : ByteArray), (∀ r ∈ rs, Letter r) → runesAt (pre ++ catR rs) pre.size = rs
  | [], pre, _ => by
    rw [show catR [] = ByteArray.empty from rfl, ba_nil]
    exact runesAt_end (by omega)
  | r :: rs, pre, h => by
    have hr := h r (by simp)
    obtain ⟨c, rfl⟩ : ∃ c : Nat, r = c := ⟨r.toNat, by have := hr.nat; omega⟩
    have hd := decode_enc pre (catR rs) c hr
    have hp := enc_pos (c : Int)
    have e : pre ++ catR ((c : Int) :: rs) = pre ++ Utf8.encode c ++ catR rs := by rw [ba_assoc]; rfl
    rw [e, runesAt_step (by rw [ba_size, ba_size]; omega), hd]
    have e2 : pre.size + (Utf8.encode (c : Int)).size = (pre ++ Utf8.encode (c : Int)).size := by rw [ba_size]
    simp only []
    rw [e2, runesAt_cat rs (pre ++ Utf8.encode c) (fun x hx => h x (by simp [hx]))]
theorem runesOf_runesStr {rs : List Int} (h : ∀ r ∈ rs, Letter r) : runesOf (runesStr rs) = rs := by
  have := runesAt_cat rs ByteArray.empty h
  rw [nil_ba] at this
  rw [runesStr_cat]; exact this
theorem decode_valid (s : ByteArray) (pos : Nat) : Utf8.valid ((Utf8.decode s pos).1 : Int) = true := by
  unfold Utf8.decode
  simp only []
  have small : ∀ c : Nat, c < 55296 → Utf8.valid (c : Int) = true := fun c h => by
    unfold Utf8.valid
    rw [decide_eq_true (show (0 : Int) ≤ c by omega), decide_eq_true (show (c : Int) < 0xD800 by omega)]; rfl
  split
  · exact small _ (by omega)
  split
  · split
    · exact small _ (by omega)
    · decide
  split
  · split
    · rename_i h; simp only [Bool.and_eq_true] at h; exact h.2
    · decide
  split
  · split
    · rename_i h; simp only [Bool.and_eq_true] at h; exact h.2
    · decide
  · decide
theorem runesFrom_letter (s : ByteArray) : ∀ (f pos : Nat), ∀ r ∈ runesFrom s f pos, Letter r
  | 0, _, r, h => by simp [runesFrom] at h
  | f + 1, pos, r, h => by
    simp only [runesFrom] at h
    by_cases hp : pos < s.size
    · rw [if_pos hp] at h
      rcases List.mem_cons.1 h with rfl | h
      · exact decode_valid s pos
      · exact runesFrom_letter s f _ r h
    · rw [if_neg hp] at h; simp at h
theorem runesOf_letter (s : ByteArray) : ∀ r ∈ runesOf s, Letter r := runesFrom_letter s _ _
theorem wordsText_letters {ws : List Int} (h : ∀ r ∈ ws, Letter r) : wordsText ws = runesStr ws := by
  unfold wordsText
  congr 1
  refine (List.map_congr_left fun x hx => ?_).trans (List.map_id _)
  have := (h x hx).nat
  rw [if_neg (by omega)]; rfl
end Go.Proofs.YthlohokmnajpoaaGreatDoor
