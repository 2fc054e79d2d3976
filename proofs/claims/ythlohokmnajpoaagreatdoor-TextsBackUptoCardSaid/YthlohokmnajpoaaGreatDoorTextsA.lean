/-
  texts: the primitives' table, what is asked of arguments. Proves nothing of any one statement.
-/
import Derived.Test.YthlohokmnajpoaaGreatDoorRunes
import Derived.Test.YthlohokmnajpoaaGreatDoorLiveT
import Derived.Test.YthlohokmnajpoaaGreatDoorListsM
import Derived.Test.YthlohokmnajpoaaGreatDoorFtexts
import Derived.Test.YthlohokmnajpoaaGreatDoorFtexts1
import Derived.Test.YthlohokmnajpoaaGreatDoorFtexts2
import Derived.Test.YthlohokmnajpoaaGreatDoorFtexts3
import Derived.Test.YthlohokmnajpoaaGreatDoorFnsC
import Derived.Test.YthlohokmnajpoaaGreatDoorFsyms
set_option linter.unusedVariables false
set_option linter.unusedSimpArgs false
namespace Go.Proofs.YthlohokmnajpoaaGreatDoor
open Go

structure P23 where
  name : ByteArray
  least : Int
  most : Int
  kb : Option Addr
  kn : Nat
  kc : Nat
def P23.cells (p : P23) : List Value := [.string p.name, .int .i64 p.least, .int .i64 p.most, .slice p.kb p.kn p.kc]
def lm23 : List (Int × Int × Nat) := [(1, 1, 1), (1, 1, 1), (1, 1, 1), (1, 1, 1), (1, 1, 1), (1, 1, 1), (1, 1, 1), (1, 1, 1), (1, 1, 1), (1, 1, 1), (1, -1, 1), (1, -1, 1), (1, -1, 1), (1, -1, 1), (1, -1, 1), (1, 2, 2), (0, -1, 1), (1, 1, 1), (2, 2, 2), (3, 3, 3), (1, -1, 1), (1, -1, 1), (1, -1, 1), (3, 3, 3), (0, -1, 1), (1, 1, 1), (1, 1, 1), (1, 1, 1), (1, 1, 1), (1, 1, 1), (1, 1, 1), (1, 1, 1)]
def kinds23 : List (List Int) := [[0], [0], [0], [1], [3], [1], [1], [1], [1], [1], [1], [1], [1], [1], [1], [3, 1], [1], [2], [2, 3], [2, 3, 1], [2], [2], [2], [2, 3, 3], [2], [2], [2], [6], [2], [5], [4], [6]]
def i64s (l : List Int) : List Value := l.map (Value.int .i64)
def KindsAt (H : Array Obj) : List P23 → List (List Int) → Prop
  | p :: ps, k :: ks => SrcAt H p.kb (i64s k) ∧ KindsAt H ps ks
  | _, _ => True
theorem KindsAt.get {H : Array Obj} : ∀ {ps : List P23} {ks : List (List Int)} {n : Nat} (h : KindsAt H ps ks) (h1 : n < ps.length) (h2 : n < ks.length), SrcAt H ps[n].kb (i64s ks[n])
  | _ :: _, _ :: _, 0, h, _, _ => h.1
  | _ :: ps, _ :: ks, n + 1, h, h1, h2 => KindsAt.get (ps := ps) (ks := ks) h.2 (by simpa using h1) (by simpa using h2)
theorem p23_take : ∀ (ps : List P23) (n : Nat) (h : n < ps.length), ((ps.flatMap P23.cells).drop (n * 4)).take 4 = ps[n].cells
  | p :: ps, 0, _ => rfl
  | p :: ps, n + 1, h => by
    rw [show (n + 1) * 4 = n * 4 + 1 + 1 + 1 + 1 by omega]
    exact p23_take ps n (by simpa using h)

theorem texts_table_1_c {H : Array Obj} {nm : ByteArray} {kb : Option Addr} {kn kc : Nat} : texts_table_1.C nm kb kn kc H (fun v H' => v = .agg #[.string nm, .int .i64 (kn : Int), .int .i64 (kn : Int), .slice kb kn kc] ∧ Ext H H') := by
  refine HC.via fun R hR => texts_table_1.link ?_
  unfold texts_table_1.pt
  intro b H1 hb hH1
  obtain ⟨c2, p2⟩ := box_new (n := 4) (vs := [.string nm, .int .i64 (kn : Int), .int .i64 (kn : Int), .slice kb kn kc]) hb hH1 rfl rfl
  refine ⟨c2, fun H2 hH2 => ?_⟩
  obtain ⟨g2, e2⟩ := p2 H2 hH2
  exact ⟨_, _, _, _, _, _, box_row g2, hR _ _ ⟨rfl, e2⟩⟩
theorem texts_table_2_c {H : Array Obj} {least most pl pm : Int} {nm : ByteArray} {kb : Option Addr} {kn kc : Nat} : texts_table_2.C least most nm pl pm kb kn kc H (fun v H' => v = .agg #[.string nm, .int .i64 least, .int .i64 most, .slice kb kn kc] ∧ Ext H H') := by
  refine HC.via fun R hR => texts_table_2.link ?_
  unfold texts_table_2.pt
  intro b H1 hb hH1 b2 H2 hb2 hH2
  have e1 : Ext H H1 := Ext.push' hH1
  have e2 : Ext H1 H2 := Ext.push' hH2
  have s1 : H1.size = H.size + 1 := by rw [hH1]; simp
  have g2 := e2.get (push_get hb hH1)
  have q2 := push_get hb2 hH2
  obtain ⟨c3, p3⟩ := box_put g2 1 (.int .i64 least) (by simp)
  refine ⟨c3, fun H3 hH3 => ?_⟩
  obtain ⟨g3, f3⟩ := p3 H3 hH3
  obtain ⟨c4, p4⟩ := box_put g3 2 (.int .i64 most) (by simp)
  refine ⟨c4, fun H4 hH4 => ?_⟩
  obtain ⟨g4, f4⟩ := p4 H4 hH4
  refine ⟨nm, least, most, kb, kn, kc, box_row (vs := [.string nm, .int .i64 least, .int .i64 most, .slice kb kn kc]) g4, ?_⟩
  obtain ⟨c5, p5⟩ := box_set (n := 4) (vs := [.string nm, .int .i64 least, .int .i64 most, .slice kb kn kc]) (f4.get (by simp; omega) (f3.get (by simp; omega) q2)) rfl rfl
  refine ⟨c5, fun H5 hH5 => ?_⟩
  obtain ⟨g5, f5⟩ := p5 H5 hH5
  refine ⟨_, _, _, _, _, _, box_row g5, hR _ _ ⟨rfl, ?_⟩⟩
  exact (((e1.trans e2).fr_trans f3 (fun i hi => by simp at hi; omega)).fr_trans f4 (fun i hi => by simp at hi; omega)).fr_trans f5 (fun i hi => by simp at hi; omega)
set_option maxRecDepth 100000 in
theorem texts_table_c {H : Array Obj} : texts_table.C H (fun v H' => ∃ ps : List P23, v = .agg (ps.flatMap P23.cells).toArray ∧ ps.map (fun p => (p.least, p.most, p.kn)) = lm23 ∧ KindsAt H' ps kinds23 ∧ Ext H H') := by
  refine HC.via fun R hR => texts_table.link ?_
  unfold texts_table.pt
  intro b H1 hb hH1
  have g1 := push_get hb hH1
  have e1 : Ext H H1 := Ext.push' hH1
  have bx1 : Bx [] H1 := .nil
  intro k0 H2 hk0 hH2
  have x2 : Ext H1 H2 := Ext.push' hH2
  have e2 := e1.trans x2
  have g2 := x2.get g1
  have bx2 := Bx.cons (push_get hk0 hH2) (bx1.ext x2)
  clear x2
  have lk0 : b < k0 := hk0 ▸ lt_size g1
  refine HC.mono texts_table_1_c ?_
  rintro _ H3 ⟨rfl, x3⟩
  have e3 := e2.trans x3
  have g3 := x3.get g2
  have bx3 := bx2.ext x3
  clear x3 bx2
  refine ⟨_, _, _, _, _, _, rfl, ?_⟩
  intro k1 H4 hk1 hH4
  have x4 : Ext H3 H4 := Ext.push' hH4
  have e4 := e3.trans x4
  have g4 := x4.get g3
  have bx4 := Bx.cons (push_get hk1 hH4) (bx3.ext x4)
  clear x4
  have lk1 : b < k1 := hk1 ▸ lt_size g3
  refine HC.mono texts_table_1_c ?_
  rintro _ H5 ⟨rfl, x5⟩
  have e5 := e4.trans x5
  have g5 := x5.get g4
  have bx5 := bx4.ext x5
  clear x5 bx4
  refine ⟨_, _, _, _, _, _, rfl, ?_⟩
  intro k2 H6 hk2 hH6
  have x6 : Ext H5 H6 := Ext.push' hH6
  have e6 := e5.trans x6
  have g6 := x6.get g5
  have bx6 := Bx.cons (push_get hk2 hH6) (bx5.ext x6)
  clear x6
  have lk2 : b < k2 := hk2 ▸ lt_size g5
  refine HC.mono texts_table_1_c ?_
  rintro _ H7 ⟨rfl, x7⟩
  have e7 := e6.trans x7
  have g7 := x7.get g6
  have bx7 := bx6.ext x7
  clear x7 bx6
  refine ⟨_, _, _, _, _, _, rfl, ?_⟩
  intro k3 H8 hk3 hH8
  have x8 : Ext H7 H8 := Ext.push' hH8
  have e8 := e7.trans x8
  have g8 := x8.get g7
  have bx8 := Bx.cons (push_get hk3 hH8) (bx7.ext x8)
  clear x8
  have lk3 : b < k3 := hk3 ▸ lt_size g7
  refine HC.mono texts_table_1_c ?_
  rintro _ H9 ⟨rfl, x9⟩
  have e9 := e8.trans x9
  have g9 := x9.get g8
  have bx9 := bx8.ext x9
  clear x9 bx8
  refine ⟨_, _, _, _, _, _, rfl, ?_⟩
  intro k4 H10 hk4 hH10
  have x10 : Ext H9 H10 := Ext.push' hH10
  have e10 := e9.trans x10
  have g10 := x10.get g9
  have bx10 := Bx.cons (push_get hk4 hH10) (bx9.ext x10)
  clear x10
  have lk4 : b < k4 := hk4 ▸ lt_size g9
  refine HC.mono texts_table_1_c ?_
  rintro _ H11 ⟨rfl, x11⟩
  have e11 := e10.trans x11
  have g11 := x11.get g10
  have bx11 := bx10.ext x11
  clear x11 bx10
  refine ⟨_, _, _, _, _, _, rfl, ?_⟩
  intro k5 H12 hk5 hH12
  have x12 : Ext H11 H12 := Ext.push' hH12
  have e12 := e11.trans x12
  have g12 := x12.get g11
  have bx12 := Bx.cons (push_get hk5 hH12) (bx11.ext x12)
  clear x12
  have lk5 : b < k5 := hk5 ▸ lt_size g11
  refine HC.mono texts_table_1_c ?_
  rintro _ H13 ⟨rfl, x13⟩
  have e13 := e12.trans x13
  have g13 := x13.get g12
  have bx13 := bx12.ext x13
  clear x13 bx12
  refine ⟨_, _, _, _, _, _, rfl, ?_⟩
  intro k6 H14 hk6 hH14
  have x14 : Ext H13 H14 := Ext.push' hH14
  have e14 := e13.trans x14
  have g14 := x14.get g13
  have bx14 := Bx.cons (push_get hk6 hH14) (bx13.ext x14)
  clear x14
  have lk6 : b < k6 := hk6 ▸ lt_size g13
  refine HC.mono texts_table_1_c ?_
  rintro _ H15 ⟨rfl, x15⟩
  have e15 := e14.trans x15
  have g15 := x15.get g14
  have bx15 := bx14.ext x15
  clear x15 bx14
  refine ⟨_, _, _, _, _, _, rfl, ?_⟩
  intro k7 H16 hk7 hH16
  have x16 : Ext H15 H16 := Ext.push' hH16
  have e16 := e15.trans x16
  have g16 := x16.get g15
  have bx16 := Bx.cons (push_get hk7 hH16) (bx15.ext x16)
  clear x16
  have lk7 : b < k7 := hk7 ▸ lt_size g15
  refine HC.mono texts_table_1_c ?_
  rintro _ H17 ⟨rfl, x17⟩
  have e17 := e16.trans x17
  have g17 := x17.get g16
  have bx17 := bx16.ext x17
  clear x17 bx16
  refine ⟨_, _, _, _, _, _, rfl, ?_⟩
  intro k8 H18 hk8 hH18
  have x18 : Ext H17 H18 := Ext.push' hH18
  have e18 := e17.trans x18
  have g18 := x18.get g17
  have bx18 := Bx.cons (push_get hk8 hH18) (bx17.ext x18)
  clear x18
  have lk8 : b < k8 := hk8 ▸ lt_size g17
  refine HC.mono texts_table_1_c ?_
  rintro _ H19 ⟨rfl, x19⟩
  have e19 := e18.trans x19
  have g19 := x19.get g18
  have bx19 := bx18.ext x19
  clear x19 bx18
  refine ⟨_, _, _, _, _, _, rfl, ?_⟩
  intro k9 H20 hk9 hH20
  have x20 : Ext H19 H20 := Ext.push' hH20
  have e20 := e19.trans x20
  have g20 := x20.get g19
  have bx20 := Bx.cons (push_get hk9 hH20) (bx19.ext x20)
  clear x20
  have lk9 : b < k9 := hk9 ▸ lt_size g19
  refine HC.mono texts_table_1_c ?_
  rintro _ H21 ⟨rfl, x21⟩
  have e21 := e20.trans x21
  have g21 := x21.get g20
  have bx21 := bx20.ext x21
  clear x21 bx20
  refine ⟨_, _, _, _, _, _, rfl, ?_⟩
  intro k10 H22 hk10 hH22
  have x22 : Ext H21 H22 := Ext.push' hH22
  have e22 := e21.trans x22
  have g22 := x22.get g21
  have bx22 := Bx.cons (push_get hk10 hH22) (bx21.ext x22)
  clear x22
  have lk10 : b < k10 := hk10 ▸ lt_size g21
  refine HC.mono texts_table_1_c ?_
  rintro _ H23 ⟨rfl, x23⟩
  have e23 := e22.trans x23
  have g23 := x23.get g22
  have bx23 := bx22.ext x23
  clear x23 bx22
  refine ⟨_, _, _, _, _, _, rfl, ?_⟩
  refine HC.mono texts_table_2_c ?_
  rintro _ H24 ⟨rfl, x24⟩
  have e24 := e23.trans x24
  have g24 := x24.get g23
  have bx24 := bx23.ext x24
  clear x24 bx23
  refine ⟨_, _, _, _, _, _, rfl, ?_⟩
  intro k11 H25 hk11 hH25
  have x25 : Ext H24 H25 := Ext.push' hH25
  have e25 := e24.trans x25
  have g25 := x25.get g24
  have bx25 := Bx.cons (push_get hk11 hH25) (bx24.ext x25)
  clear x25
  have lk11 : b < k11 := hk11 ▸ lt_size g24
  refine HC.mono texts_table_1_c ?_
  rintro _ H26 ⟨rfl, x26⟩
  have e26 := e25.trans x26
  have g26 := x26.get g25
  have bx26 := bx25.ext x26
  clear x26 bx25
  refine ⟨_, _, _, _, _, _, rfl, ?_⟩
  refine HC.mono texts_table_2_c ?_
  rintro _ H27 ⟨rfl, x27⟩
  have e27 := e26.trans x27
  have g27 := x27.get g26
  have bx27 := bx26.ext x27
  clear x27 bx26
  refine ⟨_, _, _, _, _, _, rfl, ?_⟩
  intro k12 H28 hk12 hH28
  have x28 : Ext H27 H28 := Ext.push' hH28
  have e28 := e27.trans x28
  have g28 := x28.get g27
  have bx28 := Bx.cons (push_get hk12 hH28) (bx27.ext x28)
  clear x28
  have lk12 : b < k12 := hk12 ▸ lt_size g27
  refine HC.mono texts_table_1_c ?_
  rintro _ H29 ⟨rfl, x29⟩
  have e29 := e28.trans x29
  have g29 := x29.get g28
  have bx29 := bx28.ext x29
  clear x29 bx28
  refine ⟨_, _, _, _, _, _, rfl, ?_⟩
  refine HC.mono texts_table_2_c ?_
  rintro _ H30 ⟨rfl, x30⟩
  have e30 := e29.trans x30
  have g30 := x30.get g29
  have bx30 := bx29.ext x30
  clear x30 bx29
  refine ⟨_, _, _, _, _, _, rfl, ?_⟩
  intro k13 H31 hk13 hH31
  have x31 : Ext H30 H31 := Ext.push' hH31
  have e31 := e30.trans x31
  have g31 := x31.get g30
  have bx31 := Bx.cons (push_get hk13 hH31) (bx30.ext x31)
  clear x31
  have lk13 : b < k13 := hk13 ▸ lt_size g30
  refine HC.mono texts_table_1_c ?_
  rintro _ H32 ⟨rfl, x32⟩
  have e32 := e31.trans x32
  have g32 := x32.get g31
  have bx32 := bx31.ext x32
  clear x32 bx31
  refine ⟨_, _, _, _, _, _, rfl, ?_⟩
  refine HC.mono texts_table_2_c ?_
  rintro _ H33 ⟨rfl, x33⟩
  have e33 := e32.trans x33
  have g33 := x33.get g32
  have bx33 := bx32.ext x33
  clear x33 bx32
  refine ⟨_, _, _, _, _, _, rfl, ?_⟩
  intro k14 H34 hk14 hH34
  have x34 : Ext H33 H34 := Ext.push' hH34
  have e34 := e33.trans x34
  have g34 := x34.get g33
  have bx34 := Bx.cons (push_get hk14 hH34) (bx33.ext x34)
  clear x34
  have lk14 : b < k14 := hk14 ▸ lt_size g33
  refine HC.mono texts_table_1_c ?_
  rintro _ H35 ⟨rfl, x35⟩
  have e35 := e34.trans x35
  have g35 := x35.get g34
  have bx35 := bx34.ext x35
  clear x35 bx34
  refine ⟨_, _, _, _, _, _, rfl, ?_⟩
  refine HC.mono texts_table_2_c ?_
  rintro _ H36 ⟨rfl, x36⟩
  have e36 := e35.trans x36
  have g36 := x36.get g35
  have bx36 := bx35.ext x36
  clear x36 bx35
  refine ⟨_, _, _, _, _, _, rfl, ?_⟩
  intro k15 H37 hk15 hH37
  have x37 : Ext H36 H37 := Ext.push' hH37
  have e37 := e36.trans x37
  have g37 := x37.get g36
  have bx37 := Bx.cons (push_get hk15 hH37) (bx36.ext x37)
  clear x37
  have lk15 : b < k15 := hk15 ▸ lt_size g36
  refine HC.mono texts_table_1_c ?_
  rintro _ H38 ⟨rfl, x38⟩
  have e38 := e37.trans x38
  have g38 := x38.get g37
  have bx38 := bx37.ext x38
  clear x38 bx37
  refine ⟨_, _, _, _, _, _, rfl, ?_⟩
  refine HC.mono texts_table_2_c ?_
  rintro _ H39 ⟨rfl, x39⟩
  have e39 := e38.trans x39
  have g39 := x39.get g38
  have bx39 := bx38.ext x39
  clear x39 bx38
  refine ⟨_, _, _, _, _, _, rfl, ?_⟩
  intro k16 H40 hk16 hH40
  have x40 : Ext H39 H40 := Ext.push' hH40
  have e40 := e39.trans x40
  have g40 := x40.get g39
  have bx40 := Bx.cons (push_get hk16 hH40) (bx39.ext x40)
  clear x40
  have lk16 : b < k16 := hk16 ▸ lt_size g39
  refine HC.mono texts_table_1_c ?_
  rintro _ H41 ⟨rfl, x41⟩
  have e41 := e40.trans x41
  have g41 := x41.get g40
  have bx41 := bx40.ext x41
  clear x41 bx40
  refine ⟨_, _, _, _, _, _, rfl, ?_⟩
  refine HC.mono texts_table_2_c ?_
  rintro _ H42 ⟨rfl, x42⟩
  have e42 := e41.trans x42
  have g42 := x42.get g41
  have bx42 := bx41.ext x42
  clear x42 bx41
  refine ⟨_, _, _, _, _, _, rfl, ?_⟩
  intro k17 H43 hk17 hH43
  have x43 : Ext H42 H43 := Ext.push' hH43
  have e43 := e42.trans x43
  have g43 := x43.get g42
  have bx43 := Bx.cons (push_get hk17 hH43) (bx42.ext x43)
  clear x43
  have lk17 : b < k17 := hk17 ▸ lt_size g42
  refine HC.mono texts_table_1_c ?_
  rintro _ H44 ⟨rfl, x44⟩
  have e44 := e43.trans x44
  have g44 := x44.get g43
  have bx44 := bx43.ext x44
  clear x44 bx43
  refine ⟨_, _, _, _, _, _, rfl, ?_⟩
  intro k18 H45 hk18 hH45
  have x45 : Ext H44 H45 := Ext.push' hH45
  have e45 := e44.trans x45
  have g45 := x45.get g44
  have bx45 := Bx.cons (push_get hk18 hH45) (bx44.ext x45)
  clear x45
  have lk18 : b < k18 := hk18 ▸ lt_size g44
  refine HC.mono texts_table_1_c ?_
  rintro _ H46 ⟨rfl, x46⟩
  have e46 := e45.trans x46
  have g46 := x46.get g45
  have bx46 := bx45.ext x46
  clear x46 bx45
  refine ⟨_, _, _, _, _, _, rfl, ?_⟩
  intro k19 H47 hk19 hH47
  have x47 : Ext H46 H47 := Ext.push' hH47
  have e47 := e46.trans x47
  have g47 := x47.get g46
  have bx47 := Bx.cons (push_get hk19 hH47) (bx46.ext x47)
  clear x47
  have lk19 : b < k19 := hk19 ▸ lt_size g46
  refine HC.mono texts_table_1_c ?_
  rintro _ H48 ⟨rfl, x48⟩
  have e48 := e47.trans x48
  have g48 := x48.get g47
  have bx48 := bx47.ext x48
  clear x48 bx47
  refine ⟨_, _, _, _, _, _, rfl, ?_⟩
  intro k20 H49 hk20 hH49
  have x49 : Ext H48 H49 := Ext.push' hH49
  have e49 := e48.trans x49
  have g49 := x49.get g48
  have bx49 := Bx.cons (push_get hk20 hH49) (bx48.ext x49)
  clear x49
  have lk20 : b < k20 := hk20 ▸ lt_size g48
  refine HC.mono texts_table_1_c ?_
  rintro _ H50 ⟨rfl, x50⟩
  have e50 := e49.trans x50
  have g50 := x50.get g49
  have bx50 := bx49.ext x50
  clear x50 bx49
  refine ⟨_, _, _, _, _, _, rfl, ?_⟩
  refine HC.mono texts_table_2_c ?_
  rintro _ H51 ⟨rfl, x51⟩
  have e51 := e50.trans x51
  have g51 := x51.get g50
  have bx51 := bx50.ext x51
  clear x51 bx50
  refine ⟨_, _, _, _, _, _, rfl, ?_⟩
  intro k21 H52 hk21 hH52
  have x52 : Ext H51 H52 := Ext.push' hH52
  have e52 := e51.trans x52
  have g52 := x52.get g51
  have bx52 := Bx.cons (push_get hk21 hH52) (bx51.ext x52)
  clear x52
  have lk21 : b < k21 := hk21 ▸ lt_size g51
  refine HC.mono texts_table_1_c ?_
  rintro _ H53 ⟨rfl, x53⟩
  have e53 := e52.trans x53
  have g53 := x53.get g52
  have bx53 := bx52.ext x53
  clear x53 bx52
  refine ⟨_, _, _, _, _, _, rfl, ?_⟩
  refine HC.mono texts_table_2_c ?_
  rintro _ H54 ⟨rfl, x54⟩
  have e54 := e53.trans x54
  have g54 := x54.get g53
  have bx54 := bx53.ext x54
  clear x54 bx53
  refine ⟨_, _, _, _, _, _, rfl, ?_⟩
  intro k22 H55 hk22 hH55
  have x55 : Ext H54 H55 := Ext.push' hH55
  have e55 := e54.trans x55
  have g55 := x55.get g54
  have bx55 := Bx.cons (push_get hk22 hH55) (bx54.ext x55)
  clear x55
  have lk22 : b < k22 := hk22 ▸ lt_size g54
  refine HC.mono texts_table_1_c ?_
  rintro _ H56 ⟨rfl, x56⟩
  have e56 := e55.trans x56
  have g56 := x56.get g55
  have bx56 := bx55.ext x56
  clear x56 bx55
  refine ⟨_, _, _, _, _, _, rfl, ?_⟩
  refine HC.mono texts_table_2_c ?_
  rintro _ H57 ⟨rfl, x57⟩
  have e57 := e56.trans x57
  have g57 := x57.get g56
  have bx57 := bx56.ext x57
  clear x57 bx56
  refine ⟨_, _, _, _, _, _, rfl, ?_⟩
  intro k23 H58 hk23 hH58
  have x58 : Ext H57 H58 := Ext.push' hH58
  have e58 := e57.trans x58
  have g58 := x58.get g57
  have bx58 := Bx.cons (push_get hk23 hH58) (bx57.ext x58)
  clear x58
  have lk23 : b < k23 := hk23 ▸ lt_size g57
  refine HC.mono texts_table_1_c ?_
  rintro _ H59 ⟨rfl, x59⟩
  have e59 := e58.trans x59
  have g59 := x59.get g58
  have bx59 := bx58.ext x59
  clear x59 bx58
  refine ⟨_, _, _, _, _, _, rfl, ?_⟩
  intro k24 H60 hk24 hH60
  have x60 : Ext H59 H60 := Ext.push' hH60
  have e60 := e59.trans x60
  have g60 := x60.get g59
  have bx60 := Bx.cons (push_get hk24 hH60) (bx59.ext x60)
  clear x60
  have lk24 : b < k24 := hk24 ▸ lt_size g59
  refine HC.mono texts_table_1_c ?_
  rintro _ H61 ⟨rfl, x61⟩
  have e61 := e60.trans x61
  have g61 := x61.get g60
  have bx61 := bx60.ext x61
  clear x61 bx60
  refine ⟨_, _, _, _, _, _, rfl, ?_⟩
  refine HC.mono texts_table_2_c ?_
  rintro _ H62 ⟨rfl, x62⟩
  have e62 := e61.trans x62
  have g62 := x62.get g61
  have bx62 := bx61.ext x62
  clear x62 bx61
  refine ⟨_, _, _, _, _, _, rfl, ?_⟩
  intro k25 H63 hk25 hH63
  have x63 : Ext H62 H63 := Ext.push' hH63
  have e63 := e62.trans x63
  have g63 := x63.get g62
  have bx63 := Bx.cons (push_get hk25 hH63) (bx62.ext x63)
  clear x63
  have lk25 : b < k25 := hk25 ▸ lt_size g62
  refine HC.mono texts_table_1_c ?_
  rintro _ H64 ⟨rfl, x64⟩
  have e64 := e63.trans x64
  have g64 := x64.get g63
  have bx64 := bx63.ext x64
  clear x64 bx63
  refine ⟨_, _, _, _, _, _, rfl, ?_⟩
  intro k26 H65 hk26 hH65
  have x65 : Ext H64 H65 := Ext.push' hH65
  have e65 := e64.trans x65
  have g65 := x65.get g64
  have bx65 := Bx.cons (push_get hk26 hH65) (bx64.ext x65)
  clear x65
  have lk26 : b < k26 := hk26 ▸ lt_size g64
  refine HC.mono texts_table_1_c ?_
  rintro _ H66 ⟨rfl, x66⟩
  have e66 := e65.trans x66
  have g66 := x66.get g65
  have bx66 := bx65.ext x66
  clear x66 bx65
  refine ⟨_, _, _, _, _, _, rfl, ?_⟩
  intro k27 H67 hk27 hH67
  have x67 : Ext H66 H67 := Ext.push' hH67
  have e67 := e66.trans x67
  have g67 := x67.get g66
  have bx67 := Bx.cons (push_get hk27 hH67) (bx66.ext x67)
  clear x67
  have lk27 : b < k27 := hk27 ▸ lt_size g66
  refine HC.mono texts_table_1_c ?_
  rintro _ H68 ⟨rfl, x68⟩
  have e68 := e67.trans x68
  have g68 := x68.get g67
  have bx68 := bx67.ext x68
  clear x68 bx67
  refine ⟨_, _, _, _, _, _, rfl, ?_⟩
  intro k28 H69 hk28 hH69
  have x69 : Ext H68 H69 := Ext.push' hH69
  have e69 := e68.trans x69
  have g69 := x69.get g68
  have bx69 := Bx.cons (push_get hk28 hH69) (bx68.ext x69)
  clear x69
  have lk28 : b < k28 := hk28 ▸ lt_size g68
  refine HC.mono texts_table_1_c ?_
  rintro _ H70 ⟨rfl, x70⟩
  have e70 := e69.trans x70
  have g70 := x70.get g69
  have bx70 := bx69.ext x70
  clear x70 bx69
  refine ⟨_, _, _, _, _, _, rfl, ?_⟩
  intro k29 H71 hk29 hH71
  have x71 : Ext H70 H71 := Ext.push' hH71
  have e71 := e70.trans x71
  have g71 := x71.get g70
  have bx71 := Bx.cons (push_get hk29 hH71) (bx70.ext x71)
  clear x71
  have lk29 : b < k29 := hk29 ▸ lt_size g70
  refine HC.mono texts_table_1_c ?_
  rintro _ H72 ⟨rfl, x72⟩
  have e72 := e71.trans x72
  have g72 := x72.get g71
  have bx72 := bx71.ext x72
  clear x72 bx71
  refine ⟨_, _, _, _, _, _, rfl, ?_⟩
  intro k30 H73 hk30 hH73
  have x73 : Ext H72 H73 := Ext.push' hH73
  have e73 := e72.trans x73
  have g73 := x73.get g72
  have bx73 := Bx.cons (push_get hk30 hH73) (bx72.ext x73)
  clear x73
  have lk30 : b < k30 := hk30 ▸ lt_size g72
  refine HC.mono texts_table_1_c ?_
  rintro _ H74 ⟨rfl, x74⟩
  have e74 := e73.trans x74
  have g74 := x74.get g73
  have bx74 := bx73.ext x74
  clear x74 bx73
  refine ⟨_, _, _, _, _, _, rfl, ?_⟩
  intro k31 H75 hk31 hH75
  have x75 : Ext H74 H75 := Ext.push' hH75
  have e75 := e74.trans x75
  have g75 := x75.get g74
  have bx75 := Bx.cons (push_get hk31 hH75) (bx74.ext x75)
  clear x75
  have lk31 : b < k31 := hk31 ▸ lt_size g74
  refine HC.mono texts_table_1_c ?_
  rintro _ H76 ⟨rfl, x76⟩
  have e76 := e75.trans x76
  have g76 := x76.get g75
  have bx76 := bx75.ext x76
  clear x76 bx75
  refine ⟨_, _, _, _, _, _, rfl, ?_⟩
  refine ⟨canPuts_blk g76 128 0 0 (by simp), fun Hz hHz => ?_⟩
  obtain ⟨gr, fr⟩ := (box_set (n := 128) (vs := _) g76 (by rfl) (by rfl)).2 Hz hHz
  refine ⟨_, by rfl, box_row gr, ?_⟩
  have hlt := e1.size
  have bz : Bx _ Hz := bx76.fr fr (fun q hq => by
    simp only [List.mem_cons, List.mem_nil_iff, or_false] at hq
    rcases hq with rfl | rfl | rfl | rfl | rfl | rfl | rfl | rfl | rfl | rfl | rfl | rfl | rfl | rfl | rfl | rfl | rfl | rfl | rfl | rfl | rfl | rfl | rfl | rfl | rfl | rfl | rfl | rfl | rfl | rfl | rfl | rfl <;> simp <;> omega)
  refine hR _ _ ⟨[⟨_, 1, 1, some ⟨k0, 0, none⟩, 1, 1⟩, ⟨_, 1, 1, some ⟨k1, 0, none⟩, 1, 1⟩, ⟨_, 1, 1, some ⟨k2, 0, none⟩, 1, 1⟩, ⟨_, 1, 1, some ⟨k3, 0, none⟩, 1, 1⟩, ⟨_, 1, 1, some ⟨k4, 0, none⟩, 1, 1⟩, ⟨_, 1, 1, some ⟨k5, 0, none⟩, 1, 1⟩, ⟨_, 1, 1, some ⟨k6, 0, none⟩, 1, 1⟩, ⟨_, 1, 1, some ⟨k7, 0, none⟩, 1, 1⟩, ⟨_, 1, 1, some ⟨k8, 0, none⟩, 1, 1⟩, ⟨_, 1, 1, some ⟨k9, 0, none⟩, 1, 1⟩, ⟨_, 1, -1, some ⟨k10, 0, none⟩, 1, 1⟩, ⟨_, 1, -1, some ⟨k11, 0, none⟩, 1, 1⟩, ⟨_, 1, -1, some ⟨k12, 0, none⟩, 1, 1⟩, ⟨_, 1, -1, some ⟨k13, 0, none⟩, 1, 1⟩, ⟨_, 1, -1, some ⟨k14, 0, none⟩, 1, 1⟩, ⟨_, 1, 2, some ⟨k15, 0, none⟩, 2, 2⟩, ⟨_, 0, -1, some ⟨k16, 0, none⟩, 1, 1⟩, ⟨_, 1, 1, some ⟨k17, 0, none⟩, 1, 1⟩, ⟨_, 2, 2, some ⟨k18, 0, none⟩, 2, 2⟩, ⟨_, 3, 3, some ⟨k19, 0, none⟩, 3, 3⟩, ⟨_, 1, -1, some ⟨k20, 0, none⟩, 1, 1⟩, ⟨_, 1, -1, some ⟨k21, 0, none⟩, 1, 1⟩, ⟨_, 1, -1, some ⟨k22, 0, none⟩, 1, 1⟩, ⟨_, 3, 3, some ⟨k23, 0, none⟩, 3, 3⟩, ⟨_, 0, -1, some ⟨k24, 0, none⟩, 1, 1⟩, ⟨_, 1, 1, some ⟨k25, 0, none⟩, 1, 1⟩, ⟨_, 1, 1, some ⟨k26, 0, none⟩, 1, 1⟩, ⟨_, 1, 1, some ⟨k27, 0, none⟩, 1, 1⟩, ⟨_, 1, 1, some ⟨k28, 0, none⟩, 1, 1⟩, ⟨_, 1, 1, some ⟨k29, 0, none⟩, 1, 1⟩, ⟨_, 1, 1, some ⟨k30, 0, none⟩, 1, 1⟩, ⟨_, 1, 1, some ⟨k31, 0, none⟩, 1, 1⟩], by rfl, by rfl, ⟨rowAt_blk (bz.nth 31 rfl) _ 0 0 (fun j hj => by simp [i64s]), rowAt_blk (bz.nth 30 rfl) _ 0 0 (fun j hj => by simp [i64s]), rowAt_blk (bz.nth 29 rfl) _ 0 0 (fun j hj => by simp [i64s]), rowAt_blk (bz.nth 28 rfl) _ 0 0 (fun j hj => by simp [i64s]), rowAt_blk (bz.nth 27 rfl) _ 0 0 (fun j hj => by simp [i64s]), rowAt_blk (bz.nth 26 rfl) _ 0 0 (fun j hj => by simp [i64s]), rowAt_blk (bz.nth 25 rfl) _ 0 0 (fun j hj => by simp [i64s]), rowAt_blk (bz.nth 24 rfl) _ 0 0 (fun j hj => by simp [i64s]), rowAt_blk (bz.nth 23 rfl) _ 0 0 (fun j hj => by simp [i64s]), rowAt_blk (bz.nth 22 rfl) _ 0 0 (fun j hj => by simp [i64s]), rowAt_blk (bz.nth 21 rfl) _ 0 0 (fun j hj => by simp [i64s]), rowAt_blk (bz.nth 20 rfl) _ 0 0 (fun j hj => by simp [i64s]), rowAt_blk (bz.nth 19 rfl) _ 0 0 (fun j hj => by simp [i64s]), rowAt_blk (bz.nth 18 rfl) _ 0 0 (fun j hj => by simp [i64s]), rowAt_blk (bz.nth 17 rfl) _ 0 0 (fun j hj => by simp [i64s]), rowAt_blk (bz.nth 16 rfl) _ 0 0 (fun j hj => by simp [i64s]), rowAt_blk (bz.nth 15 rfl) _ 0 0 (fun j hj => by simp [i64s]), rowAt_blk (bz.nth 14 rfl) _ 0 0 (fun j hj => by simp [i64s]), rowAt_blk (bz.nth 13 rfl) _ 0 0 (fun j hj => by simp [i64s]), rowAt_blk (bz.nth 12 rfl) _ 0 0 (fun j hj => by simp [i64s]), rowAt_blk (bz.nth 11 rfl) _ 0 0 (fun j hj => by simp [i64s]), rowAt_blk (bz.nth 10 rfl) _ 0 0 (fun j hj => by simp [i64s]), rowAt_blk (bz.nth 9 rfl) _ 0 0 (fun j hj => by simp [i64s]), rowAt_blk (bz.nth 8 rfl) _ 0 0 (fun j hj => by simp [i64s]), rowAt_blk (bz.nth 7 rfl) _ 0 0 (fun j hj => by simp [i64s]), rowAt_blk (bz.nth 6 rfl) _ 0 0 (fun j hj => by simp [i64s]), rowAt_blk (bz.nth 5 rfl) _ 0 0 (fun j hj => by simp [i64s]), rowAt_blk (bz.nth 4 rfl) _ 0 0 (fun j hj => by simp [i64s]), rowAt_blk (bz.nth 3 rfl) _ 0 0 (fun j hj => by simp [i64s]), rowAt_blk (bz.nth 2 rfl) _ 0 0 (fun j hj => by simp [i64s]), rowAt_blk (bz.nth 1 rfl) _ 0 0 (fun j hj => by simp [i64s]), rowAt_blk (bz.nth 0 rfl) _ 0 0 (fun j hj => by simp [i64s]), trivial⟩, e76.fr_trans fr (fun i hi => by simp at hi; omega)⟩
end Go.Proofs.YthlohokmnajpoaaGreatDoor
