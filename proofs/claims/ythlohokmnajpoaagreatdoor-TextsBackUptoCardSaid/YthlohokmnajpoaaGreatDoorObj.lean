/-
  Things on the heap (package obj), said of abstract memories: the heap's place, the contracts of what reads. Proves nothing of any one statement.
-/
import Derived.Test.YthlohokmnajpoaaGreatDoorSpace
import Derived.Test.YthlohokmnajpoaaGreatDoorFobj
set_option linter.unusedVariables false
set_option linter.unusedSimpArgs false
namespace Go.Proofs.YthlohokmnajpoaaGreatDoor
open Go

structure Hp where
  sp : Sp
  sy : Value
  en : Value
  ep : Int
structure HpAt (H : Array Obj) (b : Blk) (x : Hp) : Prop where
  cd : CdAt H b x.sp
  ne : b.h ≠ b.c ∧ b.h ≠ b.sp ∧ b.h ≠ b.m ∧ b.h ≠ b.s
  h : H[b.h]? = some (.cells #[.pointer (some ⟨b.c, 0, none⟩), x.sy, x.en, .int .u64 x.ep] 51 (0, 0))
theorem HpAt.keep {S : List Nat} {H H' : Array Obj} {b : Blk} {x : Hp} (h : HpAt H b x) (f : Fr S H H') (hS : ∀ i, i ∈ S → i ∉ b.all) : HpAt H' b x :=
  ⟨h.cd.keep f (fun hi => hS _ hi (by simp [Blk.all])) (fun hi => hS _ hi (by simp [Blk.all])) (fun hi => hS _ hi (by simp [Blk.all])) (fun hi => hS _ hi (by simp [Blk.all])), h.ne, f.get (fun hi => hS _ hi (by simp [Blk.all])) h.h⟩
theorem HpAt.ext {H H' : Array Obj} {b : Blk} {x : Hp} (h : HpAt H b x) (f : Ext H H') : HpAt H' b x := h.keep (S := []) f.fr (by simp)
theorem HpAt.withCd {S : List Nat} {H H' : Array Obj} {b : Blk} {x : Hp} {s : Sp} (h : HpAt H b x) (f : Fr S H H') (hS : ∀ i, i ∈ S → i = b.sp ∨ i = b.m ∨ i = b.s) (hc : CdAt H' b s) : HpAt H' b { x with sp := s } :=
  ⟨hc, h.ne, f.get (fun hi => by have := hS _ hi; have := h.ne; omega) h.h⟩
theorem HpAt.withSp {S : List Nat} {H H' : Array Obj} {b : Blk} {x : Hp} {s : Sp} (h : HpAt H b x) (f : Fr S H H') (hS : ∀ i, i ∈ S → i = b.sp ∨ i = b.m ∨ i = b.s) (hc : SpAt H' b s) : HpAt H' b { x with sp := s } :=
  h.withCd f hS (h.cd.withSp f (fun hi => by have := hS _ hi; have := h.cd.ne; omega) hc)
theorem HpAt.withMem {S : List Nat} {H H' : Array Obj} {b : Blk} {x : Hp} {m : Mem} (h : HpAt H b x) (f : Fr S H H') (hS : ∀ i, i ∈ S → i = b.m ∨ i = b.s) (hc : MemAt H' b.m b.s m) : HpAt H' b { x with sp := { x.sp with mem := m } } :=
  h.withCd f (fun i hi => .inr (hS i hi)) (h.cd.withMem f hS hc)
theorem HpAt.hPtr {H : Array Obj} {b : Blk} {x : Hp} (h : HpAt H b x) : hat H ⟨b.h, 0, none⟩ = some (.pointer (some ⟨b.c, 0, none⟩)) := by rw [hat_blk h.h]; rfl
theorem HpAt.lt {H : Array Obj} {b : Blk} {x : Hp} (h : HpAt H b x) : ∀ i, i ∈ b.all → i < H.size := by
  intro i hi
  have h1 := lt_size h.h
  have h2 := lt_size h.cd.c
  obtain ⟨cs, hh, _⟩ := h.cd.sp.sp
  have h3 := lt_size hh
  have h4 := h.cd.sp.mem.lt
  simp [Blk.all] at hi
  omega

theorem tupb {a : Int} {p q : Bool} (h : p = q) : Value.tuple #[.int .i64 a, .bool p] = .tuple #[.int .i64 a, .bool q] := by rw [h]

inductive View (H : Array Obj) : Option Addr → Option (Blk × Hp) → Prop
  | nobody : View H none none
  | empty {a : Addr} (h : hat H a = some (.pointer none)) : View H (some a) none
  | real {b : Blk} {x : Hp} (h : HpAt H b x) (ok : SpOK x.sp) : View H (some ⟨b.h, 0, none⟩) (some (b, x))
def mof : Option (Blk × Hp) → Mem
  | none => Mem.fresh 0
  | some (_, x) => x.sp.mem
theorem View.ext {H H' : Array Obj} {hv : Option Addr} {o : Option (Blk × Hp)} (V : View H hv o) (e : Ext H H') : View H' hv o := by
  cases V with
  | nobody => exact .nobody
  | empty h => exact .empty (e.hat h)
  | real h ok => exact .real (h.ext e) ok
theorem nohas {k : Int} : ¬ (mof none).has k := fun h => by have := h.1; have : k < ((0 : Nat) : Int) := h.2.1; omega
theorem View.word {H : Array Obj} {hv : Option Addr} {o : Option (Blk × Hp)} (V : View H hv o) (a : Int) : IsWord ((mof o).get a) := by
  cases V with
  | nobody => exact (by decide : IsWord 0)
  | empty h => exact (by decide : IsWord 0)
  | real h ok => exact (ok.mem.seg _).words _

theorem obj_none_c {H : Array Obj} {hv : Option Addr} {o : Option (Blk × Hp)} (V : View H hv o) : obj_Heap_none.C hv H (fun v H' => v = .bool o.isNone ∧ H' = H) := by
  refine HC.via fun R hR => obj_Heap_none.link ?_
  unfold obj_Heap_none.pt
  cases V with
  | nobody => rw [onPtr_none]; exact hR _ _ ⟨rfl, rfl⟩
  | empty h => rw [onPtr_some]; refine ⟨_, h, ?_⟩; rw [onPtr_none]; exact hR _ _ ⟨rfl, rfl⟩
  | real h ok => rw [onPtr_some]; refine ⟨_, h.hPtr, ?_⟩; rw [onPtr_some]; exact hR _ _ ⟨rfl, rfl⟩

def Mem.atW (m : Mem) (w tag kind : Int) : Prop := isAddr w ∧ w % 8 = tag ∧ m.has (w / 8 / 64) ∧ (m.seg (w / 8 / 64).toNat).kind = kind ∧ w / 8 % 64 < (m.seg (w / 8 / 64).toNat).n
instance (m : Mem) (w tag kind : Int) : Decidable (m.atW w tag kind) := by unfold Mem.atW; infer_instance
theorem Mem.atW.used {m : Mem} {w tag kind : Int} (h : m.atW w tag kind) (hw : IsWord w) : m.used (w / 8) := ⟨by have := hw.1; omega, h.2.2.1, h.2.2.2.2⟩

theorem obj_at_c {H : Array Obj} {hv : Option Addr} {o : Option (Blk × Hp)} {w tag kind : Int} (V : View H hv o) (hw : IsWord w) :
    obj_Heap_at.C hv w tag kind H (fun v H' => ∃ a : Int, v = .tuple #[.int .i64 a, .bool (decide ((mof o).atW w tag kind))] ∧ ((mof o).atW w tag kind → a = w / 8) ∧ Ext H H') := by
  refine HC.via fun R hR => obj_Heap_at.link ?_
  unfold obj_Heap_at.pt
  refine HC.mono (word_Addr_c hw) ?_
  rintro _ H1 ⟨rfl, e1⟩
  have hv' : ∃ (a : Int) (p : Bool), (if (w % 8 = 1 ∨ w % 8 = 2 ∨ w % 8 = 3 ∨ w % 8 = 6) ∧ w / 8 < 65536 then Value.tuple #[.int .i64 (w / 8), .bool true] else .tuple #[.int .i64 0, .bool false]) = .tuple #[.int .i64 a, .bool p] ∧ ((isAddr w ∧ p = true ∧ a = w / 8) ∨ (¬ isAddr w ∧ p = false)) := by
    by_cases hh : (w % 8 = 1 ∨ w % 8 = 2 ∨ w % 8 = 3 ∨ w % 8 = 6) ∧ w / 8 < 65536
    · rw [if_pos hh]; exact ⟨_, _, rfl, .inl ⟨hh, rfl, rfl⟩⟩
    · rw [if_neg hh]; exact ⟨_, _, rfl, .inr ⟨hh, rfl⟩⟩
  obtain ⟨a, p, hv', hd⟩ := hv'
  refine ⟨a, p, hv', ?_⟩
  refine HC.mono (obj_none_c (V.ext e1)) ?_
  rintro _ H2 ⟨rfl, rfl⟩
  refine ⟨_, rfl, ?_⟩
  have no : ∀ (a : Int) H', ¬ (mof o).atW w tag kind → Ext H H' → R (.tuple #[.int .i64 a, .bool false]) H' := fun a H' hn e => hR _ _ ⟨a, by rw [decide_eq_false hn], fun h => absurd h hn, e⟩
  cases V with
  | nobody => rw [if_pos (show (none : Option (Blk × Hp)).isNone = true from rfl)]; exact no _ _ (fun h => nohas h.2.2.1) e1
  | empty h => rw [if_pos (show (none : Option (Blk × Hp)).isNone = true from rfl)]; exact no _ _ (fun h => nohas h.2.2.1) e1
  | @real b x h ok =>
    rw [if_neg (show ¬ (some (b, x)).isNone = true from Bool.false_ne_true)]
    rcases hd with ⟨ha, rfl, rfl⟩ | ⟨ha, rfl⟩
    case inr => rw [if_neg (by decide)]; exact no _ _ (fun h => ha h.1) e1
    rw [if_pos rfl]
    refine HC.mono (word_Tag_c hw) ?_
    rintro _ H3 ⟨rfl, e3⟩
    refine ⟨_, rfl, ?_⟩
    have e13 := e1.trans e3
    by_cases ht : w % 8 = tag
    case neg => rw [if_neg ht]; exact no _ _ (fun h => ht h.2.1) e13
    rw [if_pos ht]
    have h3 := h.ext e13
    have hw8 : w / 8 < 65536 := ha.2
    have hw0 : 0 ≤ w / 8 := by have := hw.1; omega
    refine ⟨_, rfl, _, h3.hPtr, _, rfl, _, h3.cd.cPtr, _, rfl, _, h3.cd.sp.memPtr, ?_⟩
    rw [tdiv_pos hw0, w64 (n := w / 8 / 64) (by omega), tmod_pos hw0]
    refine HC.mono (seg_Seg_c h3.cd.sp.mem) ?_
    rintro _ H4 ⟨rfl, e4⟩
    show ∃ a b c d e f g q, _ ∧ _
    have hm : mof (some (b, x)) = x.sp.mem := rfl
    rw [hm] at no hR
    by_cases hhas : x.sp.mem.has (w / 8 / 64)
    · rw [if_pos hhas, decide_eq_true hhas]
      generalize hsg : x.sp.mem.seg (w / 8 / 64).toNat = sg at *
      refine ⟨_, _, _, _, _, _, _, _, rfl, fun b1 H5 hb hH5 => ?_⟩
      obtain ⟨hc, hs⟩ := boxed (vs := [.int .i64 sg.gen, .int .i64 sg.kind, .int .i64 sg.n, .int .i64 (sg.cards 0), .int .i64 (sg.cards 1), .int .i64 (sg.cards 2), .int .i64 (sg.cards 3)]) (H1 := H5) (push_get hb hH5) rfl rfl
      refine ⟨hc, fun H6 hH6 => ?_⟩
      obtain ⟨hrow, hE⟩ := hs H6 hH6
      have e14 := e13.trans e4
      have e6 : Ext H H6 := hE H (e14.trans (Ext.push' hH5)) (by have := e14.size; omega)
      rw [if_pos rfl]
      refine ⟨sg.kind, hrow.2.1, ?_⟩
      by_cases hk : sg.kind = kind
      · rw [if_pos hk]
        refine ⟨sg.n, hrow.2.2.1, hR _ _ ⟨_, ?_, fun _ => rfl, e6⟩⟩
        refine tupb ?_
        rw [decide_eq_decide]
        unfold Mem.atW
        rw [hsg]
        exact ⟨fun h => ⟨ha, ht, hhas, hk, h⟩, fun h => h.2.2.2.2⟩
      · rw [if_neg hk]
        exact no _ _ (fun h => hk (by have := h.2.2.2.1; rw [hsg] at this; exact this)) e6
    · rw [if_neg hhas, decide_eq_false hhas]
      generalize Seg.none = sg
      refine ⟨_, _, _, _, _, _, _, _, rfl, fun b1 H5 hb hH5 => ?_⟩
      obtain ⟨hc, hs⟩ := boxed (vs := [.int .i64 sg.gen, .int .i64 sg.kind, .int .i64 sg.n, .int .i64 (sg.cards 0), .int .i64 (sg.cards 1), .int .i64 (sg.cards 2), .int .i64 (sg.cards 3)]) (H1 := H5) (push_get hb hH5) rfl rfl
      refine ⟨hc, fun H6 hH6 => ?_⟩
      obtain ⟨hrow, hE⟩ := hs H6 hH6
      have e14 := e13.trans e4
      have e6 : Ext H H6 := hE H (e14.trans (Ext.push' hH5)) (by have := e14.size; omega)
      rw [if_neg (by decide)]
      exact no _ _ (fun h => hhas h.2.2.1) e6

def headOK (x : Int) : Prop := x % 8 = 5 ∧ (1 ≤ x / 8 % 32 ∧ x / 8 % 32 ≤ 13 ∧ x / 256 % 256 ≤ 62)
instance (x : Int) : Decidable (headOK x) := by unfold headOK; infer_instance
def hk (x : Int) : Int := x / 8 % 32
def hn (x : Int) : Int := x / 256 % 256
def hm (x : Int) : Int := x / 65536
def rawK (k : Int) : Int := if k = 2 ∨ k = 3 then 3 else 2
theorem obj_raw_c {H : Array Obj} {k : Int} : obj_raw.C k H (fun v H' => v = .int .i64 (rawK k) ∧ H' = H) := by
  refine HC.via fun R hR => obj_raw.link ?_
  unfold obj_raw.pt
  by_cases h : k = 2 ∨ k = 3
  · rw [if_pos (by simpa using h)]; exact hR _ _ ⟨by unfold rawK; rw [if_pos h], rfl⟩
  · rw [if_neg (by simpa using h)]; exact hR _ _ ⟨by unfold rawK; rw [if_neg h], rfl⟩

def Mem.isObj (m : Mem) (w : Int) : Prop := m.atW w 3 (rawK (hk (m.get (w / 8)))) ∧ headOK (m.get (w / 8)) ∧ w / 8 % 64 + hn (m.get (w / 8)) < (m.seg (w / 8 / 64).toNat).n
instance (m : Mem) (w : Int) : Decidable (m.isObj w) := by unfold Mem.isObj; infer_instance
theorem obj_object_c {H : Array Obj} {hv : Option Addr} {o : Option (Blk × Hp)} {w : Int} (V : View H hv o) (hw : IsWord w) :
    obj_Heap_object.C hv w H (fun v H' => v = (if (mof o).isObj w then .tuple #[.int .i64 (w / 8), .int .i64 (hk ((mof o).get (w / 8))), .int .i64 (hn ((mof o).get (w / 8))), .int .u64 (hm ((mof o).get (w / 8))), .bool true]
      else .tuple #[.int .i64 0, .int .i64 0, .int .i64 0, .int .u64 0, .bool false]) ∧ Ext H H') := by
  refine HC.via fun R hR => obj_Heap_object.link ?_
  unfold obj_Heap_object.pt
  refine ⟨fun i H' => (0 ≤ i ∧ i ≤ 2) ∧ Ext H H' ∧ (1 ≤ i → ¬ ((mof o).isObj w ∧ rawK (hk ((mof o).get (w / 8))) = 2)) ∧ (2 ≤ i → ¬ ((mof o).isObj w ∧ rawK (hk ((mof o).get (w / 8))) = 3)), fun i _ => (2 - i).toNat, ⟨by omega, Ext.refl _, fun h => by omega, fun h => by omega⟩, ?_⟩
  rintro i H1 ⟨hi, e1, n2, n3⟩
  by_cases hlt : i < 2
  case neg =>
    rw [if_neg hlt]
    refine hR _ _ ⟨?_, e1⟩
    rw [if_neg]
    intro hO
    by_cases hr : rawK (hk ((mof o).get (w / 8))) = 2
    · exact n2 (by omega) ⟨hO, hr⟩
    · refine n3 (by omega) ⟨hO, ?_⟩
      unfold rawK at hr ⊢
      by_cases h : hk ((mof o).get (w / 8)) = 2 ∨ hk ((mof o).get (w / 8)) = 3
      · rw [if_pos h]
      · rw [if_neg h] at hr; exact absurd rfl hr
  rw [if_pos hlt]
  have hx : ∃ x : Int, (#[.int .i64 2, .int .i64 3] : Array Value)[i.toNat]? = some (.int .i64 x) ∧ ((i = 0 ∧ x = 2) ∨ (i = 1 ∧ x = 3)) := by
    have : i = 0 ∨ i = 1 := by omega
    rcases this with rfl | rfl
    · exact ⟨2, rfl, .inl ⟨rfl, rfl⟩⟩
    · exact ⟨3, rfl, .inr ⟨rfl, rfl⟩⟩
  obtain ⟨x, hx, hix⟩ := hx
  refine ⟨x, ⟨⟨hi.1, hlt⟩, hx⟩, ?_⟩
  have V1 := V.ext e1
  rw [w64 (n := i + 1) (by omega)]
  have next : ∀ H', Ext H H' → ¬ ((mof o).isObj w ∧ rawK (hk ((mof o).get (w / 8))) = x) → ((0 ≤ i + 1 ∧ i + 1 ≤ 2) ∧ Ext H H' ∧ (1 ≤ i + 1 → ¬ ((mof o).isObj w ∧ rawK (hk ((mof o).get (w / 8))) = 2)) ∧ (2 ≤ i + 1 → ¬ ((mof o).isObj w ∧ rawK (hk ((mof o).get (w / 8))) = 3))) ∧ (2 - (i + 1)).toNat < (2 - i).toNat := by
    intro H' e' hn'
    refine ⟨⟨by omega, e', fun _ => ?_, fun h2 => ?_⟩, by omega⟩
    · rcases hix with ⟨rfl, rfl⟩ | ⟨rfl, rfl⟩
      · exact hn'
      · exact n2 (by omega)
    · rcases hix with ⟨rfl, rfl⟩ | ⟨rfl, rfl⟩
      · omega
      · exact hn'
  refine HC.mono (obj_at_c V1 hw) ?_
  rintro _ H2 ⟨a, rfl, ha, e2⟩
  refine ⟨_, _, rfl, ?_⟩
  have e12 := e1.trans e2
  by_cases hat' : (mof o).atW w 3 x
  case neg =>
    rw [if_neg (by simpa using hat')]
    exact next _ e12 (fun h => hat' (by rw [← h.2]; exact h.1.1))
  rw [if_pos (decide_eq_true hat'), ha hat']
  have hw0 : 0 ≤ w / 8 := by have := hw.1; omega
  have hw8 : w / 8 < 65536 := hat'.1.2
  cases V with
  | nobody => exact absurd hat'.2.2.1 nohas
  | empty h => exact absurd hat'.2.2.1 nohas
  | @real b y h ok =>
    have hme : mof (some (b, y)) = y.sp.mem := rfl
    rw [hme] at *
    have h2 := h.ext e12
    have hu : y.sp.mem.used (w / 8) := hat'.used hw
    refine ⟨_, rfl, _, h2.hPtr, _, rfl, _, h2.cd.cPtr, _, rfl, _, h2.cd.sp.memPtr, ?_⟩
    refine HC.mono (seg_Read_c h2.cd.sp.mem ok.mem (by omega)) ?_
    rintro _ H3 ⟨rfl, rfl⟩
    rw [if_pos hu]
    refine ⟨_, _, rfl, ?_⟩
    have hxw : IsWord (y.sp.mem.get (w / 8)) := (ok.mem.seg _).words _
    refine HC.mono (word_Head_c hxw) ?_
    rintro _ H4 ⟨rfl, e4⟩
    have hv4 : ∃ (p q r : Int) (d : Bool), (if y.sp.mem.get (w / 8) % 8 = 5 ∧ (1 ≤ y.sp.mem.get (w / 8) / 8 % 32 ∧ y.sp.mem.get (w / 8) / 8 % 32 ≤ 13 ∧ y.sp.mem.get (w / 8) / 256 % 256 ≤ 62) then Value.tuple #[.int .i64 (y.sp.mem.get (w / 8) / 8 % 32), .int .i64 (y.sp.mem.get (w / 8) / 256 % 256), .int .u64 (y.sp.mem.get (w / 8) / 65536), .bool true] else .tuple #[.int .i64 0, .int .i64 0, .int .u64 0, .bool false]) = .tuple #[.int .i64 p, .int .i64 q, .int .u64 r, .bool d] ∧
        ((headOK (y.sp.mem.get (w / 8)) ∧ d = true ∧ p = hk (y.sp.mem.get (w / 8)) ∧ q = hn (y.sp.mem.get (w / 8)) ∧ r = hm (y.sp.mem.get (w / 8))) ∨ (¬ headOK (y.sp.mem.get (w / 8)) ∧ d = false)) := by
      by_cases hh : headOK (y.sp.mem.get (w / 8))
      · have hh' : y.sp.mem.get (w / 8) % 8 = 5 ∧ (1 ≤ y.sp.mem.get (w / 8) / 8 % 32 ∧ y.sp.mem.get (w / 8) / 8 % 32 ≤ 13 ∧ y.sp.mem.get (w / 8) / 256 % 256 ≤ 62) := hh
        rw [if_pos hh']; exact ⟨_, _, _, _, rfl, .inl ⟨hh, rfl, rfl, rfl, rfl⟩⟩
      · have hh' : ¬ (y.sp.mem.get (w / 8) % 8 = 5 ∧ (1 ≤ y.sp.mem.get (w / 8) / 8 % 32 ∧ y.sp.mem.get (w / 8) / 8 % 32 ≤ 13 ∧ y.sp.mem.get (w / 8) / 256 % 256 ≤ 62)) := hh
        rw [if_neg hh']; exact ⟨_, _, _, _, rfl, .inr ⟨hh, rfl⟩⟩
    obtain ⟨p, q, r, d, hv4, hd4⟩ := hv4
    refine ⟨p, q, r, d, hv4, ?_⟩
    have h4 := h2.ext e4
    refine ⟨_, h4.hPtr, _, rfl, _, h4.cd.cPtr, _, rfl, _, h4.cd.sp.memPtr, ?_⟩
    rw [tdiv_pos hw0, w64 (n := w / 8 / 64) (by omega), tmod_pos hw0]
    refine HC.mono (seg_Seg_c h4.cd.sp.mem) ?_
    rintro _ H5 ⟨rfl, e5⟩
    have hhas : y.sp.mem.has (w / 8 / 64) := hat'.2.2.1
    rw [if_pos hhas]
    have hsn := (ok.mem.seg (w / 8 / 64).toNat).n
    have hkx := hat'.2.2.2.1
    have hln := hat'.2.2.2.2
    generalize hsg : y.sp.mem.seg (w / 8 / 64).toNat = sg at hsn hkx hln ⊢
    refine ⟨_, _, _, _, _, _, _, _, rfl, fun b1 H6 hb hH6 => ?_⟩
    obtain ⟨hc, hs⟩ := boxed (vs := [.int .i64 sg.gen, .int .i64 sg.kind, .int .i64 sg.n, .int .i64 (sg.cards 0), .int .i64 (sg.cards 1), .int .i64 (sg.cards 2), .int .i64 (sg.cards 3)]) (H1 := H6) (push_get hb hH6) rfl rfl
    refine ⟨hc, fun H7 hH7 => ?_⟩
    obtain ⟨hrow, hE⟩ := hs H7 hH7
    have e15 := (e12.trans e4).trans e5
    have e7 : Ext H H7 := hE H (e15.trans (Ext.push' hH6)) (by have := e15.size; omega)
    rcases hd4 with ⟨hok, rfl, rfl, rfl, rfl⟩ | ⟨hok, rfl⟩
    case inr =>
      rw [if_neg (by decide)]
      exact next _ e7 (fun h => hok h.1.2.1)
    rw [if_pos rfl]
    refine HC.mono obj_raw_c ?_
    rintro _ H8 ⟨rfl, rfl⟩
    refine ⟨_, rfl, ?_⟩
    by_cases hr : rawK (hk (y.sp.mem.get (w / 8))) = x
    case neg => rw [if_neg hr]; exact next _ e7 (fun h => hr h.2)
    rw [if_pos hr]
    refine ⟨sg.n, hrow.2.2.1, ?_⟩
    have hnb : 0 ≤ hn (y.sp.mem.get (w / 8)) ∧ hn (y.sp.mem.get (w / 8)) ≤ 255 := by unfold hn; omega
    rw [w64 (n := w / 8 % 64 + hn (y.sp.mem.get (w / 8))) (by omega)]
    by_cases hf : w / 8 % 64 + hn (y.sp.mem.get (w / 8)) < sg.n
    · rw [if_pos hf]
      refine hR _ _ ⟨?_, e7⟩
      have hObj : y.sp.mem.isObj w := ⟨by rw [hr]; exact hat', hok, by rw [hsg]; exact hf⟩
      have hObj' : (mof (some (b, y))).isObj w := hObj
      rw [if_pos hObj']; rfl
    · rw [if_neg hf]
      exact next _ e7 (fun h => hf (by have h3 : w / 8 % 64 + hn (y.sp.mem.get (w / 8)) < (y.sp.mem.seg (w / 8 / 64).toNat).n := h.1.2.2; rw [hsg] at h3; exact h3))

def Mem.typ (m : Mem) (w : Int) : Int := if m.isObj w then hk (m.get (w / 8)) else 0
def Mem.len (m : Mem) (w : Int) : Int := if m.isObj w then hn (m.get (w / 8)) else 0
def Mem.more (m : Mem) (w : Int) : Int := if m.isObj w then hm (m.get (w / 8)) else 0
theorem obj_object_c' {H : Array Obj} {hv : Option Addr} {o : Option (Blk × Hp)} {w : Int} (V : View H hv o) (hw : IsWord w) :
    obj_Heap_object.C hv w H (fun v H' => v = .tuple #[.int .i64 (if (mof o).isObj w then w / 8 else 0), .int .i64 ((mof o).typ w), .int .i64 ((mof o).len w), .int .u64 ((mof o).more w), .bool (decide ((mof o).isObj w))] ∧ Ext H H') := by
  refine HC.mono (obj_object_c V hw) ?_
  rintro _ H1 ⟨rfl, e⟩
  refine ⟨?_, e⟩
  unfold Mem.typ Mem.len Mem.more
  by_cases h : (mof o).isObj w
  · simp only [if_pos h, decide_eq_true h]
  · simp only [if_neg h, decide_eq_false h]

theorem obj_Type_c {H : Array Obj} {hv : Option Addr} {o : Option (Blk × Hp)} {w : Int} (V : View H hv o) (hw : IsWord w) :
    obj_Heap_Type.C hv w H (fun v H' => v = .int .i64 ((mof o).typ w) ∧ Ext H H') := by
  refine HC.via fun R hR => obj_Heap_Type.link ?_
  unfold obj_Heap_Type.pt
  refine HC.mono (obj_object_c' V hw) ?_
  rintro _ H1 ⟨rfl, e1⟩
  exact ⟨_, _, _, _, _, rfl, hR _ _ ⟨rfl, e1⟩⟩
theorem obj_Len_c {H : Array Obj} {hv : Option Addr} {o : Option (Blk × Hp)} {w : Int} (V : View H hv o) (hw : IsWord w) :
    obj_Heap_Len.C hv w H (fun v H' => v = .int .i64 ((mof o).len w) ∧ Ext H H') := by
  refine HC.via fun R hR => obj_Heap_Len.link ?_
  unfold obj_Heap_Len.pt
  refine HC.mono (obj_object_c' V hw) ?_
  rintro _ H1 ⟨rfl, e1⟩
  exact ⟨_, _, _, _, _, rfl, hR _ _ ⟨rfl, e1⟩⟩

def Mem.fieldE (m : Mem) (w kind i : Int) : Int := if ¬ m.isObj w ∨ m.typ w ≠ kind then 3 else if i < 0 ∨ m.len w ≤ i then 4 else 0
theorem Mem.isObj.len_lt {m : Mem} {w : Int} (h : m.isObj w) : 0 ≤ hn (m.get (w / 8)) ∧ hn (m.get (w / 8)) ≤ 62 := by
  have := h.2.1; unfold headOK at this; unfold hn; omega
theorem obj_field_c {H : Array Obj} {hv : Option Addr} {o : Option (Blk × Hp)} {w kind i : Int} (V : View H hv o) (hw : IsWord w) (hi : I64 i) :
    obj_Heap_field.C hv w kind i H (fun v H' => v = .tuple #[.int .i64 (if (mof o).fieldE w kind i = 0 then w / 8 + 1 + i else 0), .int .i64 ((mof o).fieldE w kind i)] ∧ Ext H H') := by
  refine HC.via fun R hR => obj_Heap_field.link ?_
  unfold obj_Heap_field.pt
  refine HC.mono (obj_object_c' V hw) ?_
  rintro _ H1 ⟨rfl, e1⟩
  refine ⟨_, _, _, _, _, rfl, ?_⟩
  by_cases h1 : ¬ (mof o).isObj w ∨ (mof o).typ w ≠ kind
  · rw [if_pos (by simpa using h1)]
    have e : (mof o).fieldE w kind i = 3 := by unfold Mem.fieldE; rw [if_pos h1]
    rw [e] at hR
    exact hR _ _ ⟨rfl, e1⟩
  rw [if_neg (by simpa using h1)]
  by_cases h2 : i < 0 ∨ (mof o).len w ≤ i
  · rw [if_pos (by simpa using h2)]
    have e : (mof o).fieldE w kind i = 4 := by unfold Mem.fieldE; rw [if_neg h1, if_pos h2]
    rw [e] at hR
    exact hR _ _ ⟨rfl, e1⟩
  rw [if_neg (by simpa using h2)]
  have e : (mof o).fieldE w kind i = 0 := by unfold Mem.fieldE; rw [if_neg h1, if_neg h2]
  rw [e] at hR
  have hO : (mof o).isObj w := Classical.byContradiction fun h => h1 (.inl h)
  have hw8 : w / 8 < 65536 := hO.1.1.2
  have hw0 : 0 ≤ w / 8 := by have := hw.1; omega
  have hl := hO.len_lt
  have hle : (mof o).len w = hn ((mof o).get (w / 8)) := by unfold Mem.len; rw [if_pos hO]
  rw [if_pos hO, w64 (n := w / 8 + 1) (by omega), w64 (n := w / 8 + 1 + i) (by omega)]
  exact hR _ _ ⟨rfl, e1⟩
theorem Mem.isObj.used {m : Mem} {w i : Int} (h : m.isObj w) (hw : IsWord w) (hn64 : (m.seg (w / 8 / 64).toNat).n ≤ 64) (hi : 0 ≤ i ∧ i < m.len w) : m.used (w / 8 + 1 + i) := by
  have hw0 : 0 ≤ w / 8 := by have := hw.1; omega
  have hle : m.len w = hn (m.get (w / 8)) := by unfold Mem.len; rw [if_pos h]
  have h3 := h.2.2
  have e1 : (w / 8 + 1 + i) / 64 = w / 8 / 64 := by omega
  have e2 : (w / 8 + 1 + i) % 64 = w / 8 % 64 + 1 + i := by omega
  exact ⟨by omega, by rw [e1]; exact h.1.2.2.1, by rw [e1, e2]; omega⟩
theorem View.n64 {H : Array Obj} {hv : Option Addr} {o : Option (Blk × Hp)} (V : View H hv o) (k : Nat) : ((mof o).seg k).n ≤ 64 := by
  cases V with
  | nobody => exact (by decide : (0 : Int) ≤ 64)
  | empty h => exact (by decide : (0 : Int) ≤ 64)
  | real h ok => exact (ok.mem.seg k).n.2
theorem Mem.fieldE_0 {m : Mem} {w kind i : Int} (h : m.fieldE w kind i = 0) : m.isObj w ∧ m.typ w = kind ∧ 0 ≤ i ∧ i < m.len w := by
  unfold Mem.fieldE at h
  by_cases h1 : ¬ m.isObj w ∨ m.typ w ≠ kind
  · rw [if_pos h1] at h; cases h
  rw [if_neg h1] at h
  by_cases h2 : i < 0 ∨ m.len w ≤ i
  · rw [if_pos h2] at h; cases h
  · exact ⟨Classical.byContradiction fun h => h1 (.inl h), Classical.byContradiction fun h => h1 (.inr h), by omega, by omega⟩
theorem obj_Get_c {H : Array Obj} {hv : Option Addr} {o : Option (Blk × Hp)} {w kind i : Int} (V : View H hv o) (hw : IsWord w) (hi : I64 i) :
    obj_Heap_Get.C hv w kind i H (fun v H' => v = .tuple #[.int .u64 (if (mof o).fieldE w kind i = 0 then (mof o).get (w / 8 + 1 + i) else 0), .int .i64 ((mof o).fieldE w kind i)] ∧ Ext H H') := by
  refine HC.via fun R hR => obj_Heap_Get.link ?_
  unfold obj_Heap_Get.pt
  refine HC.mono (obj_field_c V hw hi) ?_
  rintro _ H1 ⟨rfl, e1⟩
  refine ⟨_, _, rfl, ?_⟩
  by_cases h0 : (mof o).fieldE w kind i = 0
  case neg => rw [if_neg h0]; exact hR _ _ ⟨by rw [if_neg h0], e1⟩
  rw [if_pos h0, if_pos h0]
  obtain ⟨hO, _, hi0, hi1⟩ := Mem.fieldE_0 h0
  have hu := hO.used hw (V.n64 _) ⟨hi0, hi1⟩
  cases V with
  | nobody => exact absurd hO.1.2.2.1 nohas
  | empty h => exact absurd hO.1.2.2.1 nohas
  | @real b x h ok =>
    have h1 := h.ext e1
    refine ⟨_, rfl, _, h1.hPtr, _, rfl, _, h1.cd.cPtr, _, rfl, _, h1.cd.sp.memPtr, ?_⟩
    have hl := hO.len_lt
    have hw8 : w / 8 < 65536 := hO.1.1.2
    have hle : (mof (some _)).len w = _ := if_pos hO
    refine HC.mono (seg_Read_c h1.cd.sp.mem ok.mem (by rw [hle] at hi1; omega)) ?_
    rintro _ H2 ⟨rfl, rfl⟩
    have hu' : x.sp.mem.used (w / 8 + 1 + i) := hu
    rw [if_pos hu']
    refine ⟨_, _, rfl, hR _ _ ⟨?_, e1⟩⟩
    rw [if_pos h0, h0]; rfl

theorem SpOK.withMem {s : Sp} (ok : SpOK s) {m : Mem} (hm : MemOK m) (hh : ∀ k, s.mem.has k → m.has k) (hg : ∀ k, (m.seg k).gen = (s.mem.seg k).gen ∧ (m.seg k).kind = (s.mem.seg k).kind) : SpOK { s with mem := m } :=
  ⟨hm, fun g k => by
    rcases ok.cur g k with h | ⟨h1, h2, h3, h4⟩
    · exact .inl h
    · exact .inr ⟨h1, hh _ h2, by rw [← h3]; exact (hg _).1, by rw [← h4]; exact (hg _).2⟩⟩
theorem Mem.mark_has {m : Mem} {k c v j : Int} : (m.mark k c v).1.has j ↔ m.has j := by
  unfold Mem.mark
  split
  · exact Iff.rfl
  split
  · exact Iff.rfl
  · unfold Mem.has
    show (0 ≤ j ∧ j < (m.limit : Int) ∧ ((m.upd k.toNat ((m.seg k.toNat).mark c.toNat v)).seg j.toNat).taken ≠ 0) ↔ _
    rw [Mem.upd_seg]
    by_cases h : j.toNat = k.toNat
    · rw [if_pos h, h]; rfl
    · rw [if_neg h]
theorem Mem.mark_seg {m : Mem} {k c v : Int} (j : Nat) : ((m.mark k c v).1.seg j).gen = (m.seg j).gen ∧ ((m.mark k c v).1.seg j).kind = (m.seg j).kind ∧ ((m.mark k c v).1.seg j).n = (m.seg j).n ∧ ((m.mark k c v).1.seg j).words = (m.seg j).words := by
  unfold Mem.mark
  split
  · exact ⟨rfl, rfl, rfl, rfl⟩
  split
  · exact ⟨rfl, rfl, rfl, rfl⟩
  · show ((m.upd k.toNat ((m.seg k.toNat).mark c.toNat v)).seg j).gen = _ ∧ ((m.upd k.toNat ((m.seg k.toNat).mark c.toNat v)).seg j).kind = _ ∧ ((m.upd k.toNat ((m.seg k.toNat).mark c.toNat v)).seg j).n = _ ∧ ((m.upd k.toNat ((m.seg k.toNat).mark c.toNat v)).seg j).words = _
    rw [Mem.upd_seg]
    by_cases h : j = k.toNat
    · rw [if_pos h, h]; exact ⟨rfl, rfl, rfl, rfl⟩
    · rw [if_neg h]; exact ⟨rfl, rfl, rfl, rfl⟩
theorem Mem.set_seg {m : Mem} {a w : Int} (j : Nat) : ((m.set a w).seg j).gen = (m.seg j).gen ∧ ((m.set a w).seg j).kind = (m.seg j).kind ∧ ((m.set a w).seg j).n = (m.seg j).n := by
  unfold Mem.set
  rw [Mem.upd_seg]
  by_cases h : j = (a / 64).toNat
  · rw [if_pos h, h]; exact ⟨rfl, rfl, rfl⟩
  · rw [if_neg h]; exact ⟨rfl, rfl, rfl⟩
theorem MemOK.store {m : Mem} (ok : MemOK m) (a : Int) {w : Int} (hw : IsWord w) : MemOK (m.store a w).1 := by
  unfold Mem.store
  split
  · exact (ok.set a hw).mark _ _ _
  · exact ok
theorem Mem.store_seg {m : Mem} {a w : Int} (j : Nat) : ((m.store a w).1.seg j).gen = (m.seg j).gen ∧ ((m.store a w).1.seg j).kind = (m.seg j).kind ∧ ((m.store a w).1.seg j).n = (m.seg j).n := by
  unfold Mem.store
  split
  · have h1 := Mem.mark_seg (m := m.set a w) (k := a / 64) (c := a % 64 / 16) (v := (m.set a w).younger ((m.set a w).seg (a / 64).toNat) w (((m.set a w).seg (a / 64).toNat).cards (a % 64 / 16).toNat)) j
    have h2 := Mem.set_seg (m := m) (a := a) (w := w) j
    exact ⟨h1.1.trans h2.1, h1.2.1.trans h2.2.1, h1.2.2.1.trans h2.2.2⟩
  · exact ⟨rfl, rfl, rfl⟩
theorem Mem.store_has {m : Mem} {a w k : Int} : (m.store a w).1.has k ↔ m.has k := by
  unfold Mem.store
  split
  · exact Mem.mark_has.trans Mem.set_has
  · exact Iff.rfl
theorem SpOK.store {s : Sp} (ok : SpOK s) (a : Int) {w : Int} (hw : IsWord w) : SpOK { s with mem := (s.mem.store a w).1 } :=
  ok.withMem (ok.mem.store a hw) (fun k h => Mem.store_has.2 h) (fun k => ⟨(Mem.store_seg k).1, (Mem.store_seg k).2.1⟩)

def own (o : Option (Blk × Hp)) : List Nat := match o with | none => [] | some (b, _) => [b.sp, b.m, b.s]
theorem View.len_bd {H : Array Obj} {hv : Option Addr} {o : Option (Blk × Hp)} (V : View H hv o) (w : Int) : 0 ≤ (mof o).len w ∧ (mof o).len w ≤ 62 := by
  unfold Mem.len
  by_cases h : (mof o).isObj w
  · rw [if_pos h]; exact h.len_lt
  · rw [if_neg h]; omega

theorem SrcAt.ext {H H' : Array Obj} {p : Option Addr} {xs : List Value} (h : SrcAt H p xs) (e : Ext H H') : SrcAt H' p xs := by
  cases p with
  | none => exact h
  | some a => exact e.rowAt h

theorem obj_New_c {H : Array Obj} {limit : Int} (hl : I64 limit) :
    obj_New.C limit H (fun v H' => (¬ (8 ≤ limit ∧ limit ≤ 1024) ∧ v = .tuple #[.pointer none, .int .i64 1] ∧ Ext H H') ∨
      ((8 ≤ limit ∧ limit ≤ 1024) ∧ ∃ (b : Blk) (x : Hp), v = .tuple #[.pointer (some ⟨b.h, 0, none⟩), .int .i64 0] ∧ View H' (some ⟨b.h, 0, none⟩) (some (b, x)) ∧ x = ⟨⟨Mem.fresh limit.toNat, fun _ _ => 0⟩, .slice none 0 0, .slice none 0 0, 0⟩ ∧ Ext H H' ∧ (∀ i, i ∈ b.all → H.size ≤ i))) := by
  refine HC.via fun R hR => obj_New.link ?_
  unfold obj_New.pt
  refine HC.mono (card_New_c hl) ?_
  rintro _ H1 (⟨hn, rfl, e1⟩ | ⟨hy, b, rfl, hs, e1, h1, h2, h3, h4⟩)
  · refine ⟨_, _, rfl, ?_⟩
    rw [if_neg (by decide)]
    exact hR _ _ (.inl ⟨hn, rfl, e1⟩)
  · refine ⟨_, _, rfl, ?_⟩
    rw [if_pos rfl]
    intro b1 H2 hb hH2
    have hlt : b.c < H1.size := lt_size hs.c
    have hs2 := hs.ext (Ext.push' hH2)
    refine hR _ _ (.inr ⟨hy, { b with h := b1 }, _, rfl, .real ⟨⟨⟨hs2.sp.mem, hs2.sp.ne, hs2.sp.sp⟩, hs2.ne, hs2.c⟩, ⟨by show b1 ≠ b.c; omega, by show b1 ≠ b.sp; omega, by show b1 ≠ b.m; omega, by show b1 ≠ b.s; omega⟩, push_get hb hH2⟩ (spOK_fresh ⟨by omega, by omega⟩), rfl, e1.trans (Ext.push' hH2), fun i hi => ?_⟩)
    simp [Blk.all] at hi
    have := e1.size
    omega
end Go.Proofs.YthlohokmnajpoaaGreatDoor
