/- Readers of what is handed in, printed by a program of mine (openr.py). -/
import Derived.Test.YtfohlkiikppefaaRead
set_option linter.unusedVariables false
set_option linter.unusedSimpArgs false
namespace Go.Proofs.Ytfohlkiikppefaa
open Go
open Go.ChangeShapes Go.WideShapes

structure NumOf where
  neg : Bool
  mag : Sl Int
abbrev NumOf.cells (rr : NumOf) : List Value := [.bool rr.neg, .slice rr.mag.p rr.mag.n rr.mag.c]
structure NumOf.OK (B : Nat) (H : Array Obj) (rr : NumOf) : Prop where
  neg : boolR.ok B H rr.neg
  mag : (slR 1 (intR .u32)).ok B H rr.mag
def numOfR : Rdr NumOf := ⟨NumOf.cells, NumOf.OK, fun e h => ⟨boolR.mono e h.neg, (slR 1 (intR .u32)).mono e h.mag⟩⟩
set_option maxRecDepth 100000 in
theorem reads_NumOf {Hd : Type} {enc : TypeId × Value → Hd} {w : World} {base : Nat} {spare : Nat → Bool} {held : Bool} {B : Nat} : Reads enc Try.prog w base spare held B 70 numOfR := fun {fuel cs x} h hs => by
  have csn : Try.prog.cellsOf 70 = 2 := by kernel_rfl
  obtain ⟨hlen, hf⟩ := rd_fields Try.underlying70 h hs
  rw [csn] at hlen
  match cs, hlen with
  | [a0, a1], _ =>
    obtain ⟨n0, y0, g0, s0⟩ := hf 0 _ rfl
    have c0 : Try.prog.cellsOf 4 = 1 := by kernel_rfl
    have e0 : ([a0, a1].drop 0).take (Try.prog.cellsOf 4) = [a0] := by rw [c0]; rfl
    replace g0 : DataW.trod enc Try.prog w base spare held n0 4 [a0] = some y0 := by rw [← e0]; exact g0
    obtain ⟨z0, k0, o0⟩ := (reads_bool Try.underlying4 : Reads enc Try.prog w base spare held B 4 boolR) g0 s0
    obtain ⟨n1, y1, g1, s1⟩ := hf 1 _ rfl
    have c1 : Try.prog.cellsOf 40 = 1 := by kernel_rfl
    have e1 : ([a0, a1].drop 1).take (Try.prog.cellsOf 40) = [a1] := by rw [c1]; rfl
    replace g1 : DataW.trod enc Try.prog w base spare held n1 40 [a1] = some y1 := by rw [← e1]; exact g1
    obtain ⟨z1, k1, o1⟩ := (reads_slice Try.underlying40 (by kernel_rfl) (reads_int Try.underlying41) : Reads enc Try.prog w base spare held B 40 (slR 1 (intR .u32))) g1 s1
    cases k0
    cases k1
    exact ⟨⟨z0, z1⟩, rfl, ⟨o0, o1⟩⟩
structure ValOf where
  w : Int
  ofv : Int
abbrev ValOf.cells (rr : ValOf) : List Value := [.int .u64 rr.w, .int .i64 rr.ofv]
structure ValOf.OK (B : Nat) (H : Array Obj) (rr : ValOf) : Prop where
  w : (intR .u64).ok B H rr.w
  ofv : (intR .i64).ok B H rr.ofv
def valOfR : Rdr ValOf := ⟨ValOf.cells, ValOf.OK, fun e h => ⟨(intR .u64).mono e h.w, (intR .i64).mono e h.ofv⟩⟩
structure ActOf where
  dov : Int
  x : ValOf
  y : ValOf
  kind : Int
  n : Int
  more : Int
  l : Sl ValOf
  s : ByteArray
  num : NumOf
abbrev ActOf.cells (rr : ActOf) : List Value := [.int .i64 rr.dov, .int .u64 rr.x.w, .int .i64 rr.x.ofv, .int .u64 rr.y.w, .int .i64 rr.y.ofv, .int .i64 rr.kind, .int .i64 rr.n, .int .u64 rr.more, .slice rr.l.p rr.l.n rr.l.c, .string rr.s, .bool rr.num.neg, .slice rr.num.mag.p rr.num.mag.n rr.num.mag.c]
structure ActOf.OK (B : Nat) (H : Array Obj) (rr : ActOf) : Prop where
  dov : (intR .i64).ok B H rr.dov
  x : valOfR.ok B H rr.x
  y : valOfR.ok B H rr.y
  kind : (intR .i64).ok B H rr.kind
  n : (intR .i64).ok B H rr.n
  more : (intR .u64).ok B H rr.more
  l : (slR 2 valOfR).ok B H rr.l
  s : strR'.ok B H rr.s
  num : numOfR.ok B H rr.num
end Go.Proofs.Ytfohlkiikppefaa
