/-
  Characters that become a text, and are told again. Proves nothing of any one statement.
-/
import Derived.Test.YtillpfaabdlaiaaDoorText
set_option linter.unusedVariables false
set_option linter.unusedSimpArgs false
namespace Go.Proofs.YtillpfaabdlaiaaDoor
open Go

theorem u8 (n : Nat) (h : n < 256) : (UInt8.ofNat n).toNat = n := by
  simp [UInt8.toNat_ofNat']; omega
section
variable {S : ByteArray} {i : Nat}
end
end Go.Proofs.YtillpfaabdlaiaaDoor
