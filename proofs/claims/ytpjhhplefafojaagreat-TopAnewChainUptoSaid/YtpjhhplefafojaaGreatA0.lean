/- Calls of 'Awake' are as the table says. -/
import Derived.Test.YtpjhhplefafojaaGreatAt
set_option linter.unusedVariables false
set_option linter.unusedSimpArgs false
open Go Go.Abs Go.Abs.Sx Go.Proofs
namespace Go.Proofs.YtpjhhplefafojaaGreat
set_option maxRecDepth 100000
theorem ck1 : r1.chk E [] 4000 = true := by kernel_rfl
theorem ck5 : r5.chk E [] 4000 = true := by kernel_rfl
theorem ck8 : r8.chk E [] 4000 = true := by kernel_rfl
theorem ck12 : r12.chk E [] 4000 = true := by kernel_rfl
theorem ck15 : r15.chk E [] 4000 = true := by kernel_rfl
end Go.Proofs.YtpjhhplefafojaaGreat
