/- Calls of 'Awake' are as the table says. -/
import Derived.Test.YtpjhhplefafojaaGreatAt
set_option linter.unusedVariables false
set_option linter.unusedSimpArgs false
open Go Go.Abs Go.Abs.Sx Go.Proofs
namespace Go.Proofs.YtpjhhplefafojaaGreat
set_option maxRecDepth 100000
theorem ck3 : r3.chk E [] 4000 = true := by kernel_rfl
theorem ck6 : r6.chk E [] 4000 = true := by kernel_rfl
theorem ck10 : r10.chk E [] 4000 = true := by kernel_rfl
theorem ck13 : r13.chk E [] 4000 = true := by kernel_rfl
theorem ck19 : r19.chk E [] 4000 = true := by kernel_rfl
end Go.Proofs.YtpjhhplefafojaaGreat
