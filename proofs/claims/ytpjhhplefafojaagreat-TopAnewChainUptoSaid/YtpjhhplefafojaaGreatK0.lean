/- Functions are run: each check, by the kernel. -/
import Derived.Test.YtpjhhplefafojaaGreatD1
set_option linter.unusedVariables false
set_option linter.unusedSimpArgs false
open Go Go.Abs Go.Abs.Sx Go.Proofs
namespace Go.Proofs.YtpjhhplefafojaaGreat
set_option maxRecDepth 100000
noncomputable def cfg0 : Cfg := ⟨E, prL vt0, conL.take 0, [], .lit 0⟩
theorem vtok0 : VT.okB vt0 ct0 = true := by kernel_rfl
theorem ok0 : checkCon cfg0 400 con0 an0 ths0 = true := by kernel_rfl
end Go.Proofs.YtpjhhplefafojaaGreat
