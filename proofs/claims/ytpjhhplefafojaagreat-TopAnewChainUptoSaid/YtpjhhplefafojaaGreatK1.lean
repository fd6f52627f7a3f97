/- Functions are run: each check, by the kernel. -/
import Derived.Test.YtpjhhplefafojaaGreatD1
set_option linter.unusedVariables false
set_option linter.unusedSimpArgs false
open Go Go.Abs Go.Abs.Sx Go.Proofs
namespace Go.Proofs.YtpjhhplefafojaaGreat
set_option maxRecDepth 100000
noncomputable def cfg44 : Cfg := ⟨E, prL vt44, conL.take 29, [], .lit 0⟩
theorem vtok44 : VT.okB vt44 ct44 = true := by kernel_rfl
theorem ok44 : checkCon cfg44 400 con44 an44 ths44 = true := by kernel_rfl
end Go.Proofs.YtpjhhplefafojaaGreat
