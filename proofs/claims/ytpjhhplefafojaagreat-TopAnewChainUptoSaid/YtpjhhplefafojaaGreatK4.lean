/- Functions are run: each check, by the kernel. -/
import Derived.Test.YtpjhhplefafojaaGreatD1
set_option linter.unusedVariables false
set_option linter.unusedSimpArgs false
open Go Go.Abs Go.Abs.Sx Go.Proofs
namespace Go.Proofs.YtpjhhplefafojaaGreat
set_option maxRecDepth 100000
noncomputable def cfg4 : Cfg := ⟨E, prL vt4, conL.take 4, [], .lit 0⟩
theorem vtok4 : VT.okB vt4 ct4 = true := by kernel_rfl
theorem ok4 : checkCon cfg4 400 con4 an4 ths4 = true := by kernel_rfl
noncomputable def cfg18 : Cfg := ⟨E, prL vt18, conL.take 13, [], .lit 0⟩
theorem vtok18 : VT.okB vt18 ct18 = true := by kernel_rfl
theorem ok18 : checkCon cfg18 400 con18 an18 ths18 = true := by kernel_rfl
noncomputable def cfg34 : Cfg := ⟨E, prL vt34, conL.take 23, [], .lit 0⟩
theorem vtok34 : VT.okB vt34 ct34 = true := by kernel_rfl
theorem ok34 : checkCon cfg34 400 con34 an34 ths34 = true := by kernel_rfl
noncomputable def cfg42 : Cfg := ⟨E, prL vt42, conL.take 27, [con42], .lit 0⟩
theorem vtok42 : VT.okB vt42 ct42 = true := by kernel_rfl
theorem ok42 : checkCon { cfg42 with lim := con42.meas } 400 con42 an42 ths42 = true := by kernel_rfl
theorem le42 : leP (prL vt42) con42.pre.facts (.lit 0) con42.meas = true := by kernel_rfl
noncomputable def cfg46 : Cfg := ⟨E, prL vt46, conL.take 29, [], .lit 0⟩
theorem vtok46 : VT.okB vt46 ct46 = true := by kernel_rfl
theorem ok46 : checkCon cfg46 400 con46 an46 ths46 = true := by kernel_rfl
noncomputable def cfg51 : Cfg := ⟨E, prL vt51, conL.take 32, [], .lit 0⟩
theorem vtok51 : VT.okB vt51 ct51 = true := by kernel_rfl
theorem ok51 : checkCon cfg51 400 con51 an51 ths51 = true := by kernel_rfl
noncomputable def cfg62 : Cfg := ⟨E, prL vt62, conL.take 36, [], .lit 0⟩
theorem vtok62 : VT.okB vt62 ct62 = true := by kernel_rfl
theorem ok62 : checkCon cfg62 400 con62 an62 ths62 = true := by kernel_rfl
noncomputable def cfg64 : Cfg := ⟨E, prL vt64, conL.take 37, [], .lit 0⟩
theorem vtok64 : VT.okB vt64 ct64 = true := by kernel_rfl
theorem ok64 : checkCon cfg64 400 con64 an64 ths64 = true := by kernel_rfl
end Go.Proofs.YtpjhhplefafojaaGreat
