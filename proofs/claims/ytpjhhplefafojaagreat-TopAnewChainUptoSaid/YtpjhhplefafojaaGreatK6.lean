/- Functions are run: each check, by the kernel. -/
import Derived.Test.YtpjhhplefafojaaGreatD1
set_option linter.unusedVariables false
set_option linter.unusedSimpArgs false
open Go Go.Abs Go.Abs.Sx Go.Proofs
namespace Go.Proofs.YtpjhhplefafojaaGreat
set_option maxRecDepth 100000
noncomputable def cfg5 : Cfg := ⟨E, prL vt5, conL.take 5, [], .lit 0⟩
theorem vtok5 : VT.okB vt5 ct5 = true := by kernel_rfl
theorem ok5 : checkCon cfg5 400 con5 an5 ths5 = true := by kernel_rfl
noncomputable def cfg24 : Cfg := ⟨E, prL vt24, conL.take 18, [], .lit 0⟩
theorem vtok24 : VT.okB vt24 ct24 = true := by kernel_rfl
theorem ok24 : checkCon cfg24 400 con24 an24 ths24 = true := by kernel_rfl
noncomputable def cfg33 : Cfg := ⟨E, prL vt33, conL.take 22, [con33], .lit 0⟩
theorem vtok33 : VT.okB vt33 ct33 = true := by kernel_rfl
theorem ok33 : checkCon { cfg33 with lim := con33.meas } 400 con33 an33 ths33 = true := by kernel_rfl
theorem le33 : leP (prL vt33) con33.pre.facts (.lit 0) con33.meas = true := by kernel_rfl
noncomputable def cfg43 : Cfg := ⟨E, prL vt43, conL.take 28, [], .lit 0⟩
theorem vtok43 : VT.okB vt43 ct43 = true := by kernel_rfl
theorem ok43 : checkCon cfg43 400 con43 an43 ths43 = true := by kernel_rfl
noncomputable def cfg45 : Cfg := ⟨E, prL vt45, conL.take 29, [], .lit 0⟩
theorem vtok45 : VT.okB vt45 ct45 = true := by kernel_rfl
theorem ok45 : checkCon cfg45 400 con45 an45 ths45 = true := by kernel_rfl
noncomputable def cfg49 : Cfg := ⟨E, prL vt49, conL.take 30, [], .lit 0⟩
theorem vtok49 : VT.okB vt49 ct49 = true := by kernel_rfl
theorem ok49 : checkCon cfg49 400 con49 an49 ths49 = true := by kernel_rfl
noncomputable def cfg55 : Cfg := ⟨E, prL vt55, conL.take 32, [], .lit 0⟩
theorem vtok55 : VT.okB vt55 ct55 = true := by kernel_rfl
theorem ok55 : checkCon cfg55 400 con55 an55 ths55 = true := by kernel_rfl
noncomputable def cfg58 : Cfg := ⟨E, prL vt58, conL.take 34, [], .lit 0⟩
theorem vtok58 : VT.okB vt58 ct58 = true := by kernel_rfl
theorem ok58 : checkCon cfg58 400 con58 an58 ths58 = true := by kernel_rfl
noncomputable def cfg63 : Cfg := ⟨E, prL vt63, conL.take 36, [], .lit 0⟩
theorem vtok63 : VT.okB vt63 ct63 = true := by kernel_rfl
theorem ok63 : checkCon cfg63 400 con63 an63 ths63 = true := by kernel_rfl
end Go.Proofs.YtpjhhplefafojaaGreat
