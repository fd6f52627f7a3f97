/- Functions are run: each check, by the kernel. -/
import Derived.Test.YtpjhhplefafojaaGreatD1
set_option linter.unusedVariables false
set_option linter.unusedSimpArgs false
open Go Go.Abs Go.Abs.Sx Go.Proofs
namespace Go.Proofs.YtpjhhplefafojaaGreat
set_option maxRecDepth 100000
noncomputable def cfg6 : Cfg := ⟨E, prL vt6, conL.take 6, [], .lit 0⟩
theorem vtok6 : VT.okB vt6 ct6 = true := by kernel_rfl
theorem ok6 : checkCon cfg6 400 con6 an6 ths6 = true := by kernel_rfl
noncomputable def cfg14 : Cfg := ⟨E, prL vt14, conL.take 12, [], .lit 0⟩
theorem vtok14 : VT.okB vt14 ct14 = true := by kernel_rfl
theorem ok14 : checkCon cfg14 400 con14 an14 ths14 = true := by kernel_rfl
noncomputable def cfg21 : Cfg := ⟨E, prL vt21, conL.take 15, [], .lit 0⟩
theorem vtok21 : VT.okB vt21 ct21 = true := by kernel_rfl
theorem ok21 : checkCon cfg21 400 con21 an21 ths21 = true := by kernel_rfl
noncomputable def cfg27 : Cfg := ⟨E, prL vt27, conL.take 20, [con27], .lit 0⟩
theorem vtok27 : VT.okB vt27 ct27 = true := by kernel_rfl
theorem ok27 : checkCon { cfg27 with lim := con27.meas } 400 con27 an27 ths27 = true := by kernel_rfl
theorem le27 : leP (prL vt27) con27.pre.facts (.lit 0) con27.meas = true := by kernel_rfl
noncomputable def cfg47 : Cfg := ⟨E, prL vt47, conL.take 29, [], .lit 0⟩
theorem vtok47 : VT.okB vt47 ct47 = true := by kernel_rfl
theorem ok47 : checkCon cfg47 400 con47 an47 ths47 = true := by kernel_rfl
noncomputable def cfg48 : Cfg := ⟨E, prL vt48, conL.take 29, [], .lit 0⟩
theorem vtok48 : VT.okB vt48 ct48 = true := by kernel_rfl
theorem ok48 : checkCon cfg48 400 con48 an48 ths48 = true := by kernel_rfl
noncomputable def cfg59 : Cfg := ⟨E, prL vt59, conL.take 34, [], .lit 0⟩
theorem vtok59 : VT.okB vt59 ct59 = true := by kernel_rfl
theorem ok59 : checkCon cfg59 400 con59 an59 ths59 = true := by kernel_rfl
end Go.Proofs.YtpjhhplefafojaaGreat
