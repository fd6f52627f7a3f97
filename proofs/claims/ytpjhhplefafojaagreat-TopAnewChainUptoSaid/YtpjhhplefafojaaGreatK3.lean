/- Functions are run: each check, by the kernel. -/
import Derived.Test.YtpjhhplefafojaaGreatD1
set_option linter.unusedVariables false
set_option linter.unusedSimpArgs false
open Go Go.Abs Go.Abs.Sx Go.Proofs
namespace Go.Proofs.YtpjhhplefafojaaGreat
set_option maxRecDepth 100000
noncomputable def cfg1 : Cfg := ⟨E, prL vt1, conL.take 1, [], .lit 0⟩
theorem vtok1 : VT.okB vt1 ct1 = true := by kernel_rfl
theorem ok1 : checkCon cfg1 400 con1 an1 ths1 = true := by kernel_rfl
noncomputable def cfg9 : Cfg := ⟨E, prL vt9, conL.take 9, [], .lit 0⟩
theorem vtok9 : VT.okB vt9 ct9 = true := by kernel_rfl
theorem ok9 : checkCon cfg9 400 con9 an9 ths9 = true := by kernel_rfl
noncomputable def cfg20 : Cfg := ⟨E, prL vt20, conL.take 14, [], .lit 0⟩
theorem vtok20 : VT.okB vt20 ct20 = true := by kernel_rfl
theorem ok20 : checkCon cfg20 400 con20 an20 ths20 = true := by kernel_rfl
noncomputable def cfg31 : Cfg := ⟨E, prL vt31, conL.take 21, [], .lit 0⟩
theorem vtok31 : VT.okB vt31 ct31 = true := by kernel_rfl
theorem ok31 : checkCon cfg31 400 con31 an31 ths31 = true := by kernel_rfl
noncomputable def cfg36 : Cfg := ⟨E, prL vt36, conL.take 25, [con36, con37], .lit 0⟩
theorem vtok36 : VT.okB vt36 ct36 = true := by kernel_rfl
theorem ok36 : checkCon { cfg36 with lim := con36.meas } 400 con36 an36 ths36 = true := by kernel_rfl
theorem le36 : leP (prL vt36) con36.pre.facts (.lit 0) con36.meas = true := by kernel_rfl
theorem ok37 : checkCon { cfg36 with lim := con37.meas } 400 con37 an37 ths37 = true := by kernel_rfl
theorem le37 : leP (prL vt36) con37.pre.facts (.lit 0) con37.meas = true := by kernel_rfl
noncomputable def cfg54 : Cfg := ⟨E, prL vt54, conL.take 32, [], .lit 0⟩
theorem vtok54 : VT.okB vt54 ct54 = true := by kernel_rfl
theorem ok54 : checkCon cfg54 400 con54 an54 ths54 = true := by kernel_rfl
noncomputable def cfg60 : Cfg := ⟨E, prL vt60, conL.take 35, [], .lit 0⟩
theorem vtok60 : VT.okB vt60 ct60 = true := by kernel_rfl
theorem ok60 : checkCon cfg60 400 con60 an60 ths60 = true := by kernel_rfl
noncomputable def cfg66 : Cfg := ⟨E, prL vt66, conL.take 39, [], .lit 0⟩
theorem vtok66 : VT.okB vt66 ct66 = true := by kernel_rfl
theorem ok66 : checkCon cfg66 400 con66 an66 ths66 = true := by kernel_rfl
noncomputable def cfg67 : Cfg := ⟨E, prL vt67, conL.take 39, [], .lit 0⟩
theorem vtok67 : VT.okB vt67 ct67 = true := by kernel_rfl
theorem ok67 : checkCon cfg67 400 con67 an67 ths67 = true := by kernel_rfl
end Go.Proofs.YtpjhhplefafojaaGreat
