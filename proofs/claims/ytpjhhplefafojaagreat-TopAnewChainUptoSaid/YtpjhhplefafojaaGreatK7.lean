/- Functions are run: each check, by the kernel. -/
import Derived.Test.YtpjhhplefafojaaGreatD1
set_option linter.unusedVariables false
set_option linter.unusedSimpArgs false
open Go Go.Abs Go.Abs.Sx Go.Proofs
namespace Go.Proofs.YtpjhhplefafojaaGreat
set_option maxRecDepth 100000
noncomputable def cfg7 : Cfg := ⟨E, prL vt7, conL.take 7, [], .lit 0⟩
theorem vtok7 : VT.okB vt7 ct7 = true := by kernel_rfl
theorem ok7 : checkCon cfg7 400 con7 an7 ths7 = true := by kernel_rfl
noncomputable def cfg10 : Cfg := ⟨E, prL vt10, conL.take 10, [], .lit 0⟩
theorem vtok10 : VT.okB vt10 ct10 = true := by kernel_rfl
theorem ok10 : checkCon cfg10 400 con10 an10 ths10 = true := by kernel_rfl
noncomputable def cfg22 : Cfg := ⟨E, prL vt22, conL.take 16, [con22, con23], .lit 0⟩
theorem vtok22 : VT.okB vt22 ct22 = true := by kernel_rfl
theorem ok22 : checkCon { cfg22 with lim := con22.meas } 400 con22 an22 ths22 = true := by kernel_rfl
theorem le22 : leP (prL vt22) con22.pre.facts (.lit 0) con22.meas = true := by kernel_rfl
theorem ok23 : checkCon { cfg22 with lim := con23.meas } 400 con23 an23 ths23 = true := by kernel_rfl
theorem le23 : leP (prL vt22) con23.pre.facts (.lit 0) con23.meas = true := by kernel_rfl
noncomputable def cfg35 : Cfg := ⟨E, prL vt35, conL.take 24, [], .lit 0⟩
theorem vtok35 : VT.okB vt35 ct35 = true := by kernel_rfl
theorem ok35 : checkCon cfg35 400 con35 an35 ths35 = true := by kernel_rfl
noncomputable def cfg50 : Cfg := ⟨E, prL vt50, conL.take 31, [], .lit 0⟩
theorem vtok50 : VT.okB vt50 ct50 = true := by kernel_rfl
theorem ok50 : checkCon cfg50 400 con50 an50 ths50 = true := by kernel_rfl
noncomputable def cfg53 : Cfg := ⟨E, prL vt53, conL.take 32, [], .lit 0⟩
theorem vtok53 : VT.okB vt53 ct53 = true := by kernel_rfl
theorem ok53 : checkCon cfg53 400 con53 an53 ths53 = true := by kernel_rfl
noncomputable def cfg56 : Cfg := ⟨E, prL vt56, conL.take 33, [], .lit 0⟩
theorem vtok56 : VT.okB vt56 ct56 = true := by kernel_rfl
theorem ok56 : checkCon cfg56 400 con56 an56 ths56 = true := by kernel_rfl
noncomputable def cfg61 : Cfg := ⟨E, prL vt61, conL.take 36, [], .lit 0⟩
theorem vtok61 : VT.okB vt61 ct61 = true := by kernel_rfl
theorem ok61 : checkCon cfg61 400 con61 an61 ths61 = true := by kernel_rfl
end Go.Proofs.YtpjhhplefafojaaGreat
