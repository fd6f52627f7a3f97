/- Functions are run: each check, by the kernel. -/
import Derived.Test.YtpjhhplefafojaaGreatD1
set_option linter.unusedVariables false
set_option linter.unusedSimpArgs false
open Go Go.Abs Go.Abs.Sx Go.Proofs
namespace Go.Proofs.YtpjhhplefafojaaGreat
set_option maxRecDepth 100000
noncomputable def cfg2 : Cfg := ⟨E, prL vt2, conL.take 2, [], .lit 0⟩
theorem vtok2 : VT.okB vt2 ct2 = true := by kernel_rfl
theorem ok2 : checkCon cfg2 400 con2 an2 ths2 = true := by kernel_rfl
noncomputable def cfg3 : Cfg := ⟨E, prL vt3, conL.take 3, [], .lit 0⟩
theorem vtok3 : VT.okB vt3 ct3 = true := by kernel_rfl
theorem ok3 : checkCon cfg3 400 con3 an3 ths3 = true := by kernel_rfl
noncomputable def cfg8 : Cfg := ⟨E, prL vt8, conL.take 8, [], .lit 0⟩
theorem vtok8 : VT.okB vt8 ct8 = true := by kernel_rfl
theorem ok8 : checkCon cfg8 400 con8 an8 ths8 = true := by kernel_rfl
noncomputable def cfg11 : Cfg := ⟨E, prL vt11, conL.take 11, [], .lit 0⟩
theorem vtok11 : VT.okB vt11 ct11 = true := by kernel_rfl
theorem ok11 : checkCon cfg11 400 con11 an11 ths11 = true := by kernel_rfl
noncomputable def cfg25 : Cfg := ⟨E, prL vt25, conL.take 19, [], .lit 0⟩
theorem vtok25 : VT.okB vt25 ct25 = true := by kernel_rfl
theorem ok25 : checkCon cfg25 400 con25 an25 ths25 = true := by kernel_rfl
noncomputable def cfg52 : Cfg := ⟨E, prL vt52, conL.take 32, [], .lit 0⟩
theorem vtok52 : VT.okB vt52 ct52 = true := by kernel_rfl
theorem ok52 : checkCon cfg52 400 con52 an52 ths52 = true := by kernel_rfl
noncomputable def cfg57 : Cfg := ⟨E, prL vt57, conL.take 34, [], .lit 0⟩
theorem vtok57 : VT.okB vt57 ct57 = true := by kernel_rfl
theorem ok57 : checkCon cfg57 400 con57 an57 ths57 = true := by kernel_rfl
noncomputable def cfg65 : Cfg := ⟨E, prL vt65, conL.take 38, [], .lit 0⟩
theorem vtok65 : VT.okB vt65 ct65 = true := by kernel_rfl
theorem ok65 : checkCon cfg65 400 con65 an65 ths65 = true := by kernel_rfl
end Go.Proofs.YtpjhhplefafojaaGreat
