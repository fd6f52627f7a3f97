/- Calls of 'Awake' are as the table says. -/
import Derived.Test.YtpjhhplefafojaaGreatAt
set_option linter.unusedVariables false
set_option linter.unusedSimpArgs false
open Go Go.Abs Go.Abs.Sx Go.Proofs
namespace Go.Proofs.YtpjhhplefafojaaGreat
set_option maxRecDepth 100000
theorem ck0 : r0.chk E [] 4000 = true := by kernel_rfl
theorem ck2 : r2.chk E [] 4000 = true := by kernel_rfl
theorem ck4 : r4.chk E [] 4000 = true := by kernel_rfl
theorem ck7 : r7.chk E [] 4000 = true := by kernel_rfl
theorem ck9 : r9.chk E [] 4000 = true := by kernel_rfl
theorem ck11 : r11.chk E [] 4000 = true := by kernel_rfl
theorem ck14 : r14.chk E [] 4000 = true := by kernel_rfl
theorem ck16 : r16.chk E [] 4000 = true := by kernel_rfl
theorem ck17 : r17.chk E [] 4000 = true := by kernel_rfl
theorem ck18 : r18.chk E [] 4000 = true := by kernel_rfl
theorem ck20 : r20.chk E [] 4000 = true := by kernel_rfl
theorem ck21 : r21.chk E [] 4000 = true := by kernel_rfl
end Go.Proofs.YtpjhhplefafojaaGreat
