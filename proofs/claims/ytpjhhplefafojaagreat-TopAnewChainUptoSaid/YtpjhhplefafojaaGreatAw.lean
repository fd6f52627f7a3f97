/- 'Awake' answers true. -/
import Derived.Test.YtpjhhplefafojaaGreatA0
import Derived.Test.YtpjhhplefafojaaGreatA1
import Derived.Test.YtpjhhplefafojaaGreatA2
set_option linter.unusedVariables false
set_option linter.unusedSimpArgs false
open Go Go.Abs Go.Abs.Sx Go.Proofs
namespace Go.Proofs.YtpjhhplefafojaaGreat
set_option maxRecDepth 100000
theorem tab_ok (hE : RunOk E Tryz.prog) : OvOk E Tryz.prog (tabOv tab) :=
  tabOv_cons hE tabOv_nil (tabOv_cons hE tabOv_nil (tabOv_cons hE tabOv_nil (tabOv_cons hE tabOv_nil (tabOv_cons hE tabOv_nil (tabOv_cons hE tabOv_nil (tabOv_cons hE tabOv_nil (tabOv_cons hE tabOv_nil (tabOv_cons hE tabOv_nil (tabOv_cons hE tabOv_nil (tabOv_cons hE tabOv_nil (tabOv_cons hE tabOv_nil (tabOv_cons hE tabOv_nil (tabOv_cons hE tabOv_nil (tabOv_cons hE tabOv_nil (tabOv_cons hE tabOv_nil (tabOv_cons hE tabOv_nil (tabOv_cons hE tabOv_nil (tabOv_cons hE tabOv_nil (tabOv_cons hE tabOv_nil (tabOv_cons hE tabOv_nil (tabOv_cons hE tabOv_nil (tabOv_nil) ck21) ck20) ck19) ck18) ck17) ck16) ck15) ck14) ck13) ck12) ck11) ck10) ck9) ck8) ck7) ck6) ck5) ck4) ck3) ck2) ck1) ck0
theorem aw : retTrue ((evo E (tabOv tab) 4000).call (.fn (.func 44) [] []) [] .no Heap.empty) = true := by kernel_rfl
end Go.Proofs.YtpjhhplefafojaaGreat
