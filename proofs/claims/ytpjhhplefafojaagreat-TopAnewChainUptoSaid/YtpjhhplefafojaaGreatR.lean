/- The tables are the program's. -/
import Derived.Test.YtpjhhplefafojaaGreatT
set_option linter.unusedVariables false
set_option linter.unusedSimpArgs false
open Go Go.Abs Go.Abs.Sx Go.Proofs
namespace Go.Proofs.YtpjhhplefafojaaGreat
set_option maxRecDepth 100000
theorem mixed : Tryz.prog.follows .mixedOrders = true := by kernel_rfl
theorem deep : 8 ≤ Tryz.prog.depth := by decide +kernel
theorem ti_ok : (T.ti.map fun p => tinfo Tryz.prog p.1) = (T.ti.map fun p => some p.2) := by kernel_rfl
theorem pl_ok : (T.pl.map fun p => plainK2 Tryz.prog 8 p.1) = (T.pl.map fun p => some p.2) := by kernel_rfl
theorem fns_ok : T.fnsOk Tryz.prog T.nf = true := by kernel_rfl
theorem run_ok : RunOk E Tryz.prog := Tab.runOk ti_ok pl_ok fns_ok mixed deep
end Go.Proofs.YtpjhhplefafojaaGreat
