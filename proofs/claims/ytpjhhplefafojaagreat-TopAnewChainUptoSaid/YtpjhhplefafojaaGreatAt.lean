/- Calls that 'Awake' makes: arguments, results. -/
import Derived.Test.YtpjhhplefafojaaGreatT
set_option linter.unusedVariables false
set_option linter.unusedSimpArgs false
open Go Go.Abs Go.Abs.Sx Go.Proofs
namespace Go.Proofs.YtpjhhplefafojaaGreat
set_option maxRecDepth 100000
def i (n : Int) : V := .int .i64 n
def v0 : V := .agg [.sro [.str ⟨#[108, 111, 119]⟩, i 10, i 0, i 20000, i 21000, i 2, i 4, .sro [i 100, i 20200] 0 1 true, .str ⟨#[104, 105, 103, 104]⟩, i 10, i 0, i 18000, i 18000, i 5, i 5, .nils] 0 2 true, i 10, i 20, i 100, i 9000, i 12000, .sro [i 30, i 500, i 60, i 1000] 0 2 true, i 200, i 300, i 10, i 5, i 1000, .sro [i 20, i 30, i 20, i 40, i 0, i 20, i 0, i 5, i 20, i 30, i 0, i 10, i 0, i 10, i 10, i 15] 0 2 true]
def v1 : V := .agg [.sro [.str ⟨#[108, 111, 119]⟩, i 10, i 0, i 20000, i 21000, i 2, i 4, .sro [i 100, i 20200, i 200, i 18000] 0 2 false, .str ⟨#[104, 105, 103, 104]⟩, i 10, i 0, i 18000, i 18000, i 5, i 5, .nils] 0 2 true, i 10, i 20, i 100, i 9000, i 12000, .sro [i 30, i 500, i 60, i 1000] 0 2 true, i 200, i 300, i 10, i 5, i 1000, .sro [i 20, i 30, i 20, i 40, i 0, i 20, i 0, i 5, i 20, i 30, i 0, i 10, i 0, i 10, i 10, i 15] 0 2 true]
def v2 : V := .tup [.agg [i 30, i 40, i 20, i 5, i 9000, .sro [i 16500, i 13000] 0 2 false], i 0, i 0, i 0]
def v3 : V := .agg [i 30, i 40, i 20, i 5, i 9000, .sro [i 16500, i 13000] 0 2 true]
def v4 : V := .tup [.sro [i 20, i 20] 0 1 false, i 0]
def v5 : V := .agg [i 30, i 40, i 20, i 5, i 9000, .sro [i 16500, i 13000] 0 2 false]
def r0 : TRow := ⟨78, [.bool false], v0⟩
def r1 : TRow := ⟨12, [v0, .int .i64 0, .int .i64 1000], .tup [.agg [.int .i64 16500, .int .i64 18500], .int .i64 0]⟩
def r2 : TRow := ⟨78, [.bool true], v1⟩
def r3 : TRow := ⟨15, [v1, .int .i64 0], .tup [.sro [.int .i64 1] 0 1 false, .int .i64 0]⟩
def r4 : TRow := ⟨20, [v0, .int .i64 0], .tup [.agg [.int .i64 13612, .int .i64 17112], .int .i64 0]⟩
def r5 : TRow := ⟨22, [v0, .int .i64 0, .int .i64 18], .tup [.int .i64 4851, .int .i64 0]⟩
def r6 : TRow := ⟨24, [v0, .int .i64 10], .tup [.int .i64 1, .int .i64 0, .int .i64 0, .int .i64 0]⟩
def r7 : TRow := ⟨24, [v0, .int .i64 20], .tup [.int .i64 0, .int .i64 0, .int .i64 0, .int .i64 0]⟩
def r8 : TRow := ⟨26, [v0, .int .i64 0, .int .i64 20], v2⟩
def r9 : TRow := ⟨79, [], v3⟩
def r10 : TRow := ⟨31, [v0, .int .i64 0, .int .i64 20, v3], .tup [.int .i64 0, .int .i64 0, .int .i64 0]⟩
def r11 : TRow := ⟨33, [v0], v4⟩
def r12 : TRow := ⟨38, [v0], .tup [.int .i64 20, .int .i64 0]⟩
def r13 : TRow := ⟨40, [v0], .tup [.nils, .bool false, .int .i64 0]⟩
def r14 : TRow := ⟨38, [v1], .tup [.int .i64 0, .int .i64 8]⟩
def r15 : TRow := ⟨12, [v1, .int .i64 0, .int .i64 5], .tup [.agg [.int .i64 0, .int .i64 0], .int .i64 9]⟩
def r16 : TRow := ⟨80, [.int .i64 16500, .int .i64 18500], .agg [.int .i64 16500, .int .i64 18500]⟩
def r17 : TRow := ⟨81, [.sro [.int .i64 1] 0 1 false, .sro [.int .i64 1] 0 1 true], .bool true⟩
def r18 : TRow := ⟨80, [.int .i64 13612, .int .i64 17112], .agg [.int .i64 13612, .int .i64 17112]⟩
def r19 : TRow := ⟨82, [v5, v3], .bool true⟩
def r20 : TRow := ⟨80, [.int .i64 20, .int .i64 20], .agg [.int .i64 20, .int .i64 20]⟩
def r21 : TRow := ⟨83, [.sro [.int .i64 20, .int .i64 20] 0 1 false, .sro [.int .i64 20, .int .i64 20] 0 1 true], .bool true⟩
def tab : List TRow := [r0, r1, r2, r3, r4, r5, r6, r7, r8, r9, r10, r11, r12, r13, r14, r15, r16, r17, r18, r19, r20, r21]
end Go.Proofs.YtpjhhplefafojaaGreat
