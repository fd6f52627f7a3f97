/- The closures of the law, and the putting of its argument, out of their contracts. -/
import Derived.Test.YtpjhhplefafojaaGreatC
import Derived.Test.YtpjhhplefafojaaGreatLaw
set_option linter.unusedVariables false
set_option linter.unusedSimpArgs false
open Go Go.Abs Go.Abs.Sx Go.Proofs
namespace Go.Proofs.YtpjhhplefafojaaGreat
set_option maxRecDepth 100000
theorem noth (h : Heap) : Abs.Calls E (.fn (.func 10) [] []) [] .no h (.ret (.tup []), false, h) := ⟨6, by kernel_rfl⟩
def cts : List CT := [.sl 1048576 [.s 1048576, .i .i64, .i .i64, .i .i64, .i .i64, .i .i64, .i .i64, .sl 1048576 [.i .i64, .i .i64]], .i .i64, .i .i64, .i .i64, .i .i64, .i .i64, .sl 1048576 [.i .i64, .i .i64], .i .i64, .i .i64, .i .i64, .i .i64, .i .i64, .sl 1048576 [.i .i64, .i .i64, .i .i64, .i .i64, .i .i64, .i .i64, .i .i64, .i .i64], .i .i64, .i .i64, .i .i64, .i .i64, .i .i64, .i .i64, .i .i64, .i .i64, .i .i64, .sl 1048576 [.i .i64]]
theorem cts_ok : ctT Tryz.prog 1048576 10 37 = some cts := by kernel_rfl
theorem same66 : SameOk E 43 17592186044416 1073741824 4611686018427387904 true false := sameOk_of good66 (by kernel_rfl) (by kernel_rfl) (by kernel_rfl) (by kernel_rfl)
theorem same67 : SameOk E 43 17592186044416 1073741824 4611686018427387904 true true := sameOk_of good67 (by kernel_rfl) (by kernel_rfl) (by kernel_rfl) (by kernel_rfl)
theorem sames : ∀ q : Bool × Bool, ([(true, false), (true, true)] : List (Bool × Bool)).contains q = true → SameOk E 43 17592186044416 1073741824 4611686018427387904 q.1 q.2 := by
  rintro ⟨nb, sb⟩ h
  cases nb <;> cases sb <;> first
    | exact same66
    | exact same67
    | (exact absurd h (by decide))
theorem wl_ok : ∀ g ∈ ([10, 17, 28, 35, 42] : List Nat), Nat.beq g 5 = false ∧ cls.contains g = false := by decide
theorem all4 {xs : List V} (hx : hasTs cts xs = true) : ∃ u hc cn cs, Abs.Calls E (.fn (.func 4) [] []) [.agg xs, .cell 0 0] .no (canH [.nils, .nils]) (.ret (.tup []), false, hc) ∧ Made E 17592186044416 1073741824 4611686018427387904 u hc cn cs ∧ SameOk E 43 17592186044416 1073741824 4611686018427387904 cn.isSome cs.isSome :=
  all_of (prL_ok (VT.ok_of vtok44)) (nothing := 10) noth good44 (cts := cts) (by kernel_rfl) (by kernel_rfl) hx (shapes := [(true, false), (true, true)]) (ws := [none, none]) (by kernel_rfl) (AllW.mem (E := E) trivial) (fun p hp => by
    have h : con44.posts.all (fun p => match p.res with | .tup [] => true | _ => false) = true := by kernel_rfl
    have := List.all_eq_true.1 h p hp
    split at this
    · assumption
    · cases this) sames
theorem cl6 {xs : List V} (hx : hasTs cts xs = true) : ClOk xs 6 := by
  obtain ⟨v, hc, cn, cs, h1, h2, h3, g, l, rfl, h4⟩ := cl_of (prL_ok (VT.ok_of vtok45)) (wl := [10, 17, 28, 35, 42]) (nothing := 10) noth good45 (cts := cts) (by kernel_rfl) (by kernel_rfl) hx (shapes := [(true, false), (true, true)]) (ws := [none]) (by kernel_rfl) (AllW.mem (E := E) trivial) sames
  have hg := wl_ok g (List.contains_iff_mem.1 h4)
  exact ⟨_, hc, cn, cs, 17592186044416, 1073741824, 4611686018427387904, by decide, by decide, h1, h2, h3, g, l, rfl, hg.1, hg.2⟩
theorem cl11 {xs : List V} (hx : hasTs cts xs = true) : ClOk xs 11 := by
  obtain ⟨v, hc, cn, cs, h1, h2, h3, g, l, rfl, h4⟩ := cl_of (prL_ok (VT.ok_of vtok46)) (wl := [10, 17, 28, 35, 42]) (nothing := 10) noth good46 (cts := cts) (by kernel_rfl) (by kernel_rfl) hx (shapes := [(true, false), (true, true)]) (ws := [none]) (by kernel_rfl) (AllW.mem (E := E) trivial) sames
  have hg := wl_ok g (List.contains_iff_mem.1 h4)
  exact ⟨_, hc, cn, cs, 17592186044416, 1073741824, 4611686018427387904, by decide, by decide, h1, h2, h3, g, l, rfl, hg.1, hg.2⟩
theorem cl14 {xs : List V} (hx : hasTs cts xs = true) : ClOk xs 14 := by
  obtain ⟨v, hc, cn, cs, h1, h2, h3, g, l, rfl, h4⟩ := cl_of (prL_ok (VT.ok_of vtok47)) (wl := [10, 17, 28, 35, 42]) (nothing := 10) noth good47 (cts := cts) (by kernel_rfl) (by kernel_rfl) hx (shapes := [(true, false), (true, true)]) (ws := [some (con48, wth47_0), some (con49, wth47_1), some (con50, wth47_2)]) (by kernel_rfl) (AllW.mem (E := E) ⟨good48, good49, good50, trivial⟩) sames
  have hg := wl_ok g (List.contains_iff_mem.1 h4)
  exact ⟨_, hc, cn, cs, 17592186044416, 1073741824, 4611686018427387904, by decide, by decide, h1, h2, h3, g, l, rfl, hg.1, hg.2⟩
theorem cl19 {xs : List V} (hx : hasTs cts xs = true) : ClOk xs 19 := by
  obtain ⟨v, hc, cn, cs, h1, h2, h3, g, l, rfl, h4⟩ := cl_of (prL_ok (VT.ok_of vtok51)) (wl := [10, 17, 28, 35, 42]) (nothing := 10) noth good51 (cts := cts) (by kernel_rfl) (by kernel_rfl) hx (shapes := [(true, false), (true, true)]) (ws := [none]) (by kernel_rfl) (AllW.mem (E := E) trivial) sames
  have hg := wl_ok g (List.contains_iff_mem.1 h4)
  exact ⟨_, hc, cn, cs, 17592186044416, 1073741824, 4611686018427387904, by decide, by decide, h1, h2, h3, g, l, rfl, hg.1, hg.2⟩
theorem cl21 {xs : List V} (hx : hasTs cts xs = true) : ClOk xs 21 := by
  obtain ⟨v, hc, cn, cs, h1, h2, h3, g, l, rfl, h4⟩ := cl_of (prL_ok (VT.ok_of vtok52)) (wl := [10, 17, 28, 35, 42]) (nothing := 10) noth good52 (cts := cts) (by kernel_rfl) (by kernel_rfl) hx (shapes := [(true, false), (true, true)]) (ws := [none]) (by kernel_rfl) (AllW.mem (E := E) trivial) sames
  have hg := wl_ok g (List.contains_iff_mem.1 h4)
  exact ⟨_, hc, cn, cs, 17592186044416, 1073741824, 4611686018427387904, by decide, by decide, h1, h2, h3, g, l, rfl, hg.1, hg.2⟩
theorem cl23 {xs : List V} (hx : hasTs cts xs = true) : ClOk xs 23 := by
  obtain ⟨v, hc, cn, cs, h1, h2, h3, g, l, rfl, h4⟩ := cl_of (prL_ok (VT.ok_of vtok53)) (wl := [10, 17, 28, 35, 42]) (nothing := 10) noth good53 (cts := cts) (by kernel_rfl) (by kernel_rfl) hx (shapes := [(true, false), (true, true)]) (ws := [none]) (by kernel_rfl) (AllW.mem (E := E) trivial) sames
  have hg := wl_ok g (List.contains_iff_mem.1 h4)
  exact ⟨_, hc, cn, cs, 17592186044416, 1073741824, 4611686018427387904, by decide, by decide, h1, h2, h3, g, l, rfl, hg.1, hg.2⟩
theorem cl25 {xs : List V} (hx : hasTs cts xs = true) : ClOk xs 25 := by
  obtain ⟨v, hc, cn, cs, h1, h2, h3, g, l, rfl, h4⟩ := cl_of (prL_ok (VT.ok_of vtok54)) (wl := [10, 17, 28, 35, 42]) (nothing := 10) noth good54 (cts := cts) (by kernel_rfl) (by kernel_rfl) hx (shapes := [(true, false), (true, true)]) (ws := [some (con55, wth54_0), some (con56, wth54_1)]) (by kernel_rfl) (AllW.mem (E := E) ⟨good55, good56, trivial⟩) sames
  have hg := wl_ok g (List.contains_iff_mem.1 h4)
  exact ⟨_, hc, cn, cs, 17592186044416, 1073741824, 4611686018427387904, by decide, by decide, h1, h2, h3, g, l, rfl, hg.1, hg.2⟩
theorem cl30 {xs : List V} (hx : hasTs cts xs = true) : ClOk xs 30 := by
  obtain ⟨v, hc, cn, cs, h1, h2, h3, g, l, rfl, h4⟩ := cl_of (prL_ok (VT.ok_of vtok57)) (wl := [10, 17, 28, 35, 42]) (nothing := 10) noth good57 (cts := cts) (by kernel_rfl) (by kernel_rfl) hx (shapes := [(true, false), (true, true)]) (ws := [none]) (by kernel_rfl) (AllW.mem (E := E) trivial) sames
  have hg := wl_ok g (List.contains_iff_mem.1 h4)
  exact ⟨_, hc, cn, cs, 17592186044416, 1073741824, 4611686018427387904, by decide, by decide, h1, h2, h3, g, l, rfl, hg.1, hg.2⟩
theorem cl32 {xs : List V} (hx : hasTs cts xs = true) : ClOk xs 32 := by
  obtain ⟨v, hc, cn, cs, h1, h2, h3, g, l, rfl, h4⟩ := cl_of (prL_ok (VT.ok_of vtok58)) (wl := [10, 17, 28, 35, 42]) (nothing := 10) noth good58 (cts := cts) (by kernel_rfl) (by kernel_rfl) hx (shapes := [(true, false), (true, true)]) (ws := [some (con59, wth58_0), some (con60, wth58_1)]) (by kernel_rfl) (AllW.mem (E := E) ⟨good59, good60, trivial⟩) sames
  have hg := wl_ok g (List.contains_iff_mem.1 h4)
  exact ⟨_, hc, cn, cs, 17592186044416, 1073741824, 4611686018427387904, by decide, by decide, h1, h2, h3, g, l, rfl, hg.1, hg.2⟩
theorem cl37 {xs : List V} (hx : hasTs cts xs = true) : ClOk xs 37 := by
  obtain ⟨v, hc, cn, cs, h1, h2, h3, g, l, rfl, h4⟩ := cl_of (prL_ok (VT.ok_of vtok61)) (wl := [10, 17, 28, 35, 42]) (nothing := 10) noth good61 (cts := cts) (by kernel_rfl) (by kernel_rfl) hx (shapes := [(true, false), (true, true)]) (ws := [none]) (by kernel_rfl) (AllW.mem (E := E) trivial) sames
  have hg := wl_ok g (List.contains_iff_mem.1 h4)
  exact ⟨_, hc, cn, cs, 17592186044416, 1073741824, 4611686018427387904, by decide, by decide, h1, h2, h3, g, l, rfl, hg.1, hg.2⟩
theorem cl39 {xs : List V} (hx : hasTs cts xs = true) : ClOk xs 39 := by
  obtain ⟨v, hc, cn, cs, h1, h2, h3, g, l, rfl, h4⟩ := cl_of (prL_ok (VT.ok_of vtok62)) (wl := [10, 17, 28, 35, 42]) (nothing := 10) noth good62 (cts := cts) (by kernel_rfl) (by kernel_rfl) hx (shapes := [(true, false), (true, true)]) (ws := [some (con63, wth62_0), some (con64, wth62_1), some (con65, wth62_2)]) (by kernel_rfl) (AllW.mem (E := E) ⟨good63, good64, good65, trivial⟩) sames
  have hg := wl_ok g (List.contains_iff_mem.1 h4)
  exact ⟨_, hc, cn, cs, 17592186044416, 1073741824, 4611686018427387904, by decide, by decide, h1, h2, h3, g, l, rfl, hg.1, hg.2⟩
theorem cls_ok {xs : List V} (hx : hasTs cts xs = true) : ∀ i ∈ cls, ClOk xs i := by
  intro i hi
  simp only [cls, List.mem_cons, List.not_mem_nil, or_false] at hi
  rcases hi with rfl | rfl | rfl | rfl | rfl | rfl | rfl | rfl | rfl | rfl | rfl
  · exact cl6 hx
  · exact cl11 hx
  · exact cl14 hx
  · exact cl19 hx
  · exact cl21 hx
  · exact cl23 hx
  · exact cl25 hx
  · exact cl30 hx
  · exact cl32 hx
  · exact cl37 hx
  · exact cl39 hx
end Go.Proofs.YtpjhhplefafojaaGreat
