/- The law's own frame, run: 'again' for each closure, the argument before and behind. -/
import Derived.Test.YtpjhhplefafojaaGreatAg
import Derived.Test.YtpjhhplefafojaaGreatAw
set_option linter.unusedVariables false
set_option linter.unusedSimpArgs false
open Go Go.Abs Go.Abs.Sx Go.Proofs
namespace Go.Proofs.YtpjhhplefafojaaGreat
set_option maxRecDepth 100000
noncomputable def ov2 (xs : List V) : Ov := fun f a rc h => if isF 3 f then none else if isF 5 f then evoAny E ov1 f a rc h else if isF 4 f then canonW (evAny E) [.agg xs] f a h else if isF 44 f then canonE (evoAny E (tabOv tab)) f a h else evAny E f a rc h
theorem ov1_ok (hE : RunOk E Tryz.prog) : OvOk E Tryz.prog ov1 := by
  intro f args H res rec H' h
  simp only [ov1] at h
  split at h
  · cases h
  · split at h
    · exact canonW_ok (evAny_ok hE) [] f args H res rec H' h
    · exact evAny_ok hE f args H res rec H' h
theorem ov2_ok (hE : RunOk E Tryz.prog) (xs : List V) : OvOk E Tryz.prog (ov2 xs) := by
  intro f args H res rec H' h
  simp only [ov2] at h
  split at h
  · cases h
  · split at h
    · exact evoAny_ok hE (ov1_ok hE) f args H res rec H' h
    · split at h
      · exact canonW_ok (evAny_ok hE) [.agg xs] f args H res rec H' h
      · split at h
        · exact canonE_ok (evoAny_ok hE (tab_ok hE)) f args H res rec H' h
        · exact evAny_ok hE f args H res rec H' h
/-- What is to be known of a closure, of such an argument. -/
def ClOk (xs : List V) (i : Nat) : Prop := ∃ v hc cn cs mn ms ks, mn ≤ 4611686018427387904 ∧ ms ≤ 4611686018427387904 ∧ Abs.Calls E (.fn (.func i) [] [.rop xs 0]) [.cell 0 0] .no (canH [.nils, .nils]) (.ret v, false, hc) ∧ Made E mn ms ks v hc cn cs ∧ SameOk E 43 mn ms ks cn.isSome cs.isSome
  ∧ ∃ g l, v = .fn (.func g) [] l ∧ isF 5 v = false ∧ cls.contains g = false
theorem ag_call {xs : List V} (hx : V.noIds xs = true) {i : Nat} (hi : cls.contains i = true) (hc : ClOk xs i) (H : Heap) : ∃ H', ov2 xs (.fn (.func 5) [] []) [.fn (.func i) [] [.rop xs 0]] .no H = some (.ret (.bool true), false, H') ∧ Keeps H H' := by
  obtain ⟨v, hc, cn, cs, mn, ms, ks, h1, h2, h3, h4, h5, g, l, rfl, h6, h7⟩ := hc
  obtain ⟨n, H', e, k⟩ := again_run hi h1 h2 hx h3 h4 h5 (H := H) ⟨h6, by
    cases l <;> simp only [V.ren, V.rens, Fn.ren, isCl]
    exact h7⟩
  refine ⟨H', ?_, k⟩
  simp only [ov2, show isF 3 (.fn (.func 5) [] []) = false from rfl, show isF 5 (.fn (.func 5) [] []) = true from rfl, Bool.false_eq_true, if_false, if_true]
  exact evoAny_eq e
set_option maxHeartbeats 4000000 in
theorem law_run {xs : List V} (hx : V.noIds xs = true) {iX : TInfo} (hiX : E.ti 37 = some iX) (hxa : iX.isAgg = true) (hxl : xs.length = iX.size) (hcl : ∀ i ∈ cls, ClOk xs i) {hcA : Heap} {cn cs : Option (Nat × Nat × V)} {mn ms ks : Nat} (hmn : mn ≤ 4611686018427387904) (hms : ms ≤ 4611686018427387904)
    (hall : Abs.Calls E (.fn (.func 4) [] []) [.agg xs, .cell 0 0] .no (canH [.nils, .nils]) (.ret (.tup []), false, hcA)) {u : V} (hm : Made E mn ms ks u hcA cn cs) (hs : SameOk E 43 mn ms ks cn.isSome cs.isSome)
    {hW : Heap} (haw : evoAny E (tabOv tab) (.fn (.func 44) [] []) [] .no Heap.empty = some (.ret (.bool true), false, hW)) {h0 : Heap} (hn0 : h0.next = 1) {fn : Func} {r0 rest : Code} (hfn : Tryz.f3 = fn) (hrest : fn.body = some (.seq r0 rest)) :
    RunO E (ov2 xs) 3 [.code rest] ⟨[(0, .agg xs), (1, .rop xs 0), (2, .bool false)], [], [], .no⟩ h0 fun ex fr' h' => (ex = .fall ∨ ex = .jump .ret) ∧ resultsOf E fr' h' fn.results.toList = some [.bool true] ∧ fr'.defers = [] := by
  subst hfn
  cases hrest
  have ns : V.noIds [V.agg xs] = true := by simp only [V.noIds, V.noId, hx]; rfl
  let h2 := (h0.alloc (.row [.nils, .nils])).alloc (.row [.nils, .nils])
  have n2 : h2.next = h0.next + 2 := by simp only [h2, Heap.next_alloc]
  have ga : h2.get h0.next = some (.row [.nils, .nils]) := by simp only [h2, Heap.get_alloc, Heap.next_alloc]; rw [if_neg (by omega), if_pos trivial]
  have gb : h2.get (h0.next + 1) = some (.row [.nils, .nils]) := by simp only [h2, Heap.get_alloc, Heap.next_alloc]; rw [if_pos trivial]
  have hia : h0.next < h2.next := by omega
  have cA : ov2 xs (.fn (.func 4) [] []) [.agg xs, .cell h0.next 0] .no h2 = some (.ret (.tup []), false, imp h0.next h2 hcA) := by
    simp only [ov2, show isF 3 (.fn (.func 4) [] []) = false from rfl, show isF 5 (.fn (.func 4) [] []) = false from rfl, show isF 4 (.fn (.func 4) [] []) = true from rfl, Bool.false_eq_true, if_false, if_true]
    exact canonW_eq (pre := [.agg xs]) hall rfl ns ga
  obtain ⟨kn3, k3⟩ := imp_keeps (hc := hcA) hia
  have g3 := hm.got hia
  refine runO_seq ?_
  refine runO_region rfl ?_
  refine runO_op (wants_no rfl) rfl rfl ?_
  refine runO_op (wants_no rfl) rfl rfl ?_
  refine runO_end (fr1 := ⟨[(0, .agg xs), (1, .rop xs 0), (2, .bool false), (3, .cell h0.next 0), (4, .cell (h0.next + 1) 0)], [], [], .no⟩) (by kernel_rfl) ?_
  refine runO_seq ?_
  refine runO_region rfl ?_
  refine runO_op (wants_no rfl) (load_rop rfl hiX hxa (show Fr.eval _ (.tmp 1) = _ from rfl) hxl) rfl ?_
  refine runO_call (wants_no rfl) (step_call2 rfl gse (gne (by decide) rfl) rfl rfl) cA rfl ?_
  refine runO_end (fr1 := ⟨[(0, .agg xs), (1, .rop xs 0), (2, .bool false), (3, .cell h0.next 0), (4, .cell (h0.next + 1) 0)], [], [], .no⟩) (by kernel_rfl) ?_
  refine runO_seq ?_
  refine runO_region rfl ?_
  refine runO_op (wants_no rfl) (step_mk rfl rfl rfl) rfl ?_
  obtain ⟨H1, c1, e1⟩ := ag_call hx (i := 6) rfl (hcl 6 (by decide)) (imp h0.next h2 hcA)
  refine runO_call (wants_no rfl) (step_call1 rfl gse rfl) c1 rfl ?_
  refine runO_op (wants_no rfl) (step_mv rfl gse) rfl ?_
  refine runO_op (wants_if rfl rfl gse) (step_mk rfl (gne (by decide) (gne (by decide) (gne (by decide) rfl))) rfl) rfl ?_
  obtain ⟨H2, c2, e2⟩ := ag_call hx (i := 11) rfl (hcl 11 (by decide)) H1
  refine runO_call (wants_if rfl rfl (gne (by decide) gse)) (step_call1 rfl gse rfl) c2 rfl ?_
  refine runO_op (wants_no rfl) (step_pick rfl (gne (by decide) (gne (by decide) gse)) gse) rfl ?_
  refine runO_op (wants_no rfl) (step_mv rfl gse) rfl ?_
  refine runO_op (wants_if rfl rfl gse) (step_mk rfl (gne (by decide) (gne (by decide) (gne (by decide) (gne (by decide) (gne (by decide) (gne (by decide) (gne (by decide) rfl))))))) rfl) rfl ?_
  obtain ⟨H3, c3, e3⟩ := ag_call hx (i := 14) rfl (hcl 14 (by decide)) H2
  refine runO_call (wants_if rfl rfl (gne (by decide) gse)) (step_call1 rfl gse rfl) c3 rfl ?_
  refine runO_op (wants_no rfl) (step_pick rfl (gne (by decide) (gne (by decide) gse)) gse) rfl ?_
  refine runO_op (wants_no rfl) (step_mv rfl gse) rfl ?_
  refine runO_op (wants_if rfl rfl gse) (step_mk rfl (gne (by decide) (gne (by decide) (gne (by decide) (gne (by decide) (gne (by decide) (gne (by decide) (gne (by decide) (gne (by decide) (gne (by decide) (gne (by decide) (gne (by decide) rfl))))))))))) rfl) rfl ?_
  obtain ⟨H4, c4, e4⟩ := ag_call hx (i := 19) rfl (hcl 19 (by decide)) H3
  refine runO_call (wants_if rfl rfl (gne (by decide) gse)) (step_call1 rfl gse rfl) c4 rfl ?_
  refine runO_op (wants_no rfl) (step_pick rfl (gne (by decide) (gne (by decide) gse)) gse) rfl ?_
  refine runO_op (wants_no rfl) (step_mv rfl gse) rfl ?_
  refine runO_op (wants_if rfl rfl gse) (step_mk rfl (gne (by decide) (gne (by decide) (gne (by decide) (gne (by decide) (gne (by decide) (gne (by decide) (gne (by decide) (gne (by decide) (gne (by decide) (gne (by decide) (gne (by decide) (gne (by decide) (gne (by decide) (gne (by decide) (gne (by decide) rfl))))))))))))))) rfl) rfl ?_
  obtain ⟨H5, c5, e5⟩ := ag_call hx (i := 21) rfl (hcl 21 (by decide)) H4
  refine runO_call (wants_if rfl rfl (gne (by decide) gse)) (step_call1 rfl gse rfl) c5 rfl ?_
  refine runO_op (wants_no rfl) (step_pick rfl (gne (by decide) (gne (by decide) gse)) gse) rfl ?_
  refine runO_op (wants_no rfl) (step_mv rfl gse) rfl ?_
  refine runO_op (wants_if rfl rfl gse) (step_mk rfl (gne (by decide) (gne (by decide) (gne (by decide) (gne (by decide) (gne (by decide) (gne (by decide) (gne (by decide) (gne (by decide) (gne (by decide) (gne (by decide) (gne (by decide) (gne (by decide) (gne (by decide) (gne (by decide) (gne (by decide) (gne (by decide) (gne (by decide) (gne (by decide) (gne (by decide) rfl))))))))))))))))))) rfl) rfl ?_
  obtain ⟨H6, c6, e6⟩ := ag_call hx (i := 23) rfl (hcl 23 (by decide)) H5
  refine runO_call (wants_if rfl rfl (gne (by decide) gse)) (step_call1 rfl gse rfl) c6 rfl ?_
  refine runO_op (wants_no rfl) (step_pick rfl (gne (by decide) (gne (by decide) gse)) gse) rfl ?_
  refine runO_op (wants_no rfl) (step_mv rfl gse) rfl ?_
  refine runO_op (wants_if rfl rfl gse) (step_mk rfl (gne (by decide) (gne (by decide) (gne (by decide) (gne (by decide) (gne (by decide) (gne (by decide) (gne (by decide) (gne (by decide) (gne (by decide) (gne (by decide) (gne (by decide) (gne (by decide) (gne (by decide) (gne (by decide) (gne (by decide) (gne (by decide) (gne (by decide) (gne (by decide) (gne (by decide) (gne (by decide) (gne (by decide) (gne (by decide) (gne (by decide) rfl))))))))))))))))))))))) rfl) rfl ?_
  obtain ⟨H7, c7, e7⟩ := ag_call hx (i := 25) rfl (hcl 25 (by decide)) H6
  refine runO_call (wants_if rfl rfl (gne (by decide) gse)) (step_call1 rfl gse rfl) c7 rfl ?_
  refine runO_op (wants_no rfl) (step_pick rfl (gne (by decide) (gne (by decide) gse)) gse) rfl ?_
  refine runO_op (wants_no rfl) (step_mv rfl gse) rfl ?_
  refine runO_op (wants_if rfl rfl gse) (step_mk rfl (gne (by decide) (gne (by decide) (gne (by decide) (gne (by decide) (gne (by decide) (gne (by decide) (gne (by decide) (gne (by decide) (gne (by decide) (gne (by decide) (gne (by decide) (gne (by decide) (gne (by decide) (gne (by decide) (gne (by decide) (gne (by decide) (gne (by decide) (gne (by decide) (gne (by decide) (gne (by decide) (gne (by decide) (gne (by decide) (gne (by decide) (gne (by decide) (gne (by decide) (gne (by decide) (gne (by decide) rfl))))))))))))))))))))))))))) rfl) rfl ?_
  obtain ⟨H8, c8, e8⟩ := ag_call hx (i := 30) rfl (hcl 30 (by decide)) H7
  refine runO_call (wants_if rfl rfl (gne (by decide) gse)) (step_call1 rfl gse rfl) c8 rfl ?_
  refine runO_op (wants_no rfl) (step_pick rfl (gne (by decide) (gne (by decide) gse)) gse) rfl ?_
  refine runO_op (wants_no rfl) (step_mv rfl gse) rfl ?_
  refine runO_op (wants_if rfl rfl gse) (step_mk rfl (gne (by decide) (gne (by decide) (gne (by decide) (gne (by decide) (gne (by decide) (gne (by decide) (gne (by decide) (gne (by decide) (gne (by decide) (gne (by decide) (gne (by decide) (gne (by decide) (gne (by decide) (gne (by decide) (gne (by decide) (gne (by decide) (gne (by decide) (gne (by decide) (gne (by decide) (gne (by decide) (gne (by decide) (gne (by decide) (gne (by decide) (gne (by decide) (gne (by decide) (gne (by decide) (gne (by decide) (gne (by decide) (gne (by decide) (gne (by decide) (gne (by decide) rfl))))))))))))))))))))))))))))))) rfl) rfl ?_
  obtain ⟨H9, c9, e9⟩ := ag_call hx (i := 32) rfl (hcl 32 (by decide)) H8
  refine runO_call (wants_if rfl rfl (gne (by decide) gse)) (step_call1 rfl gse rfl) c9 rfl ?_
  refine runO_op (wants_no rfl) (step_pick rfl (gne (by decide) (gne (by decide) gse)) gse) rfl ?_
  refine runO_op (wants_no rfl) (step_mv rfl gse) rfl ?_
  refine runO_op (wants_if rfl rfl gse) (step_mk rfl (gne (by decide) (gne (by decide) (gne (by decide) (gne (by decide) (gne (by decide) (gne (by decide) (gne (by decide) (gne (by decide) (gne (by decide) (gne (by decide) (gne (by decide) (gne (by decide) (gne (by decide) (gne (by decide) (gne (by decide) (gne (by decide) (gne (by decide) (gne (by decide) (gne (by decide) (gne (by decide) (gne (by decide) (gne (by decide) (gne (by decide) (gne (by decide) (gne (by decide) (gne (by decide) (gne (by decide) (gne (by decide) (gne (by decide) (gne (by decide) (gne (by decide) (gne (by decide) (gne (by decide) (gne (by decide) (gne (by decide) rfl))))))))))))))))))))))))))))))))))) rfl) rfl ?_
  obtain ⟨H10, c10, e10⟩ := ag_call hx (i := 37) rfl (hcl 37 (by decide)) H9
  refine runO_call (wants_if rfl rfl (gne (by decide) gse)) (step_call1 rfl gse rfl) c10 rfl ?_
  refine runO_op (wants_no rfl) (step_pick rfl (gne (by decide) (gne (by decide) gse)) gse) rfl ?_
  refine runO_op (wants_no rfl) (step_mv rfl gse) rfl ?_
  refine runO_op (wants_if rfl rfl gse) (step_mk rfl (gne (by decide) (gne (by decide) (gne (by decide) (gne (by decide) (gne (by decide) (gne (by decide) (gne (by decide) (gne (by decide) (gne (by decide) (gne (by decide) (gne (by decide) (gne (by decide) (gne (by decide) (gne (by decide) (gne (by decide) (gne (by decide) (gne (by decide) (gne (by decide) (gne (by decide) (gne (by decide) (gne (by decide) (gne (by decide) (gne (by decide) (gne (by decide) (gne (by decide) (gne (by decide) (gne (by decide) (gne (by decide) (gne (by decide) (gne (by decide) (gne (by decide) (gne (by decide) (gne (by decide) (gne (by decide) (gne (by decide) (gne (by decide) (gne (by decide) (gne (by decide) (gne (by decide) rfl))))))))))))))))))))))))))))))))))))))) rfl) rfl ?_
  obtain ⟨H11, c11, e11⟩ := ag_call hx (i := 39) rfl (hcl 39 (by decide)) H10
  refine runO_call (wants_if rfl rfl (gne (by decide) gse)) (step_call1 rfl gse rfl) c11 rfl ?_
  refine runO_op (wants_no rfl) (step_pick rfl (gne (by decide) (gne (by decide) gse)) gse) rfl ?_
  refine runO_op (wants_no rfl) (step_as rfl gse) rfl ?_
  refine runO_end (fr1 := ⟨[(0, .agg xs), (1, .rop xs 0), (2, .bool false), (3, .cell h0.next 0), (4, .cell (h0.next + 1) 0), (5, .bool true)], [], [], .no⟩) (by kernel_rfl) ?_
  refine runO_seq ?_
  refine runO_region rfl ?_
  refine runO_op (wants_no rfl) (load_rop rfl hiX hxa (show Fr.eval _ (.tmp 1) = _ from rfl) hxl) rfl ?_
  have kk : Keeps (imp h0.next h2 hcA) H11 := ((((((((((e1).trans e2).trans e3).trans e4).trans e5).trans e6).trans e7).trans e8).trans e9).trans e10).trans e11
  have g4 : Got H11 mn ms ks h0.next h2.next (cn.map fun x => (sig h0.next h2.next x.1, x.2)) (cs.map fun x => (sig h0.next h2.next x.1, x.2)) :=
    g3.keep kk.1 (kk.2 _ (by omega)) fun j hj => kk.2 j (g3.ids j hj).2
  have gb4 : (H11).get (h0.next + 1) = some (.row [.nils, .nils]) := by
    rw [kk.2 _ (by omega), k3 _ (by omega) (by omega), gb]
  have hib : h0.next + 1 < (H11).next := by have := kk.1; omega
  have cB : ov2 xs (.fn (.func 4) [] []) [.agg xs, .cell (h0.next + 1) 0] .no H11 = some (.ret (.tup []), false, imp (h0.next + 1) H11 hcA) := by
    simp only [ov2, show isF 3 (.fn (.func 4) [] []) = false from rfl, show isF 5 (.fn (.func 4) [] []) = false from rfl, show isF 4 (.fn (.func 4) [] []) = true from rfl, Bool.false_eq_true, if_false, if_true]
    exact canonW_eq (pre := [.agg xs]) hall rfl ns gb4
  obtain ⟨kn5, k5⟩ := imp_keeps (hc := hcA) hib
  have g5b := hm.got hib
  have g5a : Got (imp (h0.next + 1) H11 hcA) mn ms ks h0.next h2.next (cn.map fun x => (sig h0.next h2.next x.1, x.2)) (cs.map fun x => (sig h0.next h2.next x.1, x.2)) :=
    g4.keep (by omega) (k5 _ (by omega) (by omega)) fun j hj => k5 j (g4.ids j hj).2 (by have := (g4.ids j hj).1; omega)
  have hs' : SameOk E 43 mn ms ks (cn.map fun x => (sig h0.next h2.next x.1, x.2)).isSome (cs.map fun x => (sig h0.next h2.next x.1, x.2)).isSome := by
    simpa only [Option.isSome_map] using hs
  obtain ⟨a, b, h6, q1, q2, q3, q4, q5, q6, q7⟩ := g5a.same hmn hms hs' g5b (twin_map _ _ _) (twin_map _ _ _) (fun j hj => (g4.ids j hj).2) (lo := 0) (by omega) (by omega) (by omega)
  have cC : ov2 xs (.fn (.func 43) [] []) [.agg a, .agg b] .no (imp (h0.next + 1) H11 hcA) = some (.ret (.bool true), false, h6) := by
    simp only [ov2, show isF 3 (.fn (.func 43) [] []) = false from rfl, show isF 5 (.fn (.func 43) [] []) = false from rfl, show isF 4 (.fn (.func 43) [] []) = false from rfl, show isF 44 (.fn (.func 43) [] []) = false from rfl, Bool.false_eq_true, if_false]
    exact evAny_eq q5
  have cD : ov2 xs (.fn (.func 44) [] []) [] .no h6 = some (.ret (.bool true), false, h6) := by
    simp only [ov2, show isF 3 (.fn (.func 44) [] []) = false from rfl, show isF 5 (.fn (.func 44) [] []) = false from rfl, show isF 4 (.fn (.func 44) [] []) = false from rfl, show isF 44 (.fn (.func 44) [] []) = true from rfl, Bool.false_eq_true, if_false, if_true, canonE, V.noId, V.noIds, isYield, Bool.not_false, Bool.and_self, haw]
  refine runO_call (wants_no rfl) (step_call2 rfl gse (gne (by decide) rfl) rfl rfl) cB rfl ?_
  refine runO_end (fr1 := ⟨[(0, .agg xs), (1, .rop xs 0), (2, .bool false), (3, .cell h0.next 0), (4, .cell (h0.next + 1) 0), (5, .bool true)], [], [], .no⟩) (by kernel_rfl) ?_
  refine runO_seq ?_
  refine runO_region rfl ?_
  refine runO_op (wants_no rfl) (step_mv rfl rfl) rfl ?_
  refine runO_op (wants_no rfl) (step_mv rfl gse) rfl ?_
  refine runO_op (wants_if rfl rfl gse) (load_row rfl rfl rfl (show Fr.eval _ (.tmp 3) = _ from (gne (by decide) (gne (by decide) rfl))) q1 q3) rfl ?_
  refine runO_op (wants_if rfl rfl (gne (by decide) gse)) (load_row rfl rfl rfl (show Fr.eval _ (.tmp 4) = _ from (gne (by decide) (gne (by decide) (gne (by decide) rfl)))) q2 q4) rfl ?_
  refine runO_call (wants_if rfl rfl (gne (by decide) (gne (by decide) gse))) (step_call2 rfl (gne (by decide) gse) gse rfl rfl) cC rfl ?_
  refine runO_op (wants_no rfl) (step_pick rfl (gne (by decide) (gne (by decide) (gne (by decide) gse))) gse) rfl ?_
  refine runO_op (wants_no rfl) (step_mv rfl gse) rfl ?_
  refine runO_call (wants_if rfl rfl gse) (step_call0 rfl) cD rfl ?_
  refine runO_op (wants_no rfl) (step_pick rfl (gne (by decide) gse) gse) rfl ?_
  refine runO_op (wants_no rfl) (step_as rfl gse) rfl ?_
  refine runO_end (fr1 := ⟨[(0, .agg xs), (1, .rop xs 0), (2, .bool true), (3, .cell h0.next 0), (4, .cell (h0.next + 1) 0), (5, .bool true)], [], [], .no⟩) (by kernel_rfl) ?_
  exact runO_ret ⟨.inr rfl, rfl, rfl⟩
end Go.Proofs.YtpjhhplefafojaaGreat
