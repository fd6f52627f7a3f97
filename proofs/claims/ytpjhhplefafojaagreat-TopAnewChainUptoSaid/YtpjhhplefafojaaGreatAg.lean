/- 'again' answers true. -/
import Derived.Test.YtpjhhplefafojaaGreatT
set_option linter.unusedVariables false
set_option linter.unusedSimpArgs false
open Go Go.Abs Go.Abs.Sx Go.Proofs
namespace Go.Proofs.YtpjhhplefafojaaGreat
set_option maxRecDepth 100000
def isCl (l : List Nat) : V → Bool
  | .fn (.func i) [] (_ :: _) => l.contains i
  | _ => false
def isF (k : Nat) : V → Bool
  | .fn (.func i) _ _ => Nat.beq i k
  | _ => false
def cls : List Nat := [6, 11, 14, 19, 21, 23, 25, 30, 32, 37, 39]
noncomputable def ov1 : Ov := fun f a rc h => if isF 5 f then none else if isCl cls f then canonW (evAny E) [] f a h else evAny E f a rc h
theorem again_run {i : Nat} (hi : cls.contains i = true) {xs : List V} {v : V} {hc H : Heap} {cn cs : Option (Nat × Nat × V)} {mn ms ks : Nat} (hmn : mn ≤ 4611686018427387904) (hms : ms ≤ 4611686018427387904) (hx : V.noIds xs = true)
    (hcall : Abs.Calls E (.fn (.func i) [] [.rop xs 0]) [.cell 0 0] .no (canH [.nils, .nils]) (.ret v, false, hc)) (hm : Made E mn ms ks v hc cn cs) (hs : SameOk E 43 mn ms ks cn.isSome cs.isSome)
    (hv : isF 5 (v.ren (sig H.next (H.next + 2))) = false ∧ isCl cls (v.ren (sig H.next (H.next + 2))) = false) :
    ∃ n H', (evo E ov1 n).call (.fn (.func 5) [] []) [.fn (.func i) [] [.rop xs 0]] .no H = some (.ret (.bool true), false, H') ∧ Keeps H H' := by
  have e1 : isF 5 (.fn (.func i) [] [.rop xs 0]) = false := by
    have : i ≠ 5 := fun e => by subst e; revert hi; decide
    simp only [isF]
    cases h : Nat.beq i 5 with
    | false => rfl
    | true => exact absurd (Nat.eq_of_beq_eq_true h) this
  have e2 : isCl cls (.fn (.func i) [] [.rop xs 0]) = true := hi
  have hno : V.noId (.fn (.func i) [] [.rop xs 0]) = true := by simp only [V.noId, isYield, V.noIds, hx]; rfl
  -- the two heaps
  let h2 := (H.alloc (.row [.nils, .nils])).alloc (.row [.nils, .nils])
  have n2 : h2.next = H.next + 2 := by simp only [h2, Heap.next_alloc]
  have ga : h2.get H.next = some (.row [.nils, .nils]) := by simp only [h2, Heap.get_alloc, Heap.next_alloc]; rw [if_neg (by omega), if_pos trivial]
  have gb : h2.get (H.next + 1) = some (.row [.nils, .nils]) := by simp only [h2, Heap.get_alloc, Heap.next_alloc]; rw [if_pos trivial]
  have k2 : Keeps H h2 := (Keeps.alloc _ _).trans (Keeps.alloc _ _)
  have hia : H.next < h2.next := by omega
  have c1 : ov1 (.fn (.func i) [] [.rop xs 0]) [.cell H.next 0] .no h2 = some (.ret (v.ren (sig H.next h2.next)), false, imp H.next h2 hc) := by
    simp only [ov1, e1, e2, if_true, Bool.false_eq_true, if_false]
    exact canonW_eq (pre := []) hcall hno rfl ga
  obtain ⟨kn3, k3⟩ := imp_keeps (hc := hc) hia
  have g3 := hm.got hia
  obtain ⟨r, h4, w1, w2, w3⟩ := hm.wipe H.next h2 hia
  have c2 : ov1 (v.ren (sig H.next h2.next)) [] .no (imp H.next h2 hc) = some (.ret r, false, h4) := by
    rw [n2] at w1 ⊢
    simp only [ov1, hv.1, hv.2, Bool.false_eq_true, if_false]
    exact evAny_eq w1
  have g4 : Got h4 mn ms ks H.next h2.next (cn.map fun x => (sig H.next h2.next x.1, x.2)) (cs.map fun x => (sig H.next h2.next x.1, x.2)) :=
    g3.keep w2 (w3 _ (by omega) (.inl hia)) fun j hj => w3 j (g3.ids j hj).2 (.inr (by
      rw [partIds_map, partIds_map, ← List.map_append, List.mem_map] at hj
      obtain ⟨y, hy, e⟩ := hj
      exact ⟨y, hy, e.symm⟩))
  have gb4 : h4.get (H.next + 1) = some (.row [.nils, .nils]) := by
    rw [w3 _ (by omega) (.inl (by omega)), k3 _ (by omega) (by omega), gb]
  have hib : H.next + 1 < h4.next := by omega
  have c3 : ov1 (.fn (.func i) [] [.rop xs 0]) [.cell (H.next + 1) 0] .no h4 = some (.ret (v.ren (sig (H.next + 1) h4.next)), false, imp (H.next + 1) h4 hc) := by
    simp only [ov1, e1, e2, if_true, Bool.false_eq_true, if_false]
    exact canonW_eq (pre := []) hcall hno rfl gb4
  obtain ⟨kn5, k5⟩ := imp_keeps (hc := hc) hib
  have g5b := hm.got hib
  have g5a : Got (imp (H.next + 1) h4 hc) mn ms ks H.next h2.next (cn.map fun x => (sig H.next h2.next x.1, x.2)) (cs.map fun x => (sig H.next h2.next x.1, x.2)) :=
    g4.keep (by omega) (k5 _ (by omega) (by omega)) fun j hj => k5 j (g4.ids j hj).2 (by have := (g4.ids j hj).1; omega)
  have hs' : SameOk E 43 mn ms ks (cn.map fun x => (sig H.next h2.next x.1, x.2)).isSome (cs.map fun x => (sig H.next h2.next x.1, x.2)).isSome := by
    simpa only [Option.isSome_map] using hs
  obtain ⟨a, b, h6, q1, q2, q3, q4, q5, q6, q7⟩ := g5a.same hmn hms hs' g5b (twin_map _ _ _) (twin_map _ _ _) (fun j hj => (g4.ids j hj).2) (lo := H.next) (by omega) (by omega) (by omega)
  have c4 : ov1 (.fn (.func 43) [] []) [.agg a, .agg b] .no (imp (H.next + 1) h4 hc) = some (.ret (.bool true), false, h6) := by
    simp only [ov1, show isF 5 (.fn (.func 43) [] []) = false from rfl, show isCl cls (.fn (.func 43) [] []) = false from rfl, Bool.false_eq_true, if_false]
    exact evAny_eq q5
  have kk : Keeps H h6 := by
    refine ⟨by omega, fun j hj => ?_⟩
    rw [q7 j hj, k5 j (by omega) (by omega), w3 j (by omega) (.inl (by omega)), k3 j (by omega) (by omega), k2.2 j hj]
  suffices h : ∃ n w H', (evo E ov1 n).call (.fn (.func 5) [] []) [.fn (.func i) [] [.rop xs 0]] .no H = some (.ret w, false, H') ∧ (w = .bool true ∧ Keeps H H') by
    obtain ⟨n, w, H', h1, rfl, h2⟩ := h
    exact ⟨n, H', h1, h2⟩
  refine callO_of (fn := Tryz.f5) rfl rfl rfl ?_
  refine runO_seq ?_
  refine runO_region rfl ?_
  refine runO_op rfl rfl rfl ?_
  refine runO_end (fr1 := ⟨[(0, V.fn (Fn.func i) [] [.rop xs 0]), (2, .bool false)], [], [], .no⟩) (by kernel_rfl) ?_
  refine runO_seq ?_
  refine runO_region rfl ?_
  refine runO_op rfl rfl rfl ?_
  refine runO_op rfl rfl rfl ?_
  refine runO_end (fr1 := ⟨[(0, V.fn (Fn.func i) [] [.rop xs 0]), (2, .bool false), (3, .cell H.next 0), (4, .cell (H.next + 1) 0)], [], [], .no⟩) (by kernel_rfl) ?_
  refine runO_seq ?_
  refine runO_region rfl ?_
  refine runO_op rfl rfl rfl ?_
  refine runO_call rfl rfl c1 rfl ?_
  refine runO_op rfl rfl rfl ?_
  refine runO_end (fr1 := ⟨[(0, V.fn (Fn.func i) [] [.rop xs 0]), (2, .bool false), (3, .cell H.next 0), (4, .cell (H.next + 1) 0), (5, v.ren (sig H.next h2.next))], [], [], .no⟩) (by kernel_rfl) ?_
  refine runO_seq ?_
  refine runO_region rfl ?_
  refine runO_op rfl rfl rfl ?_
  refine runO_call rfl rfl c2 rfl ?_
  refine runO_end (fr1 := ⟨[(0, V.fn (Fn.func i) [] [.rop xs 0]), (2, .bool false), (3, .cell H.next 0), (4, .cell (H.next + 1) 0), (5, v.ren (sig H.next h2.next))], [], [], .no⟩) (by kernel_rfl) ?_
  refine runO_seq ?_
  refine runO_region rfl ?_
  refine runO_op rfl rfl rfl ?_
  refine runO_call rfl rfl c3 rfl ?_
  refine runO_end (fr1 := ⟨[(0, V.fn (Fn.func i) [] [.rop xs 0]), (2, .bool false), (3, .cell H.next 0), (4, .cell (H.next + 1) 0), (5, v.ren (sig H.next h2.next))], [], [], .no⟩) (by kernel_rfl) ?_
  refine runO_seq ?_
  refine runO_region rfl ?_
  refine runO_op rfl (load_row rfl rfl rfl rfl q1 q3) rfl ?_
  refine runO_op rfl (load_row rfl rfl rfl rfl q2 q4) rfl ?_
  refine runO_call rfl rfl c4 rfl ?_
  refine runO_op rfl rfl rfl ?_
  refine runO_end (fr1 := ⟨[(0, V.fn (Fn.func i) [] [.rop xs 0]), (2, .bool true), (3, .cell H.next 0), (4, .cell (H.next + 1) 0), (5, v.ren (sig H.next h2.next))], [], [], .no⟩) (by kernel_rfl) ?_
  exact runO_ret ⟨.inr rfl, rfl, rfl, [.bool true], rfl, rfl, rfl, kk⟩
end Go.Proofs.YtpjhhplefafojaaGreat
