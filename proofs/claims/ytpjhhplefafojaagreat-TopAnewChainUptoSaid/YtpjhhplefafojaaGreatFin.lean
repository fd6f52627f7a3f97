/- TopAnewChain, for every argument of a bulk of at most 1048576: the call returns true, and the argument reads behind it as it read before. Condition: the bulk, as the statement's own row has it. -/
import Derived.Test.YtpjhhplefafojaaGreatCl
import Derived.Test.YtpjhhplefafojaaGreatAw
import Derived.Test.YtpjhhplefafojaaGreatR
import Derived.Test.YtpjhhplefafojaaGreatBe
import Derived.Test.YtpjhhplefafojaaGreatRows
import Derived.WalkKit
import Derived.ProofKit
import Derived.OpenShut
import Derived.JoinedCond
set_option linter.unusedVariables false
set_option linter.unusedSimpArgs false
open Go Go.Abs Go.Abs.Sx Go.Proofs
namespace Go.Proofs.YtpjhhplefafojaaGreat
set_option maxRecDepth 100000
open Go.ChangeShapes Go.WideShapes Go.ChangeAt Go.RowKit
theorem one_le {H : Type} (d : DataW H) : 1 ≤ Rows.uptoBulk d := by
  cases d with
  | lit l => cases l <;> simp [Rows.uptoBulk]
  | nil => simp [Rows.uptoBulk]
  | ptr d => simp [Rows.uptoBulk]
  | slice elems spare => simp [Rows.uptoBulk]
  | agg parts => simp [Rows.uptoBulk]
  | iface t d => simp [Rows.uptoBulk]
  | map entries => simp [Rows.uptoBulk]
  | held h => simp [Rows.uptoBulk]
theorem part_le {H : Type} {d : DataW H} : ∀ {l : List (DataW H)}, d ∈ l → Rows.uptoBulk d ≤ Rows.uptoBulkAll l
  | [], h => by cases h
  | x :: r, h => by
    simp only [Rows.uptoBulkAll]
    rcases List.mem_cons.1 h with e | e
    · subst e; omega
    · have := part_le e; omega
theorem len_le {H : Type} : ∀ (l : List (DataW H)), l.length ≤ Rows.uptoBulkAll l
  | [] => by simp [Rows.uptoBulkAll]
  | x :: r => by have := one_le x; have := len_le r; simp only [Rows.uptoBulkAll, List.length_cons]; omega
theorem bulk_ok {H : Type} : Bulk (Rows.uptoBulk (H := H)) where
  str := fun l => by simp only [Rows.uptoBulk]; omega
  len := fun es sp => by have := len_le es; simp only [Rows.uptoBulk]; omega
  el := fun es sp d h => by have := part_le h; simp only [Rows.uptoBulk]; omega
  part := fun ps d h => by have := part_le h; simp only [Rows.uptoBulk]; omega
theorem small {H : Type} {d : DataW H} (hk : Rows.uptoSmall H ([d] ++ []) = true) : Rows.uptoBulk d ≤ 1048576 := by
  have h : Rows.uptoBulkAll [d] ≤ 1048576 := of_decide_eq_true hk
  simp only [Rows.uptoBulkAll] at h
  omega
theorem own : ownKnob Tryz.prog.godebug = none := by kernel_rfl
theorem cells_ok : Tryz.prog.cellsOf 37 = cts.length := by kernel_rfl
theorem tx_ok : ∃ iX, E.ti 37 = some iX ∧ iX.isAgg = true ∧ iX.size = cts.length := ⟨_, rfl, by kernel_rfl, by kernel_rfl⟩
theorem contract (H : Type) (enc : TypeId × Value → H) (W : World) (base : Nat) (args : Array Value) (ds gs : List (DataW H)) (before : List MemPlace)
    (hval : ∀ (j : Nat) t v, Tryz.f3.params[j]? = some t → args[j]? = some v → Value.okWide Tryz.prog W .any base t v)
    (hW : DataW.Whole enc Tryz.prog Tryz.f3.params.toList Rows.topAnewChainSpec.vars false W args.toList ds gs before) (hk : Rows.uptoSmall H (ds ++ gs) = true) :
    _root_.Go.Calls Tryz.prog 3 args W fun e W' => ∃ v, e = .returned v ∧ Rows.topAnewChainSpec.post enc Tryz.prog Tryz.f3 false true false false W args v W' := by
  have hW' := hW
  obtain ⟨p, q, hA0, hV, rfl, hfz, hnd⟩ := hW
  have hA : DataW.TrodAll enc Tryz.prog W 0 (fun _ => true) true Tryz.f3.params.toList args.toList ds p := hA0
  rw [Tryz.params3] at hA hval
  obtain ⟨v0, vs0, d0, ds0, p0, q0, hargs, rfl, rfl, h0, r0⟩ := trodAll_cons hA
  obtain ⟨rfl, rfl, rfl⟩ := trodAll_nil r0
  obtain rfl : args = #[v0] := by cases args; simp_all
  obtain ⟨rfl, rfl⟩ := trodVars_none hV
  have hok := hval 0 37 v0 rfl rfl
  simp only [Value.okWide, Tryz.underlying37] at hok
  obtain ⟨cs, rfl, hcs, _⟩ := hok
  obtain ⟨fuel, hf⟩ := h0
  have hf0 : DataW.trod enc Tryz.prog W 0 (fun _ => true) true fuel 37 cs.toList = some (d0, p0) := hf
  have hb := small hk
  have hcl : cs.toList.length = cts.length := by rw [Array.length_toList, hcs]; exact cells_ok
  obtain ⟨xs, hx⟩ := fit_of (ω := ⟨fun _ => none, fun b => W.heap[b]?⟩) (fun _ => rfl) bulk_ok 10 fuel 37 cs.toList d0 p0 cts hf0 cts_ok hb hcl
  obtain ⟨iX, hi1, hi2, hi3⟩ := tx_ok
  obtain ⟨u, hcA, cn, cs', ha1, ha2, ha3⟩ := all4 hx.ty
  obtain ⟨hWk, haw⟩ := retTrue_any aw
  have hrun := law_calls2 (ov := ov2 xs) (L := 3) (fn := Tryz.f3) run_ok (ov2_ok run_ok xs) rfl rfl rfl rfl rfl (by kernel_rfl) rfl rfl rfl (by kernel_rfl) (by kernel_rfl) (by kernel_rfl) hx.flat (x := .agg cs) (W := W) (by
    simp only [VR]
    exact ⟨cs, by rw [hx.len, ← hcl, Array.length_toList], hx.vr, rfl⟩) (fun h0 hn0 => law_run hx.free hi1 hi2 (by rw [hi3, hx.len]) (cls_ok hx.ty) (by decide) (by decide) ha1 ha2 ha3 haw hn0 rfl rfl)
  refine hrun.mono fun e W' ⟨he, ho, hu, hsz, hh⟩ => ?_
  subst he
  refine ⟨_, rfl, law_post hW' rfl hh ho hu (fun sp hsp => ?_) rfl (fun b sp hd => trodAll_cons_mk (shut_bool Tryz.underlying4 _) trodAll_mk0) (ok_one (by kernel_rfl) rfl (okWide_bool_mk Tryz.underlying4 _))⟩
  simp only [List.append_nil] at hsp ⊢
  rw [Tryz.params3]
  refine ⟨p0, [], ⟨fuel, trod_mono hh 10 fuel 37 cs.toList d0 p0 cts hf0 cts_ok hsp⟩, rfl, by simp⟩
theorem lifted (os : Os) (started : os.Started) (H : Type) (enc : TypeId × Value → H) (F : Stop.Interp) :
    ReturnsInHanded {} Tryz.checked os 3 .any ((Rows.OpenSpec.upto Rows.topAnewChainSpec).pre6 enc Tryz.prog Tryz.f3 Rows.topAnewChainUptoRow.domain false) (((Rows.OpenSpec.upto Rows.topAnewChainSpec).at F).post enc Tryz.prog Tryz.f3 false true false false) := by
  refine returnsInHanded_of_cond (C := Tryz.checked) (s := Rows.OpenSpec.upto Rows.topAnewChainSpec) (k := Rows.uptoSmall) rfl own started (by kernel_rfl) Tryz.func3
    (OpenSpec.witness (enc := enc) (C := Tryz.checked) (s := Rows.OpenSpec.upto Rows.topAnewChainSpec) (k := Rows.uptoSmall) rfl false ⟨#[], #[.agg #[.slice none 0 0, .int .i64 0, .int .i64 0, .int .i64 0, .int .i64 0, .int .i64 0, .slice none 0 0, .int .i64 0, .int .i64 0, .int .i64 0, .int .i64 0, .int .i64 0, .slice none 0 0, .int .i64 0, .int .i64 0, .int .i64 0, .int .i64 0, .int .i64 0, .int .i64 0, .int .i64 0, .int .i64 0, .int .i64 0, .slice none 0 0]], []⟩ 12 (by kernel_rfl) (by kernel_rfl) (by kernel_rfl)
      (x := ([.agg [.agg [.agg [.nil, .lit (.int .i64 0), .lit (.int .i64 0), .lit (.int .i64 0), .agg [.lit (.int .i64 0), .lit (.int .i64 0)], .nil], .agg [.lit (.int .i64 0), .lit (.int .i64 0), .lit (.int .i64 0), .lit (.int .i64 0)], .lit (.int .i64 0), .nil], .lit (.int .i64 0), .lit (.int .i64 0), .lit (.int .i64 0), .lit (.int .i64 0), .agg [.lit (.int .i64 0), .lit (.int .i64 0), .lit (.int .i64 0), .lit (.int .i64 0), .lit (.int .i64 0), .nil]]], [], [])) (by kernel_rfl) rfl (by kernel_rfl)) ?_
  intro W base args ds gs before hval hW _ hk _
  exact contract H enc W base args ds gs before hval hW hk
theorem holds : Rows.TopAnewChainUptoSaid :=
  OpenClaim.holds_of_cond 3 Tryz.f3 rfl rfl rfl rfl rfl rfl rfl ⟨rfl, rfl, rfl, rfl, rfl⟩ rfl rfl rfl rfl rfl (by kernel_rfl) Tryz.func3 (by kernel_rfl)
    (of_decide_eq_true (by kernel_rfl)) (by unfold Func.isWrapper; first | (rw [if_pos (by decide +kernel)]; kernel_rfl) | (rw [if_neg (by decide +kernel)]; exact ⟨rfl, rfl⟩))
    (fun os started H enc _ F => lifted os started H enc F)
end Go.Proofs.YtpjhhplefafojaaGreat
