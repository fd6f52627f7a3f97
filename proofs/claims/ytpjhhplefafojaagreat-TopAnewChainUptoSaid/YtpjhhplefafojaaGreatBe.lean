/- The law's own frame: what it begins with, its argument laid down for good, the rest of its run, its return. -/
import Derived.Test.YtpjhhplefafojaaGreatBd
import Derived.Calls
import Derived.ChangeArms
import Derived.Deep.Slices
import Derived.ChangeSame
set_option linter.unusedVariables false
set_option linter.unusedSimpArgs false
namespace Go.Abs
section
variable {E : Env} {P : Program} {ok : FuncId → Nat → Code → Prop} {ω : Om} {H : Heap} {lo : Nat → Option Nat} {fr : Fr} {tmps : Array Value} {w : World}
theorem freeze (sr : SR ok ω H lo fr tmps w) {id : Nat} {cs : List V} (hid : H.get id = some (.row cs)) {fr' : Fr} (hb' : fr'.boxes = [])
    (hv : ∀ t v, fr'.vals.get t = some v → fr.vals.get t = some v ∨ (fr.vals.get t = some (.cell id 0) ∧ v = .rop cs 0)) :
    ∃ ω', SR ok ω' (H.set id .dead) lo fr' tmps w ∧ ∀ b, owns ω' (H.set id .dead) b → owns ω H b := by
  obtain ⟨bl, hbl, horel⟩ := sr.wr.obj id _ hid rfl
  simp only [ORel] at horel
  obtain ⟨cs', el, g1, g2, g3, g4, g5⟩ := horel
  have hlt := Heap.lt_of_get hid
  have hron := sr.wr.sep id _ bl hid rfl hbl
  let ω' : Om := ⟨ω.φ, fun b => if b = bl.b then some (.cells cs' el (0, 0)) else ω.ro b⟩
  have hle : ω.le ω' := ⟨fun _ _ h => h, fun b o h => by
    simp only [ω']
    split
    · rename_i e; subst e; rw [hron] at h; cases h
    · exact h⟩
  have hget : ∀ i o, (H.set id .dead).get i = some o → o.live = true → i ≠ id ∧ H.get i = some o := fun i o hg hl => by
    rw [Heap.get_set _ _ _ _ hlt] at hg
    split at hg
    · simp only [Option.some.injEq] at hg; subst hg; cases hl
    · rename_i e; exact ⟨fun e' => e e', hg⟩
  refine ⟨ω', ⟨⟨fun b o hb => ?_, fun i o hg hl => ?_, fun i j oi oj bi bj gi li gj lj hi hj he => ?_, fun i o b hg hl hb => ?_, fun i b hi => ?_⟩, ⟨fun t v ht => ?_, fun t cs ht => by rw [hb'] at ht; simp [Al.get] at ht, fun s t b hs => by rw [hb'] at hs; simp [Al.get] at hs⟩⟩, fun b h => ?_⟩
  · simp only [ω'] at hb
    split at hb
    · rename_i e; subst e; simp only [Option.some.injEq] at hb; subst hb; exact g1
    · exact sr.wr.ro b o hb
  · obtain ⟨hne, hg'⟩ := hget i o hg hl
    obtain ⟨b, e1, e2⟩ := sr.wr.obj i o hg' hl
    exact ⟨b, e1, e2.mono hle rfl⟩
  · exact sr.wr.inj i j oi oj bi bj (hget i oi gi li).2 li (hget j oj gj lj).2 lj hi hj he
  · obtain ⟨hne, hg'⟩ := hget i o hg hl
    simp only [ω'] at hb ⊢
    rw [if_neg fun e => hne (sr.wr.inj i id o _ b bl hg' hl hid rfl hb hbl e)]
    exact sr.wr.sep i o b hg' hl hb
  · rw [Heap.next_set]; exact sr.wr.dom i b hi
  · rcases hv t v ht with h | ⟨h, rfl⟩
    · have := sr.fr.vals t v h
      cases v <;> simp only [SlotR] at this ⊢ <;> first | exact this | exact VR.mono hle _ _ this
    · have := sr.fr.vals t _ h
      simp only [SlotR, VR] at this ⊢
      obtain ⟨bl', e1, e2⟩ := this
      rw [hbl, Option.some.injEq] at e1; subst e1
      exact ⟨bl.b, bl.base, cs', el, (0, 0), by simp [ω'], VRs.mono hle _ _ g4, g5, e2⟩
  · obtain ⟨i, o, b', h1, h2, h3, h4⟩ := h
    exact ⟨i, o, b', (hget i o h1 h2).2, h2, h3, h4⟩
theorem law_calls {ov : Ov} (hE : RunOk E P) (hov : OvOk E P ov) {L : FuncId} {fn : Func} {id : Nat} {o0 o1 : Oper} {rest : Code} (hf : E.fn L = some fn) (hb : fn.body = some (.seq (.region id #[o0, o1] false) rest))
    {xs : List V} {x : Value} {W : World} (hx : VR ⟨fun _ => none, fun b => W.heap[b]?⟩ (.agg xs) x) {fr0 fr1 fr2 fr3 : Fr} {h1 : Heap}
    (hw0 : wants #[o0, o1] ⟨[(0, .agg xs)], [], [], .no⟩ o0 = some true) (hs0 : stepOp E L ⟨[(0, .agg xs)], [], [], .no⟩ Heap.empty o0 = some (.val (.cell 0 0) fr0 h1)) (hh : h1.get 0 = some (.row xs))
    (hw1 : wants #[o0, o1] (fr0.put o0.dst (.cell 0 0)) o1 = some true) {v1 : V} (hs1 : stepOp E L (fr0.put o0.dst (.cell 0 0)) h1 o1 = some (.val v1 fr1 h1)) (hp2 : E.prune L (fr1.put o1.dst v1) = fr2)
    (hb2 : fr2.boxes = []) (hd2 : fr2.defers = []) (hc2 : fr2.rc = .no) (hb3 : fr3.boxes = []) (hd3 : fr3.defers = []) (hc3 : fr3.rc = .no)
    (hv : ∀ t v, fr3.vals.get t = some v → fr2.vals.get t = some v ∨ (fr2.vals.get t = some (.cell 0 0) ∧ v = .rop xs 0))
    (hrun : RunO E ov L [.code rest] fr3 (h1.set 0 .dead) fun ex fr' h' => (ex = .fall ∨ ex = .jump .ret) ∧ resultsOf E fr' h' fn.results.toList = some [.bool true] ∧ fr'.defers = []) :
    _root_.Go.Calls P L #[x] W fun e W' => e = .returned (.bool true) ∧ W'.os = W.os ∧ W'.output = W.output ∧ W.heap.size ≤ W'.heap.size ∧ ∀ b, b < W.heap.size → W'.heap[b]? = W.heap[b]? := by
  intro cs
  have hf' := hE.fn L fn hf
  obtain ⟨cd', q1, q2, q3⟩ := hE.code L fn hf
  rw [hb] at q1
  simp only [Option.some.injEq] at q1; subst q1
  let tm : Array Value := #[x] ++ Array.replicate (fn.ntmps - 1) undef
  let b : Frame := { (default : Frame) with fn := L, kind := .normal, roundOf := none }
  have hb0 : Frame.enter P L #[x] .normal = b.atR ⟨tm, []⟩ [.code (.seq (.region id #[o0, o1] false) rest)] := by
    simp [Frame.enter, Frame.atR, b, tm, hf', hb]
  have hsz : fn.ntmps ≤ tm.size := by simp only [tm, Array.size_append, Array.size_replicate, List.size_toArray, List.length_singleton]; omega
  have q2' := okCode_mono hsz q2
  have q2s : okCode E L tm.size (.region id #[o0, o1] false) = true ∧ okCode E L tm.size rest = true := by
    have := q2'
    simp only [okCode, Bool.and_eq_true] at this ⊢
    exact this
  have qops : okOper tm.size o0 = true ∧ okOper tm.size o1 = true := by
    have := q2s.1
    simp only [okCode, Bool.and_eq_true] at this
    have h := this.1
    simpa using h
  let ω0 : Om := ⟨fun _ => none, fun b => W.heap[b]?⟩
  have hg0 : ∀ i, Heap.empty.get i = none := fun i => by simp [Heap.get, Heap.empty]
  have sr0 : SR (okP E P) ω0 Heap.empty (fun _ => none) ⟨[(0, .agg xs)], [], [], .no⟩ tm W := by
    refine ⟨⟨fun b o h => h, fun i o hg => (by rw [hg0] at hg; cases hg), fun i j oi oj bi bj gi => (by rw [hg0] at gi; cases gi), fun i o b hg => (by rw [hg0] at hg; cases hg), fun i b hi => (by cases hi)⟩, FR.fresh fun t v ht => ?_⟩
    simp only [Al.get] at ht
    split at ht
    · rename_i e; subst e
      simp only [Option.some.injEq] at ht; subst ht
      have : tm.getD 0 undef = x := by
        simp only [tm, Array.getD_eq_getD_getElem?]
        rw [Array.getElem?_append_left (by simp)]; rfl
      rw [this]; exact hx
    · cases ht
  have e0 : step P (lone (b.atR ⟨tm, []⟩ [.code (.seq (.region id #[o0, o1] false) rest)]) cs W) = .next (lone (b.atR ⟨tm, []⟩ [.code (.region id #[o0, o1] false), .code rest]) cs W) := stepR_seq
  have e1 : step P (lone (b.atR ⟨tm, []⟩ [.code (.region id #[o0, o1] false), .code rest]) cs W) = .next (lone (b.atR ⟨tm, []⟩ [.inRegion #[o0, o1] (List.range 2), .code rest]) cs W) := stepR_region
  obtain ⟨ω1, lo1, a1, w1, s1, n1, d1, p1⟩ := op_step (P := P) (E := E) (ops := #[o0, o1]) (b := b) (k := [.code rest]) (cs := cs) (i := 0) (rest := [1]) (a := ⟨tm, []⟩) hE.toEnvOk sr0 rfl rfl qops.1 hw0 hs0
  obtain ⟨ω2, lo2, a2, w2, s2, n2, d2, p2⟩ := op_step (P := P) (E := E) (ops := #[o0, o1]) (b := b) (k := [.code rest]) (cs := cs) (i := 1) (rest := []) (a := a1) hE.toEnvOk p1.sr n1 rfl qops.2 hw1 hs1
  have e2 : step P (lone (b.atR a2 [.inRegion #[o0, o1] [], .code rest]) cs w2) = .next (lone (b.atR a2 [.code rest]) cs w2) := stepR_region_end
  have p12 := p1.trans p2
  have srp : SR (okP E P) ω2 h1 lo2 fr2 a2.tmps w2 := by
    have : Post (okP E P) ω2 h1 lo2 (fr1.put o1.dst v1) w2 ω2 h1 lo2 fr2 a2.tmps w2 := (Post.refl p12.sr).less (a' := a2) (by subst hp2; rfl) (fun t v ht => prune_get (E := E) (fid := L) (show (E.prune L (fr1.put o1.dst v1)).vals.get t = some v by rw [hp2]; exact ht))
    exact this.sr
  obtain ⟨ω3, sr3, hown3⟩ := freeze srp hh hb3 hv
  obtain ⟨n, ex, fr', H', hit, hex, hres, hdf⟩ := hrun
  obtain ⟨r1, r2, ω', lo', a', w', p, hn', hds', hdef, he⟩ := (evo_ok hE hov n).2 L [.code rest] fr3 _ ex fr' H' hit hd3 ω3 lo2 a2 w2 b [.code rest] cs tm.size w2.heap.size sr3 n2
    (by intro z hz; simp only [List.mem_singleton] at hz; subst hz; exact q2s.2) ⟨fn, hf'⟩ ⟨_, _, rfl, rfl, rfl⟩ rfl (Nat.le_refl _) (by rw [d2, d1]; exact .nil) (by rw [hc3]; rfl)
  have nobox : ∀ lo x, ¬ boxOf lo fr3 x := fun lo x ⟨t, h1, _⟩ => by rw [hb3] at h1; simp [Al.get] at h1
  have ev1 : Evo (fun _ => False) ω0 Heap.empty W ω2 h1 w2 := p12.evo.weaken fun x hx => boxOf_fresh x hx
  have ev2 : Evo (fun _ => False) ω3 (h1.set 0 .dead) w2 ω' H' w' := p.evo.weaken fun x hx => nobox _ x hx
  have no0 : ∀ b, ¬ owns ω0 Heap.empty b := fun b ⟨i, o, bl, h, _⟩ => by rw [hg0] at h; cases h
  have hlt := Heap.lt_of_get hh
  have keep1 : ∀ b, b < W.heap.size → w2.heap[b]? = W.heap[b]? := fun b hb => ev1.keep b hb (no0 b) (fun h => h)
  have noown : ∀ b, b < W.heap.size → ¬ owns ω3 (h1.set 0 .dead) b := fun b hb hw => no0 b (ev1.own b (hown3 b hw) hb)
  have keep2 : ∀ b, b < W.heap.size → w'.heap[b]? = W.heap[b]? := fun b hb => (ev2.keep b (Nat.lt_of_lt_of_le hb ev1.size) (noown b hb) (fun h => h)).trans (keep1 b hb)
  have hsteps : Steps P (lone (Frame.enter P L #[x] .normal) cs W) (lone (b.atR a2 [.code rest]) cs w2) := by
    rw [hb0]
    exact .head e0 (.head e1 (.head s1 (.head s2 (.one e2))))
  have fin : ∃ t, Steps P (lone (Frame.enter P L #[x] .normal) cs W) (lone { b.atR a' t with mode := .returning } cs w') := by
    rcases hex with rfl | rfl
    · exact ⟨[], hsteps.trans (Steps.trans he (.one (stepR_end rfl)))⟩
    · obtain ⟨_, k, _, hk⟩ := he
      exact ⟨_, hsteps.trans (Steps.trans hk (.one (stepR_ret rfl)))⟩
  obtain ⟨t, hst⟩ := fin
  obtain ⟨rs, g1, g2, g3⟩ := hds'
  obtain ⟨w'', k1, k2, k3, k4, k5, k6, k7, k8⟩ := unwind_marks (P := P) (tmps := a'.tmps) (cs := cs) rs { b.atR a' t with mode := .returning } w' (by simp) g1 g2 g3 p.sr.wr p.sr.fr
  obtain ⟨z, j1, j2⟩ := run_results hE.toEnvOk (⟨k2, k3⟩ : SR (okP E P) ω' H' lo' fr' a'.tmps w'') hres rfl
  simp only [packOf, VR] at j2
  subst j2
  have hWs : W.heap.size ≤ w2.heap.size := ev1.size
  refine ⟨.returned (.bool true), w'', { b.atR a' t with mode := .returning, defers := [] }, ⟨rfl, ?_, ?_, ?_, fun b hb => ?_⟩, hst.trans k1, rfl, ⟨rfl, rfl, rfl, fn, hf', j1⟩⟩
  · rw [k7, ev2.os, ev1.os]
  · rw [k8, ev2.out, ev1.out]
  · rw [k4]; exact Nat.le_trans hWs ev2.size
  · rw [k5 b (Nat.lt_of_lt_of_le hb hWs)]; exact keep2 b hb
end
end Go.Abs
namespace Go.Abs.Sx
def ctF (P : Program) (ct : TypeId → Option (List CT)) : Nat → List Field → Option (List CT)
  | _, [] => some []
  | off, f :: fs => match ct f.type with
    | some es => if f.offset = off ∧ P.cellsOf f.type = es.length then
        match ctF P ct (off + es.length) fs with
        | some r => some (es ++ r)
        | none => none
      else none
    | none => none
def ctT (P : Program) (B : Nat) : Nat → TypeId → Option (List CT)
  | 0, _ => none
  | n + 1, t => match P.underlying t with
    | some .bool => some [.b]
    | some (.int k) => some [.i k]
    | some .string => some [.s B]
    | some (.slice e) => match ctT P B n e with
      | some es => if P.cellsOf e = es.length ∧ es.length ≠ 0 then some [.sl B es] else none
      | none => none
    | some (.struct fs) => match ctF P (ctT P B n) 0 fs.toList with
      | some l => if P.cellsOf t = l.length then some l else none
      | none => none
    | _ => none
theorem hasTs_append : ∀ {a b : List CT} {x y : List V}, hasTs a x = true → hasTs b y = true → hasTs (a ++ b) (x ++ y) = true
  | [], b, [], y, _, h => h
  | [], _, _ :: _, _, h, _ => by simp [hasTs] at h
  | _ :: _, _, [], _, h, _ => by simp [hasTs] at h
  | c :: a, b, v :: x, y, h, h' => by
    simp only [hasTs, Bool.and_eq_true] at h
    simp only [List.cons_append, hasTs, Bool.and_eq_true]
    exact ⟨h.1, hasTs_append h.2 h'⟩
theorem sames_append : ∀ {a b x y : List V}, V.sames a b = true → V.sames x y = true → V.sames (a ++ x) (b ++ y) = true
  | [], [], x, y, _, h => h
  | [], _ :: _, _, _, h, _ => by simp [V.sames] at h
  | _ :: _, [], _, _, h, _ => by simp [V.sames] at h
  | c :: a, d :: b, x, y, h, h' => by
    simp only [V.sames, Bool.and_eq_true] at h
    simp only [List.cons_append, V.sames, Bool.and_eq_true]
    exact ⟨h.1, sames_append h.2 h'⟩
theorem noIds_append : ∀ {a b : List V}, V.noIds a = true → V.noIds b = true → V.noIds (a ++ b) = true
  | [], _, _, h => h
  | v :: a, b, h, h' => by
    simp only [V.noIds, Bool.and_eq_true] at h
    simp only [List.cons_append, V.noIds, Bool.and_eq_true]
    exact ⟨h.1, noIds_append h.2 h'⟩
theorem flats_append {a b : List V} (h : flats a = true) (h' : flats b = true) : flats (a ++ b) = true := by
  simp only [flats, List.all_append, Bool.and_eq_true] at *; exact ⟨h, h'⟩
structure Fit (ω : Om) (cts : List CT) (vs : List V) (cs : List Value) : Prop where
  len : vs.length = cts.length
  vr : VRs ω vs cs
  ty : hasTs cts vs = true
  same : V.sames vs vs = true
  flat : flats vs = true
  free : V.noIds vs = true
theorem Fit.append {ω : Om} {a b : List CT} {x y : List V} {cs : List Value} (h : Fit ω a x cs) (h' : Fit ω b y (cs.drop a.length)) : Fit ω (a ++ b) (x ++ y) cs := by
  refine ⟨by simp [h.len, h'.len], VRs.of_get fun i v hv => ?_, hasTs_append h.ty h'.ty, sames_append h.same h'.same, flats_append h.flat h'.flat, noIds_append h.free h'.free⟩
  rcases Nat.lt_or_ge i x.length with hi | hi
  · rw [List.getElem?_append_left hi] at hv
    exact h.vr.get i v hv
  · rw [List.getElem?_append_right hi] at hv
    obtain ⟨z, h1, h2⟩ := h'.vr.get _ v hv
    rw [List.getElem?_drop, ← h.len] at h1
    exact ⟨z, by rw [← h1]; congr 1; omega, h2⟩
structure Bulk {H : Type} (bulk : DataW H → Nat) : Prop where
  str : ∀ l, (l : List UInt8).length ≤ bulk (.lit (.string l))
  len : ∀ es sp, (es : List (DataW H)).length ≤ bulk (.slice es sp)
  el : ∀ es sp, ∀ d ∈ (es : List (DataW H)), bulk d ≤ bulk (.slice es sp)
  part : ∀ ps, ∀ d ∈ (ps : List (DataW H)), bulk d ≤ bulk (.agg ps)
theorem flat_len {α : Type} {W : Nat → List α} {sz : Nat} : ∀ n, (∀ i, i < n → (W i).length = sz) → ((List.range n).flatMap W).length = n * sz
  | 0, _ => by simp
  | n + 1, h => by
    rw [List.range_succ, List.flatMap_append, List.length_append, flat_len n fun i hi => h i (by omega)]
    simp only [List.flatMap_cons, List.flatMap_nil, List.append_nil, h n (by omega), Nat.add_mul, Nat.one_mul]
theorem flat_at {α : Type} {W : Nat → List α} {sz : Nat} : ∀ n, (∀ i, i < n → (W i).length = sz) → ∀ i, i < n → (((List.range n).flatMap W).drop (i * sz)).take sz = W i
  | 0, _, i, hi => absurd hi (by omega)
  | n + 1, h, i, hi => by
    have hl := flat_len n fun i hi => h i (by omega)
    rw [List.range_succ, List.flatMap_append]
    simp only [List.flatMap_cons, List.flatMap_nil, List.append_nil]
    rcases Nat.lt_or_ge i n with hlt | hge
    · have h1 : i * sz + sz ≤ n * sz := by rw [← Nat.succ_mul]; exact Nat.mul_le_mul_right _ hlt
      rw [List.drop_append_of_le_length (by omega), List.take_append_of_le_length (by rw [List.length_drop]; omega)]
      exact flat_at n (fun i hi => h i (by omega)) i hlt
    · have : i = n := by omega
      subst this
      rw [List.drop_append, List.drop_eq_nil_of_le (by omega), hl, Nat.sub_self, List.drop_zero, List.nil_append, ← h i (by omega), List.take_length]
theorem flat_vrs {ω : Om} {W : Nat → List V} {sz : Nat} {l : List Value} : ∀ n, (∀ i, i < n → (W i).length = sz ∧ VRs ω (W i) (l.drop (i * sz))) → VRs ω ((List.range n).flatMap W) l
  | 0, _ => by simp only [List.range_zero, List.flatMap_nil, VRs]
  | n + 1, h => by
    have hl := flat_len n fun i hi => (h i (by omega)).1
    rw [List.range_succ, List.flatMap_append]
    simp only [List.flatMap_cons, List.flatMap_nil, List.append_nil]
    refine VRs.of_get fun i v hv => ?_
    rcases Nat.lt_or_ge i (n * sz) with hi | hi
    · rw [List.getElem?_append_left (by omega)] at hv
      exact (flat_vrs n fun i hi => h i (by omega)).get i v hv
    · rw [List.getElem?_append_right (by omega), hl] at hv
      obtain ⟨z, h1, h2⟩ := (h n (by omega)).2.get _ v hv
      rw [List.getElem?_drop] at h1
      exact ⟨z, by rw [← h1]; congr 1; omega, h2⟩
theorem flat_all {W : Nat → List V} (p : List V → Prop) (h0 : p []) (ha : ∀ a b, p a → p b → p (a ++ b)) : ∀ n, (∀ i, i < n → p (W i)) → p ((List.range n).flatMap W)
  | 0, _ => by simpa using h0
  | n + 1, h => by
    rw [List.range_succ, List.flatMap_append]
    simp only [List.flatMap_cons, List.flatMap_nil, List.append_nil]
    exact ha _ _ (flat_all p h0 ha n fun i hi => h i (by omega)) (h n (by omega))
section
variable {H : Type} {enc : TypeId × Value → H} {P : Program} {w : World} {ω : Om} {bulk : DataW H → Nat} {B : Nat}
theorem fields_fit (n : Nat) {fuel : Nat} {cs : List Value} (ih : ∀ t cs d ps cts, DataW.trod enc P w 0 (fun _ => true) true fuel t cs = some (d, ps) → ctT P B n t = some cts → bulk d ≤ B → cs.length = cts.length → ∃ vs, Fit ω cts vs cs) :
    ∀ (l : List Field) (off : Nat) (cts : List CT), ctF P (ctT P B n) off l = some cts → off + cts.length ≤ cs.length → (∀ f ∈ l, ∃ d p, DataW.trod enc P w 0 (fun _ => true) true fuel f.type ((cs.drop f.offset).take (P.cellsOf f.type)) = some (d, p) ∧ bulk d ≤ B) → ∃ vs, Fit ω cts vs (cs.drop off)
  | [], off, cts, h, _, _ => by
    simp only [ctF, Option.some.injEq] at h; subst h
    exact ⟨[], rfl, by simp only [VRs], rfl, rfl, rfl, rfl⟩
  | f :: l, off, cts, h, hle, hf => by
    simp only [ctF] at h
    split at h
    · rename_i es hes
      split at h
      · rename_i hc
        split at h
        · rename_i r hr
          simp only [Option.some.injEq] at h; subst h
          simp only [List.length_append] at hle
          obtain ⟨d, p, h1, h2⟩ := hf f List.mem_cons_self
          rw [hc.1, hc.2] at h1
          have hl1 : ((cs.drop off).take es.length).length = es.length := by rw [List.length_take, List.length_drop]; omega
          obtain ⟨vs, hv⟩ := ih _ _ _ _ _ h1 hes h2 hl1
          obtain ⟨us, hu⟩ := fields_fit n ih l (off + es.length) r hr (by omega) fun g hg => hf g (List.mem_cons_of_mem _ hg)
          refine ⟨vs ++ us, Fit.append ⟨hv.len, ?_, hv.ty, hv.same, hv.flat, hv.free⟩ (by rw [List.drop_drop]; exact hu)⟩
          refine VRs.of_get fun i v hi => ?_
          obtain ⟨z, e1, e2⟩ := hv.vr.get i v hi
          rw [List.getElem?_take] at e1
          split at e1
          · exact ⟨z, e1, e2⟩
          · cases e1
        · cases h
      · cases h
    · cases h
theorem fit_of (hω : ∀ b, ω.ro b = w.heap[b]?) (hB : Bulk bulk) : ∀ (n fuel : Nat) (t : TypeId) (cs : List Value) (d : DataW H) (ps : List MemPlace) (cts : List CT),
    DataW.trod enc P w 0 (fun _ => true) true fuel t cs = some (d, ps) → ctT P B n t = some cts → bulk d ≤ B → cs.length = cts.length → ∃ vs, Fit ω cts vs cs
  | 0, fuel, t, cs, d, ps, cts, _, h, _, _ => by simp [ctT] at h
  | n + 1, fuel, t, cs, d, ps, cts, htr, h, hb, hcl => by
    simp only [ctT] at h
    split at h
    · rename_i ht
      simp only [Option.some.injEq] at h; subst h
      obtain ⟨b, rfl, _⟩ := DataW.trod_bool ht htr
      exact ⟨[.bool b], rfl, by simp only [VRs, VR]; exact ⟨_, _, rfl, rfl, trivial⟩, rfl, by simp [V.sames, V.same], rfl, rfl⟩
    · rename_i k ht
      simp only [Option.some.injEq] at h; subst h
      obtain ⟨z, rfl, _, hw⟩ := DataW.trod_int ht htr
      exact ⟨[.int k z], rfl, by simp only [VRs, VR]; exact ⟨_, _, rfl, rfl, trivial⟩, by simpa [hasTs, hasT, Lit.wf] using hw, by simp [V.sames, V.same], rfl, rfl⟩
    · rename_i ht
      simp only [Option.some.injEq] at h; subst h
      obtain ⟨s, rfl, hx, _⟩ := DataW.trod_string ht htr
      cases hx
      have := hB.str s.data.toList
      have hs : s.size ≤ B := by
        have e : s.data.toList.length = s.size := by rw [Array.length_toList]; rfl
        omega
      exact ⟨[.str s], rfl, by simp only [VRs, VR]; exact ⟨_, _, rfl, rfl, trivial⟩, by simp [hasTs, hasT, hs], by simp [V.sames, V.same, bytes_refl], rfl, rfl⟩
    · rename_i e ht
      split at h
      · rename_i es hes
        split at h
        · rename_i hc
          simp only [Option.some.injEq] at h; subst h
          rcases Go.Deep.open_slice ht htr with ⟨rfl, _⟩ | ⟨a, len, cap, m, n', D, Pl, rfl, _, hl, hm, hmm, hx, hel⟩
          · exact ⟨[.nils], rfl, by simp only [VRs, VR]; exact ⟨_, _, rfl, rfl, trivial⟩, rfl, rfl, rfl, rfl⟩
          · cases hx
            simp only [if_true] at hmm
            subst hmm
            rw [hc.1] at hel
            have hlen : len ≤ B := by
              have := hB.len ((List.range len).map D) ((List.range (m - len)).map fun j => D (len + j))
              simp only [List.length_map, List.length_range] at this; omega
            have key : ∀ i, i < len → ∃ vs, Fit ω es vs (((List.range es.length).map fun j => (w.cell? ((a.add (i * es.length)).add j)).getD undef)) ∧ ∀ j, j < es.length → (w.cell? ((a.add (i * es.length)).add j)).isSome = true := fun i hi => by
              obtain ⟨cs', h1, h2⟩ := hel i (by omega)
              obtain ⟨_, hl2, hcell⟩ := World.cells?_some h1
              obtain ⟨vs, hv⟩ := fit_of hω hB n n' e cs' (D i) (Pl i) es h2 hes (Nat.le_trans (hB.el _ _ _ (List.mem_map.2 ⟨i, List.mem_range.2 hi, rfl⟩)) hb) hl2
              have : cs' = (List.range es.length).map fun j => (w.cell? ((a.add (i * es.length)).add j)).getD undef := by
                refine List.ext_getElem (by simp [hl2]) fun j h1 h2 => ?_
                have := hcell j (by omega)
                simp only [List.getElem_map, List.getElem_range, this, List.getElem?_eq_getElem h1, Option.getD_some]
              rw [← this]
              exact ⟨vs, hv, fun j hj => by rw [hcell j hj, List.getElem?_eq_getElem (by omega)]; rfl⟩
            obtain ⟨W, hW⟩ : ∃ W : Nat → List V, ∀ i, i < len → Fit ω es (W i) (((List.range es.length).map fun j => (w.cell? ((a.add (i * es.length)).add j)).getD undef)) ∧ ∀ j, j < es.length → (w.cell? ((a.add (i * es.length)).add j)).isSome = true := by
              refine ⟨fun i => if h : i < len then (key i h).choose else [], fun i hi => ?_⟩
              simp only [hi, dif_pos]
              exact (key i hi).choose_spec
            have hsz : ∀ i, i < len → (W i).length = es.length := fun i hi => (hW i hi).1.len
            have hflat : flats ((List.range len).flatMap W) = true := flat_all (fun l => flats l = true) rfl (fun _ _ => flats_append) len fun i hi => (hW i hi).1.flat
            have hfree : V.noIds ((List.range len).flatMap W) = true := flat_all (fun l => V.noIds l = true) rfl (fun _ _ => noIds_append) len fun i hi => (hW i hi).1.free
            have hsame : V.sames ((List.range len).flatMap W) ((List.range len).flatMap W) = true := flat_all (fun l => V.sames l l = true) rfl (fun _ _ => sames_append) len fun i hi => (hW i hi).1.same
            refine ⟨[.sro ((List.range len).flatMap W) 0 len false], rfl, ?_, ?_, ?_, rfl, ?_⟩
            · simp only [VRs, VR]
              refine ⟨_, _, rfl, ⟨a, m, rfl, hl, hm, (fun h => by cases h), hflat, fun hc0 => ?_⟩, trivial⟩
              -- the place of the first element
              obtain ⟨cs', h1, _⟩ := hel 0 (by omega)
              obtain ⟨_, hl2, hcell⟩ := World.cells?_some h1
              have h0 := hcell 0 (by omega)
              simp only [Nat.zero_mul, Addr.add, if_true] at h0
              rw [List.getElem?_eq_getElem (by omega)] at h0
              have hblk : ∃ c el fz, w.heap[a.block]? = some (.cells c el fz) ∧ a.spot = none := by
                unfold World.cell? at h0
                split at h0
                · rename_i c el fz hb'
                  split at h0
                  · cases h0
                  · rename_i hs; exact ⟨c, el, fz, hb', by simpa using hs⟩
                · cases h0
              obtain ⟨c, el, fz, hblk, hspot⟩ := hblk
              refine ⟨a.block, a.off, c, el, fz, by cases a; simp only at hspot; subst hspot; rfl, by rw [hω]; exact hblk, flat_vrs (sz := es.length) len fun i hi => ⟨hsz i hi, VRs.of_get fun j v hj => ?_⟩⟩
              obtain ⟨z, e1, e2⟩ := (hW i hi).1.vr.get j v hj
              have hjl : j < es.length := by have := (List.getElem?_eq_some_iff.1 hj).1; rw [hsz i hi] at this; exact this
              have hsome := (hW i hi).2 j hjl
              rw [List.getElem?_map, List.getElem?_range hjl] at e1
              simp only [Option.map_some, Option.some.injEq] at e1
              obtain ⟨u, hu⟩ := Option.isSome_iff_exists.1 hsome
              rw [hu, Option.getD_some] at e1
              subst e1
              refine ⟨u, ?_, e2⟩
              rw [List.getElem?_drop, List.getElem?_drop]
              have hadd : (a.add (i * es.length)).add j = ⟨a.block, a.off + (i * es.length + j), none⟩ := by
                cases a; simp only at hspot; subst hspot
                simp only [Addr.add]
                split <;> split <;> simp_all <;> omega
              rw [hadd] at hu
              simp only [World.cell?, hblk, Option.isSome_none, Bool.false_eq_true, if_false] at hu
              simpa using hu
            · simp only [hasTs, hasT, hsame, Bool.and_true, Bool.true_and, Bool.and_eq_true, decide_eq_true_eq, List.all_eq_true, List.mem_range]
              exact ⟨⟨hlen, by rw [flat_len len hsz]; omega⟩, fun i hi => by rw [Nat.zero_add, flat_at len hsz i hi]; exact (hW i hi).1.ty⟩
            · simp only [V.sames, V.same, hsame, beq_self_eq_true, Bool.and_self]
            · simp only [V.noIds, V.noId, hfree, Bool.and_self]
        · cases h
      · cases h
    · rename_i fs ht
      split at h
      · rename_i l hl
        split at h
        · rename_i hc
          simp only [Option.some.injEq] at h; subst h
          obtain ⟨xs, n', _, hx, hcl', hxl, hfs⟩ := DataW.trod_struct ht htr
          cases hx
          obtain ⟨vs, hv⟩ := fields_fit (ω := ω) (bulk := bulk) n (fun t cs d ps cts h1 h2 h3 h4 => fit_of hω hB n n' t cs d ps cts h1 h2 h3 h4) fs.toList 0 l hl (by omega) (cs := cs) fun f hf => by
            obtain ⟨i, hi, rfl⟩ := List.getElem_of_mem hf
            have hi' : i < xs.length := by rw [hxl]; simpa using hi
            have := hfs i fs.toList[i] (by simp)
            rw [List.getElem?_eq_getElem hi'] at this
            exact ⟨xs[i].1, xs[i].2, this, Nat.le_trans (hB.part _ _ (List.mem_map.2 ⟨xs[i], List.getElem_mem hi', rfl⟩)) hb⟩
          exact ⟨vs, by simpa using hv⟩
        · cases h
      · cases h
    · cases h
end
def argS (k : Nat) : List CT → List S
  | [] => []
  | c :: r => (match c with
    | .b => S.bo (.bv (.x k c))
    | .i q => S.it q (.iv (.x k c))
    | _ => S.pv (.x k c)) :: argS (k + 1) r
theorem argS_val {ρ : Rho} : ∀ {cts : List CT} {vs : List V} {k : Nat}, hasTs cts vs = true → (∀ i v, vs[i]? = some v → ρ.σ (k + i) = v) → S.vals ρ (argS k cts) = vs
  | [], [], _, _, _ => rfl
  | [], _ :: _, _, h, _ => by simp [hasTs] at h
  | _ :: _, [], _, h, _ => by simp [hasTs] at h
  | c :: cts, v :: vs, k, h, hσ => by
    simp only [hasTs, Bool.and_eq_true] at h
    have h0 : ρ.σ k = v := hσ 0 v rfl
    have hr := argS_val (k := k + 1) h.2 fun i u hu => by have := hσ (i + 1) u (by simpa using hu); rw [← this]; congr 1; omega
    simp only [argS, S.vals, hr]
    congr 1
    have hg := good_of h.1
    have h1 := h.1
    cases c with
    | b =>
      simp only [S.val]
      cases v <;> simp only [hasT, Bool.false_eq_true] at h1
      rename_i b
      congr 1
      cases b
      · exact fmV_false.2 (by simp [Fm.holds, P.val, h0, hg, vbool])
      · exact fmV_true.2 (by simp [Fm.holds, P.val, h0, hg, vbool])
    | i q =>
      simp only [S.val, Tm.val, P.val, h0, hg]
      cases v <;> simp only [hasT, Bool.false_eq_true] at h1
      rename_i k' n
      simp only [Bool.and_eq_true, beq_iff_eq] at h1
      simp only [vint, h1.1.1]
    | s m => simp only [S.val, P.val, h0, hg]
    | sl m es => simp only [S.val, P.val, h0, hg]
end Go.Abs.Sx
namespace Go.Abs

theorem okDraw_congr {E E' : Env} (h1 : E.isLocal = E'.isLocal) (h2 : E.isBuf = E'.isBuf) (f : FuncId) (ops : Array Oper) : okDraw E f ops = okDraw E' f ops := by
  have h3 : ∀ o, noBox E f o = noBox E' f o := fun o => by unfold noBox; rw [h1]
  unfold okDraw
  rw [h2]
  simp only [h3]
theorem okCode_congr {E E' : Env} (h1 : E.isLocal = E'.isLocal) (h2 : E.isBuf = E'.isBuf) (f : FuncId) (n : Nat) : ∀ c : Code, okCode E f n c = okCode E' f n c
  | .seq a b => by simp only [okCode, okCode_congr h1 h2 f n a, okCode_congr h1 h2 f n b]
  | .cond _ a b => by simp only [okCode, okCode_congr h1 h2 f n a, okCode_congr h1 h2 f n b]
  | .block _ b => by simp only [okCode, okCode_congr h1 h2 f n b]
  | .loop b => by simp only [okCode, okCode_congr h1 h2 f n b]
  | .scope b => by simp only [okCode, okCode_congr h1 h2 f n b]
  | .rangeFunc _ ps a b => by simp only [okCode, okCode_congr h1 h2 f n a, okCode_congr h1 h2 f n b]
  | .region _ ops d => by simp only [okCode, okDraw_congr h1 h2 f ops]
  | .skip | .exit _ | .label _ | .goto _ | .ret | .refuse _ => rfl

structure Choice where
  isLocal : FuncId → Tmp → Bool
  isBuf : FuncId → Tmp → Bool
  keep : FuncId → Tmp → Bool
def Choice.bare (C : Choice) : Env := ⟨fun _ => none, fun _ => none, fun _ => none, C.isLocal, C.isBuf, C.keep⟩
def okFn (C : Choice) (f : FuncId) (fn : Func) : Bool :=
  (match fn.body with | some c => okCode C.bare f fn.ntmps c | none => false) && !(fn.name == "runtime.NumGoroutine")
def envOfP (P : Program) (C : Choice) : Env where
  fn := fun f => match P.funcs[f]? with | some fn => if okFn C f fn then some fn else none | none => none
  ti := tinfo P
  plain := plainK P 8
  isLocal := C.isLocal
  isBuf := C.isBuf
  keep := C.keep
end Go.Abs
namespace Go.Abs
def bitAt (m t : Nat) : Bool := Nat.beq (Nat.land (Nat.shiftRight m t) 1) 1
structure Tab where
  ti : Al TInfo
  pl : Al (List Kd)
  nf : Nat
  fns : Nat
  loc : List Nat
  keep : List Nat
def Tab.choice (T : Tab) : Choice := ⟨fun f t => bitAt (T.loc.getD f 0) t, fun _ _ => false, fun f t => bitAt (T.keep.getD f 0) t⟩
def Tab.env (T : Tab) (P : Program) : Env :=
  ⟨fun f => if Nat.blt f T.nf && bitAt T.fns f then P.funcs[f]? else none, fun t => T.ti.get t, fun t => T.pl.get t, fun f t => bitAt (T.loc.getD f 0) t, fun _ _ => false, fun f t => bitAt (T.keep.getD f 0) t⟩
def Tab.fnsOk (T : Tab) (P : Program) : Nat → Bool
  | 0 => true
  | f + 1 => (match bitAt T.fns f, P.funcs[f]? with | true, some fn => okFn T.choice f fn | _, _ => true) && T.fnsOk P f
theorem Tab.fnsOk_ok {T : Tab} {P : Program} : ∀ {n : Nat}, T.fnsOk P n = true → ∀ f, f < n → bitAt T.fns f = true → ∀ fn, P.funcs[f]? = some fn → okFn T.choice f fn = true
  | 0, _, f, hf, _, _, _ => absurd hf (by omega)
  | n + 1, h, f, hf, hb, fn, hfn => by
    simp only [Tab.fnsOk, Bool.and_eq_true] at h
    rcases Nat.lt_or_ge f n with hl | hl
    · exact Tab.fnsOk_ok h.2 f hl hb fn hfn
    · have : f = n := by omega
      subst this
      have h1 := h.1
      rw [hb, hfn] at h1
      exact h1
theorem map_get {α : Type} {F : Nat → Option α} : ∀ {l : Al α}, (l.map fun p => F p.1) = (l.map fun p => some p.2) → ∀ {t : Nat} {i : α}, l.get t = some i → F t = some i
  | [], _, t, i, h => by simp [Al.get] at h
  | (k, v) :: r, he, t, i, h => by
    simp only [List.map_cons, List.cons.injEq] at he
    simp only [Al.get] at h
    split at h
    · rename_i e; subst e; simp only [Option.some.injEq] at h; subst h; exact he.1
    · exact map_get he.2 h
def plainF2 (pk : TypeId → Option (List Kd)) : Nat → List Field → Option (List Kd)
  | _, [] => some []
  | off, f :: fs => if f.offset = off ∧ f.name ≠ "_" then
      match pk f.type with
      | some ks => match plainF2 pk (off + ks.length) fs with
        | some rs => some (ks ++ rs)
        | none => none
      | none => none
    else none
def plainK2 (p : Program) : Nat → TypeId → Option (List Kd)
  | 0, _ => none
  | d + 1, t =>
    match p.underlying t with
    | some .bool => some [.b]
    | some (.int _) => some [.i]
    | some .string => some [.s]
    | some (.struct fs) =>
      if p.stoodInHeld t then none else
      match plainF2 (plainK2 p d) 0 fs.toList with
      | some ks => if ks.length = p.cellsOf t then some ks else none
      | none => none
    | some (.array n e) => match plainK2 p d e with
      | some ks => if n * ks.length = p.cellsOf t ∧ p.cellsOf e = ks.length then some ((List.replicate n ks).flatten) else none
      | none => none
    | _ => none
theorem plainF2_eq (p : Program) (d : Nat) : ∀ (fs : List Field) (off : Nat), plainF2 (plainK p d) off fs = plainK.plainF p d off fs
  | [], off => by rw [plainF2, plainK.plainF]
  | f :: fs, off => by
    rw [plainF2, plainK.plainF]
    split
    · cases plainK p d f.type with
      | none => rfl
      | some ks => simp only [plainF2_eq p d fs]; rfl
    · rfl
theorem plainK2_eq (p : Program) : ∀ (d : Nat) (t : TypeId), plainK2 p d t = plainK p d t
  | 0, t => by rw [plainK2, plainK]
  | d + 1, t => by
    have ih : plainK2 p d = plainK p d := funext fun t => plainK2_eq p d t
    rw [plainK2, plainK, ih]
    simp only [plainF2_eq]
    rfl
theorem Tab.runOk {T : Tab} {P : Program} (h1 : (T.ti.map fun p => tinfo P p.1) = (T.ti.map fun p => some p.2)) (h2 : (T.pl.map fun p => plainK2 P 8 p.1) = (T.pl.map fun p => some p.2)) (h3 : T.fnsOk P T.nf = true) (hm : P.follows .mixedOrders = true) (hd : 8 ≤ P.depth) : RunOk (T.env P) P where
  fn := fun f fn h => by
    simp only [Tab.env] at h
    split at h
    · exact h
    · cases h
  ti := fun t i h => map_get h1 h
  plain := fun t ks h => by rw [← plainK2_eq]; exact map_get h2 h
  deep := hd
  code := fun f fn h => by
    simp only [Tab.env] at h
    split at h
    · rename_i hb
      simp only [Bool.and_eq_true] at hb
      have hok := Tab.fnsOk_ok h3 f (by have := hb.1; simpa [Nat.blt_eq] using this) hb.2 fn h
      simp only [okFn, Bool.and_eq_true, Bool.not_eq_true'] at hok
      cases hbd : fn.body with
      | none => simp [hbd] at hok
      | some c =>
        simp only [hbd] at hok
        exact ⟨c, rfl, by rw [← hok.1]; exact okCode_congr (E := T.env P) (E' := T.choice.bare) rfl rfl f fn.ntmps c, hok.2⟩
    · cases h
  mixed := hm
def retTrue : Option (FRes × Bool × Heap) → Bool
  | some (.ret (.bool true), false, _) => true
  | _ => false
end Go.Abs
namespace Go.Abs.Sx
def argRho (xs : List V) : Rho := ⟨fun n => if n = 0 then .mp 0 else xs.getD (n - 1) .junk, fun _ => 0, fun _ => none⟩
theorem argRho_vals {cts : List CT} {xs : List V} (h : hasTs cts xs = true) : S.vals (argRho xs) (argS 1 cts) = xs :=
  argS_val h fun i v hv => by
    simp only [argRho]
    rw [if_neg (by omega), show 1 + i - 1 = i by omega, List.getD_eq_getElem?_getD, hv]; rfl
def AllOk (E : Env) : List Con → Prop
  | [] => True
  | c :: r => ConOk E c ∧ AllOk E r
theorem AllOk.mem {E : Env} : ∀ {l : List Con}, AllOk E l → ∀ c ∈ l, ConOk E c
  | [], _, c, h => by simp at h
  | d :: r, ha, c, h => by
    rcases List.mem_cons.1 h with rfl | h
    · exact ha.1
    · exact AllOk.mem ha.2 c h
theorem AllOk.snoc {E : Env} : ∀ {l : List Con} {n : Nat} {c : Con}, AllOk E (l.take n) → l[n]? = some c → ConOk E c → AllOk E (l.take (n + 1))
  | [], _, _, _, h, _ => by simp at h
  | d :: r, 0, c, _, h, hc => by
    simp only [List.getElem?_cons_zero, Option.some.injEq] at h; subst h
    simp only [List.take_succ_cons, List.take_zero]
    exact ⟨hc, trivial⟩
  | d :: r, n + 1, c, ha, h, hc => by
    simp only [List.take_succ_cons] at ha ⊢
    exact ⟨ha.1, AllOk.snoc ha.2 (by simpa using h) hc⟩
def endsFit (pr : Prover) (wl : List Nat) (nothing nv mn ms ks : Nat) (wr : S → S) (shapes : List (Bool × Bool)) : List Post → List (Option (Con × Al Sub)) → Bool
  | [], [] => true
  | p :: ps, w :: ws => clPost pr wl nothing nv mn ms ks p (wr p.res) w && shapes.contains (shapeB p) && endsFit pr wl nothing nv mn ms ks wr shapes ps ws
  | _, _ => false
theorem endsFit_ok {pr : Prover} {wl : List Nat} {nothing nv mn ms ks : Nat} {wr : S → S} {shapes : List (Bool × Bool)} : ∀ {ps : List Post} {ws : List (Option (Con × Al Sub))}, endsFit pr wl nothing nv mn ms ks wr shapes ps ws = true → ∀ p ∈ ps, shapes.contains (shapeB p) = true ∧ ∃ w, clPost pr wl nothing nv mn ms ks p (wr p.res) w = true ∧ w ∈ ws
  | [], [], _, p, h => by simp at h
  | p :: ps, w :: ws, h, q, hq => by
    simp only [endsFit, Bool.and_eq_true] at h
    rcases List.mem_cons.1 hq with rfl | hq
    · exact ⟨h.1.2, w, h.1.1, List.mem_cons_self⟩
    · obtain ⟨h1, w', h2, h3⟩ := endsFit_ok h.2 q hq
      exact ⟨h1, w', h2, List.mem_cons_of_mem _ h3⟩
  | [], _ :: _, h, _, _ | _ :: _, [], h, _, _ => by simp [endsFit] at h
theorem cl_of {E : Env} {pr : Prover} (hp : PrOk pr) {sm : Nat} {wl : List Nat} {nothing mn ms ks : Nat} {c : Con} (hno : ∀ h, Calls E (.fn (.func nothing) [] []) [] .no h (.ret (.tup []), false, h)) (hc : ConOk E c)
    {cts : List CT} (ha : c.args = [.cell 0 (.at 0), .rowp (argS 1 cts) (.at 0)]) (hpre : c.pre = ⟨[(0, .row [.nils, .nils])], [], 1 + cts.length⟩) {xs : List V} (hx : hasTs cts xs = true) {shapes : List (Bool × Bool)} {ws : List (Option (Con × Al Sub))}
    (hf : endsFit pr wl nothing c.pre.nv mn ms ks id shapes c.posts ws = true) (hw : ∀ x, some x ∈ ws → ConOk E x.1) (hs : ∀ q : Bool × Bool, shapes.contains q = true → SameOk E sm mn ms ks q.1 q.2) :
    ∃ v hc cn cs, Calls E (.fn (.func c.fid) [] [.rop xs 0]) [.cell 0 0] .no (canH [.nils, .nils]) (.ret v, false, hc) ∧ Made E mn ms ks v hc cn cs ∧ SameOk E sm mn ms ks cn.isSome cs.isSome ∧ ∃ g l, v = .fn (.func g) [] l ∧ wl.contains g = true := by
  obtain ⟨po, hpo, ρ', h', cn, cs, h1, h2, ⟨h3, h4⟩, h5⟩ := made_of hp (wr := id) (ρ := argRho xs) hno hc (by rw [hpre]) (by rw [hpre]) (by rw [hpre]; simp only; omega) rfl fun p hpm => by
    obtain ⟨_, w, e1, e2⟩ := endsFit_ok hf p hpm
    exact ⟨w, e1, fun x hx => hw x (by rw [← hx]; exact e2)⟩
  refine ⟨_, h', cn, cs, h1 [] [.cell 0 0] [.rop xs 0] ?_, h2, ?_, h5⟩
  · rw [ha]
    simp only [S.vals, S.val, argRho_vals hx, rid, Off.val]
    rfl
  · rw [h3, h4]; exact hs (shapeB po) (endsFit_ok hf po hpo).1
theorem all_of {E : Env} {pr : Prover} (hp : PrOk pr) {sm : Nat} {nothing mn ms ks : Nat} {c : Con} (hno : ∀ h, Calls E (.fn (.func nothing) [] []) [] .no h (.ret (.tup []), false, h)) (hc : ConOk E c)
    {cts : List CT} (ha : c.args = [.agg (argS 1 cts), .cell 0 (.at 0)]) (hpre : c.pre = ⟨[(0, .row [.nils, .nils])], [], 1 + cts.length⟩) {xs : List V} (hx : hasTs cts xs = true) {shapes : List (Bool × Bool)} {ws : List (Option (Con × Al Sub))}
    (hf : endsFit pr [nothing] nothing c.pre.nv mn ms ks (fun _ => .fn nothing [] []) shapes c.posts ws = true) (hw : ∀ x, some x ∈ ws → ConOk E x.1) (ht : ∀ p ∈ c.posts, p.res = .tup []) (hs : ∀ q : Bool × Bool, shapes.contains q = true → SameOk E sm mn ms ks q.1 q.2) :
    ∃ u hc cn cs, Calls E (.fn (.func c.fid) [] []) [.agg xs, .cell 0 0] .no (canH [.nils, .nils]) (.ret (.tup []), false, hc) ∧ Made E mn ms ks u hc cn cs ∧ SameOk E sm mn ms ks cn.isSome cs.isSome := by
  obtain ⟨po, hpo, ρ', h', cn, cs, h1, h2, ⟨h3, h4⟩, h5⟩ := made_of hp (wr := fun _ => .fn nothing [] []) (ρ := argRho xs) hno hc (by rw [hpre]) (by rw [hpre]) (by rw [hpre]; simp only; omega) rfl fun p hpm => by
    obtain ⟨_, w, e1, e2⟩ := endsFit_ok hf p hpm
    exact ⟨w, e1, fun x hx => hw x (by rw [← hx]; exact e2)⟩
  refine ⟨_, h', cn, cs, ?_, h2, ?_⟩
  · have := h1 [] [.agg xs, .cell 0 0] [] (by
      rw [ha]
      simp only [S.vals, S.val, argRho_vals hx, rid, Off.val]
      rfl)
    rw [ht po hpo] at this
    simpa only [S.val, S.vals] using this
  · rw [h3, h4]; exact hs (shapeB po) (endsFit_ok hf po hpo).1
theorem sameOk_of {E : Env} {sm mn ms ks : Nat} {c : Con} (hc : ConOk E c) (hf : c.fid = sm) {nb sb : Bool} (ha : c.args = sameArgs nb sb) (hp : c.pre = samePre mn ms ks nb sb) (hr : c.posts.all (fun p => match p.res with | .bo .tt => true | _ => false) = true) : SameOk E sm mn ms ks nb sb :=
  ⟨c, hc, hf, ha, hp, fun p hpm => by
    have := List.all_eq_true.1 hr p hpm
    split at this
    · assumption
    · cases this⟩
def AllW (E : Env) : List (Option (Con × Al Sub)) → Prop
  | [] => True
  | none :: r => AllW E r
  | some x :: r => ConOk E x.1 ∧ AllW E r
theorem AllW.mem {E : Env} : ∀ {l : List (Option (Con × Al Sub))}, AllW E l → ∀ x, some x ∈ l → ConOk E x.1
  | [], _, x, h => by simp at h
  | none :: r, ha, x, h => by
    rcases List.mem_cons.1 h with e | h1
    · cases e
    · exact AllW.mem (l := r) ha x h1
  | some y :: r, ha, x, h => by
    rcases List.mem_cons.1 h with e | h1
    · cases e; exact ha.1
    · exact AllW.mem (l := r) ha.2 x h1
end Go.Abs.Sx
namespace Go.Abs
theorem law_calls2 {E : Env} {P : Program} {ov : Ov} (hE : RunOk E P) (hov : OvOk E P ov) {L : FuncId} {fn : Func} {id : Nat} {o0 o1 : Oper} {rest : Code} {tX : TypeId} (hf : E.fn L = some fn) (hb : fn.body = some (.seq (.region id #[o0, o1] false) rest))
    (g0 : o0.guard = none) (p0 : o0.op = .box tX (.tmp 0)) (d0 : o0.dst = some 1) (l0 : E.isLocal L 1 = false) (g1 : o1.guard = none) (p1 : o1.op = .assign (.const (.bool false))) (d1 : o1.dst = some 2)
    (k0 : E.keep L 0 = true) (k1 : E.keep L 1 = true) (k2 : E.keep L 2 = true) {xs : List V} {x : Value} {W : World} (hfl : flats xs = true) (hx : VR ⟨fun _ => none, fun b => W.heap[b]?⟩ (.agg xs) x)
    (hrun : ∀ h0 : Heap, h0.next = 1 → RunO E ov L [.code rest] ⟨[(0, .agg xs), (1, .rop xs 0), (2, .bool false)], [], [], .no⟩ h0 fun ex fr' h' => (ex = .fall ∨ ex = .jump .ret) ∧ resultsOf E fr' h' fn.results.toList = some [.bool true] ∧ fr'.defers = []) :
    _root_.Go.Calls P L #[x] W fun e W' => e = .returned (.bool true) ∧ W'.os = W.os ∧ W'.output = W.output ∧ W.heap.size ≤ W'.heap.size ∧ ∀ b, b < W.heap.size → W'.heap[b]? = W.heap[b]? := by
  refine law_calls (fr0 := ⟨[(0, .agg xs)], [], [], .no⟩) (fr1 := ⟨[(0, .agg xs), (1, .cell 0 0)], [], [], .no⟩) (fr2 := ⟨[(0, .agg xs), (1, .cell 0 0), (2, .bool false)], [], [], .no⟩) (fr3 := ⟨[(0, .agg xs), (1, .rop xs 0), (2, .bool false)], [], [], .no⟩)
    (h1 := Heap.empty.alloc (.row xs)) (v1 := .bool false) hE hov hf hb hx (wants_no g0) ?_ ?_ (wants_no g1) ?_ ?_ rfl rfl rfl rfl rfl rfl ?_ (hrun _ ?_)
  · unfold stepOp
    rw [p0]
    simp only [Fr.eval, Al.get, if_true, newBox, V.cells, hfl, d0, l0, Bool.false_eq_true, if_false]
    rfl
  · rw [Heap.get_alloc, if_pos (by rfl)]
  · unfold stepOp
    rw [p1, d0]
    rfl
  · rw [d1]
    simp only [Env.prune, Fr.put, Al.put]
    simp [k0, k1, k2]
  · intro t v h
    simp only [Al.get] at h ⊢
    split at h
    · rename_i e; subst e; left; simpa using h
    · rename_i h0
      split at h
      · rename_i e; subst e
        simp only [Option.some.injEq] at h
        right; exact ⟨by simp, h.symm⟩
      · rename_i h1
        left; rw [if_neg h0, if_neg h1]; exact h
  · rw [Heap.next_set, Heap.next_alloc]; rfl
end Go.Abs
namespace Go.Abs.Sx
theorem mapM_mono {α β : Type} {f g : α → Option β} : ∀ {l : List α} {ys : List β}, l.mapM f = some ys → (∀ i ∈ l, ∀ y ∈ ys, f i = some y → g i = some y) → l.mapM g = some ys
  | [], ys, h, _ => by simpa using h
  | a :: l, ys, h, hm => by
    rw [List.mapM_cons] at h ⊢
    simp only [Option.bind_eq_bind, Option.bind_eq_some_iff, Option.pure_def, Option.some.injEq] at h ⊢
    obtain ⟨y, h1, r, h2, rfl⟩ := h
    exact ⟨y, hm a List.mem_cons_self y List.mem_cons_self h1, r, mapM_mono h2 fun i hi z hz => hm i (List.mem_cons_of_mem _ hi) z (List.mem_cons_of_mem _ hz), rfl⟩
theorem mapM_len {α β : Type} {f : α → Option β} : ∀ {l : List α} {ys : List β}, l.mapM f = some ys → ys.length = l.length
  | [], ys, h => by
    have : ys = [] := by simpa using h.symm
    rw [this]; rfl
  | a :: l, ys, h => by
    rw [List.mapM_cons] at h
    simp only [Option.bind_eq_bind, Option.bind_eq_some_iff, Option.pure_def, Option.some.injEq] at h
    obtain ⟨y, _, r, h2, rfl⟩ := h
    simp only [List.length_cons, mapM_len h2]
section
variable {H : Type} {enc : TypeId × Value → H} {P : Program} {w w' : World}
theorem cell_mono (hh : ∀ b, b < w.heap.size → w'.heap[b]? = w.heap[b]?) {a : Addr} {v : Value} (h : w.cell? a = some v) : w'.cell? a = some v := by
  unfold World.cell? at h ⊢
  cases hb : w.heap[a.block]? with
  | none => rw [hb] at h; cases h
  | some o =>
    rw [hh _ (Array.getElem?_eq_some_iff.1 hb).1]
    exact h
theorem cells_mono (hh : ∀ b, b < w.heap.size → w'.heap[b]? = w.heap[b]?) {base : Nat} {a : Addr} {n : Nat} {cs : List Value} (h : w.cells? base a n = some cs) : w'.cells? base a n = some cs := by
  unfold World.cells? at h ⊢
  split at h
  · rename_i hb
    rw [if_pos hb]
    exact mapM_mono h fun i _ y _ e => cell_mono hh e
  · cases h
theorem trod_mono (hh : ∀ b, b < w.heap.size → w'.heap[b]? = w.heap[b]?) {B : Nat} {sp : Nat → Bool} : ∀ (n fuel : Nat) (t : TypeId) (cs : List Value) (d : DataW H) (ps : List MemPlace) (cts : List CT),
    DataW.trod enc P w 0 (fun _ => true) true fuel t cs = some (d, ps) → ctT P B n t = some cts → (∀ p ∈ ps, sp p.block = true) → DataW.trod enc P w' 0 sp true fuel t cs = some (d, ps)
  | 0, fuel, t, cs, d, ps, cts, _, h, _ => by simp [ctT] at h
  | n + 1, 0, t, cs, d, ps, cts, htr, _, _ => by simp [DataW.trod] at htr
  | n + 1, fuel + 1, t, cs, d, ps, cts, htr, h, hsp => by
    simp only [ctT] at h
    split at h
    · rename_i ht
      obtain ⟨b, rfl, hx⟩ := DataW.trod_bool ht htr
      rw [hx]; simp [DataW.trod, ht]
    · rename_i k ht
      obtain ⟨z, rfl, hx, hw⟩ := DataW.trod_int ht htr
      rw [hx]; simp [DataW.trod, ht, hw]
    · rename_i ht
      obtain ⟨s, rfl, hx, hs⟩ := DataW.trod_string ht htr
      rw [hx]; simp [DataW.trod, ht, hs]
    · rename_i e ht
      split at h
      · rename_i es hes
        split at h
        · rename_i hc
          have hcopy := htr
          rcases Go.Deep.open_slice ht htr with ⟨rfl, hx⟩ | ⟨a, len, cap, m, n', D, Pl, rfl, _, hl, hm, _, _, _⟩
          · rw [hx]; simp [DataW.trod, ht]
          · unfold DataW.trod at hcopy ⊢
            simp only [ht] at hcopy ⊢
            have hb : 0 ≤ a.block ∧ len ≤ cap ∧ cap ≤ maxLen := ⟨Nat.zero_le _, hl, hm⟩
            rw [if_pos hb] at hcopy ⊢
            simp only [if_true, Option.bind_eq_some_iff, Option.map_eq_some_iff, Prod.mk.injEq] at hcopy ⊢
            obtain ⟨elems, h1, rest, h2, rfl, rfl⟩ := hcopy
            have hel : ∀ y ∈ elems ++ rest, ∀ p ∈ y.2, sp p.block = true := fun y hy p hp => hsp p (List.mem_append.2 (.inr (List.mem_flatMap.2 ⟨y, hy, hp⟩)))
            have one : ∀ i (y : DataW H × List MemPlace), y ∈ elems ++ rest → (w.cells? 0 (a.add (i * P.cellsOf e)) (P.cellsOf e)).bind (DataW.trod enc P w 0 (fun _ => true) true fuel e) = some y → (w'.cells? 0 (a.add (i * P.cellsOf e)) (P.cellsOf e)).bind (DataW.trod enc P w' 0 sp true fuel e) = some y := fun i y hy he => by
              simp only [Option.bind_eq_some_iff] at he ⊢
              obtain ⟨cs', e1, e2⟩ := he
              exact ⟨cs', cells_mono hh e1, trod_mono hh n fuel e cs' y.1 y.2 es e2 hes (hel y hy)⟩
            refine ⟨elems, mapM_mono h1 fun i _ y hy => one i y (List.mem_append.2 (.inl hy)), rest, ?_, rfl, rfl⟩
            have hrest : rest.length = cap - len := by
              have := mapM_len h2
              simpa using this
            by_cases hz : cap - len = 0
            · rw [hz] at hrest ⊢
              have := List.eq_nil_of_length_eq_zero hrest
              subst this
              split <;> simp
            · have : sp a.block = true := by
                refine hsp (.cell a.block (a.off + 0)) (List.mem_append.2 (.inl ?_))
                simp only [MemPlace.row, List.mem_map, List.mem_range]
                refine ⟨0, ?_, rfl⟩
                rw [hc.1]
                exact Nat.mul_pos (by omega) (by omega)
              rw [if_pos this]
              exact mapM_mono h2 fun i _ y hy => one (len + i) y (List.mem_append.2 (.inr hy))
        · cases h
      · cases h
    · rename_i fs ht
      split at h
      · rename_i l hl
        split at h
        · rename_i hc
          unfold DataW.trod at htr ⊢
          simp only [ht] at htr ⊢
          split at htr
          · rename_i hcl
            rw [if_pos hcl]
            simp only [Option.map_eq_some_iff, Prod.mk.injEq] at htr ⊢
            obtain ⟨xs, h1, rfl, rfl⟩ := htr
            refine ⟨xs, mapM_mono h1 fun f hf y hy he => ?_, rfl, rfl⟩
            have hct : ∃ es, ctT P B n f.type = some es := by
              have key : ∀ (l : List Field) (off : Nat) (r : List CT), ctF P (ctT P B n) off l = some r → ∀ f ∈ l, ∃ es, ctT P B n f.type = some es := by
                intro l
                induction l with
                | nil => intro off r _ f hf; simp at hf
                | cons g l ih =>
                  intro off r hr f hf
                  simp only [ctF] at hr
                  split at hr
                  · rename_i es hes
                    split at hr
                    · split at hr
                      · rename_i r' hr'
                        rcases List.mem_cons.1 hf with rfl | hf
                        · exact ⟨es, hes⟩
                        · exact ih _ _ hr' f hf
                      · cases hr
                    · cases hr
                  · cases hr
              exact key _ _ _ hl f hf
            obtain ⟨es, hes⟩ := hct
            exact trod_mono hh n fuel f.type _ y.1 y.2 es he hes fun p hp => hsp p (List.mem_flatMap.2 ⟨y, hy, hp⟩)
          · cases htr
        · cases h
      · cases h
    · cases h
theorem keptBut_of (hh : ∀ b, b < w.heap.size → w'.heap[b]? = w.heap[b]?) (ho : w'.os = w.os) (hu : w'.output = w.output) (may : MemPlace → Prop) : w.keptBut w' may := by
  refine ⟨ho, hu, fun i hi => ?_⟩
  rw [hh i hi]
  cases h : w.heap[i]? with
  | none => exact rfl
  | some o =>
    cases o <;> first | exact rfl | skip
    · exact ⟨rfl, rfl, rfl, fun _ _ => rfl⟩
    · exact .inr ⟨rfl, rfl⟩
theorem frozen_of (hh : ∀ b, b < w.heap.size → w'.heap[b]? = w.heap[b]?) {a : Addr} (ha : a.block < w.heap.size) : w'.frozen? a = w.frozen? a := by
  unfold World.frozen?
  rw [hh _ ha]
theorem law_post {P : Program} {f : Func} {s : ChangeSpec} {apart fresh handsOn again : Bool} {W W' : World} {args : Array Value} {ds gs : List (DataW H)} {before : List MemPlace}
    (hW : DataW.Whole enc P f.params.toList s.vars apart W args.toList ds gs before) (hvars : s.vars = []) (hh : ∀ b, b < W.heap.size → W'.heap[b]? = W.heap[b]?) (ho : W'.os = W.os) (hu : W'.output = W.output)
    (hargs : ∀ sp : Nat → Bool, (∀ p ∈ before, sp p.block = true) → DataW.TrodAll enc P W' 0 sp true f.params.toList args.toList (s.fn H (ds ++ gs)).args before)
    (hv0 : (s.fn H (ds ++ gs)).vars = []) (hres : ∀ (b : Nat) (sp : Nat → Bool) (hd : Bool), DataW.TrodAll enc P W' b sp hd f.resultTypes.toList ((Value.bool true).resultList f.resultTypes.size) (s.fn H (ds ++ gs)).results [])
    (hok : ∀ (j : Nat) (t : TypeId) (r : Value), f.resultTypes[j]? = some t → ((Value.bool true).resultList f.resultTypes.size)[j]? = some r → Value.okWide P W' .any 0 t r) :
    s.post enc P f apart fresh handsOn again W args (.bool true) W' := by
  have hlt : ∀ p ∈ before, p.block < W.heap.size := fun p hp => hW.lt p hp
  have hold : ∀ p ∈ before, (fun b => decide (b < W.heap.size)) p.block = true := fun p hp => by simpa using hlt p hp
  have hvs : ∀ sp : Nat → Bool, DataW.TrodVars enc P W' sp s.vars (s.fn H (ds ++ gs)).vars [] := fun sp => by rw [hvars, hv0]; rfl
  refine ⟨ds, gs, before, [], before, [], hW, hres _ _ _, hargs _ hold, hvs _, keptBut_of hh ho hu _, fun _ => ?_⟩
  obtain ⟨_, _, _, _, _, hz, hn⟩ := hW
  refine ⟨hok, _, _, ([] ++ before) ++ [], ⟨[] ++ before, [], Go.ChangeShapes.trodAll_append (hargs _ (fun _ _ => rfl)) (hres _ _ _), hvs _, rfl, ?_, ?_⟩, ?_⟩
  · intro b off hp
    have hp' : MemPlace.cell b off ∈ before := by simpa using hp
    rw [frozen_of hh (hlt _ hp')]
    exact hz b off hp'
  · intro ha
    have := hn ha
    simpa using this
  · intro p hp _
    simpa using hp
end
end Go.Abs.Sx
namespace Go.Abs
mutual
def frz (hc : Heap) : Nat → V → Option V
  | 0, _ => none
  | n + 1, v => match v with
    | .bool _ | .int _ _ | .str _ | .nilp | .nils | .nilf | .nili | .nilm => some v
    | .agg cs => (frzs hc n cs).map .agg
    | .tup cs => (frzs hc n cs).map .tup
    | .iface t u => (frz hc n u).map (.iface t)
    | .sro row off len full => match frzs hc n row with
      | some r => if flats r then some (.sro r off len full) else none
      | none => none
    | .sbuf id off len _ full => match hc.get id with
      | some (.row cs) => match frzs hc n cs with
        | some r => if flats r then some (.sro r off len full) else none
        | none => none
      | _ => none
    | _ => none
def frzs (hc : Heap) : Nat → List V → Option (List V)
  | 0, _ => none
  | _ + 1, [] => some []
  | n + 1, v :: r => match frz hc n v with
    | some a => match frzs hc n r with
      | some b => some (a :: b)
      | none => none
    | none => none
end
theorem frz_len {hc : Heap} : ∀ {n : Nat} {vs rs : List V}, frzs hc n vs = some rs → rs.length = vs.length
  | 0, _, _, h => by simp [frzs] at h
  | n + 1, [], _, h => by simp only [frzs, Option.some.injEq] at h; subst h; rfl
  | n + 1, v :: r, rs, h => by
    simp only [frzs] at h
    split at h
    · split at h
      · rename_i h2
        simp only [Option.some.injEq] at h; subst h
        simp only [List.length_cons, frz_len h2]
      · cases h
    · cases h
theorem frz_both {ok : FuncId → Nat → Code → Prop} {ω ω2 : Om} {hc : Heap} {w : World} (hw : WR ok ω hc w) (h2 : ∀ b o, ω.ro b = some o → ω2.ro b = some o) (h3 : ∀ i o bl, hc.get i = some o → o.live = true → ω.φ i = some bl → ω2.ro bl.b = w.heap[bl.b]?) :
    ∀ n, (∀ v v' x, frz hc n v = some v' → VR ω v x → VR ω2 v' x) ∧ (∀ vs vs' xs, frzs hc n vs = some vs' → VRs ω vs xs → VRs ω2 vs' xs)
  | 0 => ⟨fun v v' x h => by simp [frz] at h, fun vs vs' xs h => by simp [frzs] at h⟩
  | n + 1 => by
    obtain ⟨ih1, ih2⟩ := frz_both hw h2 h3 n
    refine ⟨fun v v' x h hx => ?_, fun vs vs' xs h hx => ?_⟩
    · simp only [frz] at h
      split at h
      all_goals first
        | (simp only [Option.some.injEq] at h; subst h; simpa only [VR] using hx)
        | skip
      · simp only [Option.map_eq_some_iff] at h
        obtain ⟨r, e, rfl⟩ := h
        simp only [VR] at hx ⊢
        obtain ⟨cs', a1, a2, a3⟩ := hx
        exact ⟨cs', by rw [frz_len e, a1], ih2 _ _ _ e a2, a3⟩
      · simp only [Option.map_eq_some_iff] at h
        obtain ⟨r, e, rfl⟩ := h
        simp only [VR] at hx ⊢
        obtain ⟨cs', a1, a2, a3⟩ := hx
        exact ⟨cs', by rw [frz_len e, a1], ih2 _ _ _ e a2, a3⟩
      · simp only [Option.map_eq_some_iff] at h
        obtain ⟨r, e, rfl⟩ := h
        simp only [VR] at hx ⊢
        obtain ⟨v', a1, a2⟩ := hx
        exact ⟨v', ih1 _ _ _ e a1, a2⟩
      · split at h
        · rename_i r hr
          split at h
          · rename_i hf
            simp only [Option.some.injEq] at h; subst h
            simp only [VR] at hx ⊢
            obtain ⟨a, cap, a1, a2, a3, a4, a5, a6⟩ := hx
            refine ⟨a, cap, a1, a2, a3, a4, hf, fun hc0 => ?_⟩
            obtain ⟨b, base, cs, el, fz, b1, b2, b3⟩ := a6 hc0
            exact ⟨b, base, cs, el, fz, b1, h2 _ _ b2, ih2 _ _ _ hr b3⟩
          · cases h
        · cases h
      · split at h
        · rename_i cs hg
          split at h
          · rename_i r hr
            split at h
            · rename_i hf
              simp only [Option.some.injEq] at h; subst h
              simp only [VR] at hx ⊢
              obtain ⟨bl, o, cap, a1, a2, a3, a4, a5, a6, a7⟩ := hx
              obtain ⟨bl', b1, cs', el, b2, b3, b4, b5, b6⟩ := hw.obj _ _ hg rfl
              rw [a1, Option.some.injEq] at b1; subst b1
              refine ⟨_, cap, a2, a3, a4, a5, hf, fun hc0 => ⟨bl.b, bl.base, cs', el, (0, 0), by rw [a6 hc0], ?_, ih2 _ _ _ hr b5⟩⟩
              rw [h3 _ _ bl hg rfl a1, b2]
            · cases h
          · cases h
        · cases h
      · cases h
    · cases vs with
      | nil => simp only [frzs, Option.some.injEq] at h; subst h; simp only [VRs]
      | cons v r =>
        simp only [frzs] at h
        split at h
        · rename_i a ha
          split at h
          · rename_i b hb
            simp only [Option.some.injEq] at h; subst h
            simp only [VRs] at hx ⊢
            obtain ⟨c, l', e1, e2, e3⟩ := hx
            exact ⟨c, l', e1, ih1 _ _ _ ha e2, ih2 _ _ _ hb e3⟩
          · cases h
        · cases h
def canonF (c : Ov) (k : Nat) (f : V) (args : List V) (h : Heap) : Option (FRes × Bool × Heap) :=
  if f.noId && V.noIds args then
    match c f args .no Heap.empty with
    | some (.ret v, false, hc) => match frz hc k v with
      | some v' => some (.ret v', false, h)
      | none => none
    | _ => none
  else none
theorem canonF_ok {E : Env} {P : Program} {c : Ov} (hc : OvOk E P c) (k : Nat) : OvOk E P (fun f a _ h => canonF c k f a h) := by
  intro f args H res rec H' h
  simp only at h
  unfold canonF at h
  split at h
  · rename_i hno
    simp only [Bool.and_eq_true] at hno
    split at h
    · rename_i v hc' hcall
      split at h
      · rename_i v' hfr
        simp only [Option.some.injEq, Prod.mk.injEq] at h
        obtain ⟨rfl, rfl, rfl⟩ := h
        obtain ⟨k1, k2, k3⟩ := hc f args Heap.empty _ false hc' hcall
        refine ⟨k1, k2, fun ω w xf xargs c cs' hw hf hlen hargs => ?_⟩
        have hro : ∀ b o, ω.ro b = some o → (⟨fun _ => none, ω.ro⟩ : Om).ro b = some o := fun b o h => h
        have hg0 : ∀ i, Heap.empty.get i = none := fun i => by simp [Heap.get, Heap.empty]
        have hw0 : WR (okP E P) ⟨fun _ => none, ω.ro⟩ Heap.empty w :=
          ⟨hw.ro, fun i o hg => (by rw [hg0] at hg; cases hg), fun i j oi oj bi bj gi => (by rw [hg0] at gi; cases gi), fun i o b hg => (by rw [hg0] at hg; cases hg), fun i b hi => (by cases hi)⟩
        obtain ⟨ω', w', nx, f0, f1, hev, hwc, h3, h4, h5, h6⟩ := k3 _ w xf xargs c cs' hw0 (VR.free hro f xf hno.1 hf) hlen (VRs.free hro args _ hno.2 hargs)
        have hno0 : ∀ b, ¬ owns ⟨fun _ => none, ω.ro⟩ Heap.empty b := fun b ⟨i, o, bl, h1, _⟩ => by rw [hg0] at h1; cases h1
        have hkeep : ∀ b, b < w.heap.size → w'.heap[b]? = w.heap[b]? := fun b hb => hev.keep b hb (hno0 b) (fun h => h)
        let ω2 : Om := ⟨ω.φ, fun b => if b < w.heap.size then ω.ro b else w'.heap[b]?⟩
        have hle : ω.le ω2 := ⟨fun i b h => h, fun b o h => by
          show (if b < w.heap.size then ω.ro b else w'.heap[b]?) = some o
          rw [if_pos (hw.ro_lt h)]; exact h⟩
        have hsz : ∀ i o bl, H.get i = some o → o.live = true → ω.φ i = some bl → bl.b < w.heap.size := fun i o bl hg hl hb => by
          obtain ⟨bl', e1, e2⟩ := hw.obj i o hg hl
          rw [hb, Option.some.injEq] at e1; subst e1
          exact e2.lt hl
        have hwr : WR (okP E P) ω2 H w' := by
          refine ⟨fun b o hb => ?_, fun i o hg hl => ?_, hw.inj, fun i o bl hg hl hb => ?_, hw.dom⟩
          · replace hb : (if b < w.heap.size then ω.ro b else w'.heap[b]?) = some o := hb
            split at hb
            · rename_i hlt
              rw [hkeep b hlt]; exact hw.ro b o hb
            · exact hb
          · obtain ⟨bl, e1, e2⟩ := hw.obj i o hg hl
            exact ⟨bl, e1, e2.mono hle (hkeep _ (e2.lt hl))⟩
          · show (if bl.b < w.heap.size then ω.ro bl.b else w'.heap[bl.b]?) = none
            rw [if_pos (hsz i o bl hg hl hb)]; exact hw.sep i o bl hg hl hb
        refine ⟨ω2, w', nx, f0, f1, ⟨hle, Nat.le_refl _, hev.size, fun b hb _ _ => hkeep b hb, fun b hb _ => hb, fun b o hb hs => ?_, hev.tape, hev.os, hev.out⟩, hwr, h3, h4, ?_, h6⟩
        · replace hb : (if b < w.heap.size then ω.ro b else w'.heap[b]?) = some o := hb
          rw [if_pos hs] at hb; exact hb
        · obtain ⟨x, hx, e⟩ := h5
          refine ⟨x, (frz_both hwc (ω2 := ω2) (fun b o hb => ?_) (fun i o bl hg hl hb => ?_) k).1 _ _ _ hfr hx, e⟩
          · show (if b < w.heap.size then ω.ro b else w'.heap[b]?) = some o
            split
            · rename_i hlt; exact hev.rob b o hb hlt
            · exact hwc.ro b o hb
          · show (if bl.b < w.heap.size then ω.ro bl.b else w'.heap[bl.b]?) = w'.heap[bl.b]?
            split
            · rename_i hlt
              exact (hno0 _ (hev.own bl.b ⟨i, o, bl, hg, hl, hb, rfl⟩ hlt)).elim
            · rfl
      · cases h
    · cases h
  · cases h
structure TRow where
  f : Nat
  args : List V
  res : V
def tabGet : List TRow → Nat → List V → Option V
  | [], _, _ => none
  | r :: t, f, args => if Nat.beq r.f f && V.sames r.args args then some r.res else tabGet t f args
def tabOv (t : List TRow) : Ov := fun f args _ h => match f with
  | .fn (.func i) [] [] => match tabGet t i args with
    | some v => some (.ret v, false, h)
    | none => none
  | _ => none
def TRow.chk (E : Env) (t : List TRow) (n : Nat) (r : TRow) : Bool :=
  match canonF ((evo E (tabOv t) n).call) n (.fn (.func r.f) [] []) r.args Heap.empty with
  | some (.ret v, false, _) => V.same v r.res
  | _ => false
theorem canonF_any {c : Ov} {k : Nat} {f : V} {args : List V} {h h' H : Heap} {v : V} (e : canonF c k f args h = some (.ret v, false, h')) : canonF c k f args H = some (.ret v, false, H) := by
  unfold canonF at e ⊢
  split at e
  · rename_i hn
    rw [if_pos hn]
    split at e
    · split at e
      · simp only [Option.some.injEq, Prod.mk.injEq, FRes.ret.injEq, true_and] at e
        rename_i h1 _ _ h2
        obtain ⟨rfl, rfl⟩ := e
        simp only [h1, h2]
      · cases e
    · cases e
  · cases e
theorem tabOv_nil {E : Env} {P : Program} : OvOk E P (tabOv []) := by
  intro f args H res rec H' h
  simp only [tabOv, tabGet] at h
  split at h <;> cases h
theorem tabOv_cons {E : Env} {P : Program} (hE : RunOk E P) {t t0 : List TRow} (h0 : OvOk E P (tabOv t0)) (ht : OvOk E P (tabOv t)) {r : TRow} {n : Nat} (hr : r.chk E t0 n = true) : OvOk E P (tabOv (r :: t)) := by
  intro f args H res rec H' h
  simp only [tabOv] at h
  split at h
  · rename_i i
    simp only [tabGet] at h
    by_cases hm : (Nat.beq r.f i && V.sames r.args args) = true
    · simp only [hm, if_true, Option.some.injEq, Prod.mk.injEq] at h
      obtain ⟨rfl, rfl, rfl⟩ := h
      simp only [Bool.and_eq_true] at hm
      have e1 := Nat.eq_of_beq_eq_true hm.1
      have e2 := V.sames_eq _ _ hm.2
      subst e1; subst e2
      unfold TRow.chk at hr
      split at hr
      · rename_i v hx e
        have e3 := V.same_eq _ _ hr
        subst e3
        exact canonF_ok (evo_ok hE h0 n).1 n _ _ H _ _ H (canonF_any e)
      · cases hr
    · simp only [hm, Bool.false_eq_true, if_false] at h
      refine ht (.fn (.func i) [] []) args H res rec H' ?_
      simpa only [tabOv] using h
  · cases h
theorem retTrue_any {E : Env} {ov : Ov} {n : Nat} {f : V} {a : List V} {h : Heap} (hr : retTrue ((evo E ov n).call f a .no h) = true) : ∃ hW, evoAny E ov f a .no h = some (.ret (.bool true), false, hW) := by
  unfold retTrue at hr
  split at hr
  · rename_i hW e; exact ⟨hW, evoAny_eq e⟩
  · cases hr
end Go.Abs
