/- Each operation of the abstract machine is followed by the model's: all of them. -/
import Derived.Test.YtpjhhplefafojaaGreatBa
import Derived.RangeFuncIn
import Derived.Orders
set_option linter.unusedVariables false
set_option linter.unusedSimpArgs false
namespace Go.Abs
section
variable {P : Program} {ω : Om} {E : Env} {ok : FuncId → Nat → Code → Prop} {H : Heap} {lo : Nat → Option Nat} {fr : Fr} {a : Act} {tmps : Array Value} {w : World}

def ofFrame (o : Oper) : Bool :=
  match o.op with
  | .defer _ => true
  | .call c => match c.callee with | .builtin .recover => true | _ => false
  | _ => false

theorem OR_val {x : Option V} {fr fr' : Fr} {h h' : Heap} {v : V} (hx : x.map (fun v => OR.val v fr h) = some (.val v fr' h')) : x = some v ∧ fr' = fr ∧ h' = h := by
  simp only [Option.map_eq_some_iff, OR.val.injEq] at hx
  obtain ⟨v', h1, rfl, rfl, rfl⟩ := hx
  exact ⟨h1, rfl, rfl⟩

theorem VRs.two {u v : V} {x y : Value} (h : VR ω u x) (h' : VR ω v y) : VRs ω [u, v] [x, y] := by
  simp only [VRs]; exact ⟨_, _, rfl, h, _, _, rfl, h', trivial⟩
theorem VRs.three {u v t : V} {x y z : Value} (h : VR ω u x) (h' : VR ω v y) (h'' : VR ω t z) : VRs ω [u, v, t] [x, y, z] := by
  simp only [VRs]; exact ⟨_, _, rfl, h, _, _, rfl, h', _, _, rfl, h'', trivial⟩
theorem VRs.one {u : V} {x : Value} (h : VR ω u x) : VRs ω [u] [x] := by
  simp only [VRs]; exact ⟨_, _, rfl, h, trivial⟩

set_option maxHeartbeats 1000000 in
theorem stepOp_sim (hE : EnvOk E P) (sr : SR ok ω H lo fr a.tmps w) {fid : FuncId} {o : Oper} {v : V} {fr' : Fr} {H' : Heap} (h : stepOp E fid fr H o = some (.val v fr' H')) (hof : ofFrame o = false) : Sim ok P ω H lo fr a.tmps w (execOp a.eval o) v fr' H' := by
  obtain ⟨dst, op, type, pos, after, guard⟩ := o
  cases op with
  | move x =>
    simp only [stepOp] at h
    obtain ⟨h1, rfl, rfl⟩ := OR_val h
    exact Sim.here sr (by simp [execOp]) (eval_ok sr.fr h1)
  | assign x =>
    simp only [stepOp] at h
    obtain ⟨h1, rfl, rfl⟩ := OR_val h
    exact Sim.here sr (by simp [execOp]) (eval_ok sr.fr h1)
  | pick c x y =>
    simp only [stepOp] at h
    split at h
    · rename_i hc
      obtain ⟨h1, rfl, rfl⟩ := OR_val h
      have := eval_ok sr.fr hc
      simp only [SlotR, VR] at this
      exact Sim.here sr (x := a.eval x) (by simp [execOp, this, asBool]) (eval_ok sr.fr h1)
    · rename_i hc
      obtain ⟨h1, rfl, rfl⟩ := OR_val h
      have := eval_ok sr.fr hc
      simp only [SlotR, VR] at this
      exact Sim.here sr (x := a.eval y) (by simp [execOp, this, asBool]) (eval_ok sr.fr h1)
    · cases h
  | alloc t =>
    simp only [stepOp] at h
    split at h
    · rename_i i hi
      obtain ⟨ω', lo', w', x, h1, h2, h3⟩ := alloc_ok hE sr hi h
      exact Sim.post (s := Instr.alloc t true (.tuple #[])) h1 h2 h3
    · cases h
  | box t x =>
    simp only [stepOp] at h
    split at h
    · rename_i u hu
      obtain ⟨ω', lo', w', y, h1, h2, h3⟩ := box_ok (P := P) (t := t) sr (eval_ok sr.fr hu) h
      exact Sim.post (s := Instr.box t (a.eval x)) h1 h2 h3
    · cases h
  | build t parts =>
    simp only [stepOp] at h
    split at h
    · rename_i vs hvs
      obtain ⟨h1, rfl, rfl⟩ := OR_val h
      have hw : wholes vs = true := by
        unfold buildV at h1
        split at h1
        · assumption
        · cases h1
      obtain ⟨z, h2, h3⟩ := build_ok (w := w) (xs := parts.map fun (i, x) => (i, a.eval x)) hE (by rw [Array.toList_map]; exact evalParts_ok sr.fr hvs hw) h1
      exact Sim.sem (s := Instr.build t _) sr h2 h3
    · cases h
  | buildSlice t len parts =>
    simp only [stepOp] at h
    split at h
    · rename_i e j vs hel hvs
      split at h
      · rename_i hb
        split at h
        · rename_i cs hcs
          obtain ⟨cs', h1, h2, h3, h4, h5⟩ := buildSlice_ok (w := w) (xs := parts.map fun (i, x) => (i, a.eval x)) hE hel (by rw [Array.toList_map]; exact evalParts_ok sr.fr hvs hb.2.2) hb.2.2 hb.2.1 hcs
          have hmax : len ≤ maxLen := by simp only [maxLen]; omega
          split at h
          · split at h
            · simp only [Option.some.injEq, OR.val.injEq] at h
              obtain ⟨rfl, rfl, rfl⟩ := h
              obtain ⟨ω', g1, g2⟩ := newRow_ok sr e h2 h3 h4
              refine Sim.post (s := Instr.buildSlice t len _) h1 (.of_vr ?_) g1
              simp only [VR]
              exact ⟨_, _, _, g2, rfl, Nat.le_refl _, hmax, fun _ => rfl, fun _ => rfl, by simp only; omega⟩
            · simp only [Option.some.injEq, OR.val.injEq] at h
              obtain ⟨rfl, rfl, rfl⟩ := h
              have hp := Post.roNew sr (.cells cs' e)
              refine Sim.post (s := Instr.buildSlice t len _) h1 (.of_vr ?_) hp
              simp only [VR]
              exact ⟨_, _, rfl, Nat.le_refl _, hmax, fun _ => rfl, h4, fun _ => ⟨w.heap.size, 0, cs', e, (0, 0), rfl, by simp, VRs.mono hp.evo.le _ _ (by simpa using h3)⟩⟩
          · cases h
        · cases h
      · cases h
    · cases h
  | load t x =>
    simp only [stepOp] at h
    split at h
    · rename_i i p hi hp
      obtain ⟨h1, rfl, rfl⟩ := OR_val h
      obtain ⟨z, h2, h3⟩ := load_ok hE sr hi (eval_ok sr.fr hp) h1
      exact Sim.sem (s := Instr.loadAt t _) sr h2 h3
    · cases h
  | store t x y =>
    simp only [stepOp] at h
    split at h
    · rename_i i p u hi hp hu
      split at h
      · rename_i hb
        simp only [Option.map_eq_some_iff, OR.val.injEq] at h
        obtain ⟨⟨fr1, h1⟩, hw, rfl, rfl, rfl⟩ := h
        obtain ⟨w', g1, g2⟩ := store_ok hE sr hi (eval_ok sr.fr hp) ((eval_ok sr.fr hu).vr (wholes_loc hb.2)) hb.1 hb.2 hw
        exact Sim.unit (s := Instr.storeAt t _ _) g1 g2
      · cases h
    · cases h
  | nilCheck x =>
    simp only [stepOp] at h
    split at h
    · rename_i u hu
      split at h
      · rename_i hn
        simp only [Option.some.injEq, OR.val.injEq] at h
        obtain ⟨rfl, rfl, rfl⟩ := h
        have hs := eval_ok sr.fr hu
        refine Sim.here sr (x := a.eval x) ?_ hs
        unfold execOp
        dsimp only
        generalize a.eval x = y at hs
        cases u <;> simp only [notNil, Bool.false_eq_true] at hn
        · obtain ⟨b, _, rfl⟩ := hs; simp
        · simp only [SlotR, VR] at hs; obtain ⟨b, _, rfl⟩ := hs; simp
        · simp only [SlotR, VR] at hs; obtain ⟨b, base, cs, el, fz, _, _, _, rfl⟩ := hs; simp
        · rename_i f _ _
          cases f <;> simp only [Bool.false_eq_true] at hn
          simp only [SlotR, VR, FnR] at hs; obtain ⟨f', a', c', rfl, _, _, _, _, rfl⟩ := hs; simp
        · simp only [SlotR, VR] at hs; obtain ⟨v', _, rfl⟩ := hs; simp
      · cases h
    · cases h
  | binOp op t x y yt =>
    simp only [stepOp] at h
    split at h
    · rename_i u v' hu hv
      split at h
      · cases h
      · rename_i hb
        simp only [Bool.or_eq_true, not_or, Bool.not_eq_true] at hb
        obtain ⟨h1, rfl, rfl⟩ := OR_val h
        obtain ⟨z, h2, h3⟩ := binVal_ok hE h1 ((eval_ok sr.fr hu).vr hb.1) ((eval_ok sr.fr hv).vr hb.2) x y w
        exact Sim.sem (s := do eqGuard op t x y (a.eval x) (a.eval y); binOp op t (a.eval x) (a.eval y)) sr h2 h3
    · cases h
  | unOp op t x =>
    simp only [stepOp] at h
    split at h
    · rename_i u hu
      obtain ⟨h1, rfl, rfl⟩ := OR_val h
      obtain ⟨z, h2, h3⟩ := unVal_ok (P := P) (w := w) h1 ((eval_ok sr.fr hu).vr (by cases u <;> first | rfl | (cases op <;> simp [unVal] at h1)))
      exact Sim.sem (s := Op.unary op _) sr h2 h3
    · cases h
  | convert s d x =>
    simp only [stepOp] at h
    split at h
    · rename_i u hu
      obtain ⟨h1, rfl, rfl⟩ := OR_val h
      have hl : u.isLoc = false := by
        unfold convV at h1
        split at h1 <;> first | rfl | cases h1
      obtain ⟨z, h2, h3⟩ := conv_ok (w := w) hE ((eval_ok sr.fr hu).vr hl) h1
      exact Sim.sem (s := Go.convert s d _) sr h2 h3
    · cases h
  | makeInterface t x =>
    simp only [stepOp] at h
    split at h
    · rename_i u d hu hd
      split at h
      · cases h
      · rename_i hb
        simp only [Option.some.injEq, OR.val.injEq] at h
        obtain ⟨rfl, rfl, rfl⟩ := h
        have hd' := elem_spec hE hd
        simp only [Bool.or_eq_true, not_or, Bool.not_eq_true] at hb
        refine Sim.sem (s := Instr.makeInterface t _) (x := .iface t (a.eval x)) sr ?_ (by simp only [VR]; exact ⟨_, (eval_ok sr.fr hu).vr hb.1, rfl⟩)
        cases d <;> simp [isItf] at hb <;> simp [Instr.makeInterface, run_underlying hd']
    · cases h
  | makeFunc f x y =>
    simp only [stepOp] at h
    split at h
    · rename_i vs us hvs hus
      split at h
      · rename_i hb
        simp only [Bool.and_eq_true] at hb
        simp only [Option.some.injEq, OR.val.injEq] at h
        obtain ⟨rfl, rfl, rfl⟩ := h
        obtain ⟨hb, hy⟩ := hb
        obtain ⟨g1, g2⟩ := evals_ok sr.fr hvs hb.1
        obtain ⟨g3, g4⟩ := evals_ok sr.fr hus hb.2
        refine Sim.sem (s := Instr.makeFunc f _ _) (x := .func f (x.map a.eval) (y.map a.eval)) sr rfl ?_
        simp only [VR]
        refine ⟨f, _, _, ?_, by simpa using g1, by simpa using g2, by simpa using g3, by simpa using g4, rfl⟩
        cases f <;> simp only [FnR]
        simp [isYield] at hy
      · cases h
    · cases h
  | extract x i =>
    simp only [stepOp] at h
    split at h
    · rename_i vs hvs
      obtain ⟨h1, rfl, rfl⟩ := OR_val h
      have hs := (eval_ok sr.fr hvs).vr rfl
      simp only [VR] at hs
      obtain ⟨xs, hl, hv, he⟩ := hs
      obtain ⟨y, g1, g2⟩ := hv.get i v h1
      have g1' : xs[i]? = some y := by simpa using g1
      exact Sim.sem (s := Instr.extract _ i) (x := y) sr (by simp [Instr.extract, he, g1']) g2
    · cases h
  | makeMap t r =>
    obtain ⟨ω', g1, g2⟩ := makeMap_ok sr
    have hv : SlotR ω' lo (.mp H.next) (.map (some w.heap.size)) := .of_vr (by simp only [VR]; exact ⟨_, g1, rfl⟩)
    cases r with
    | none =>
      simp only [stepOp, Option.some.injEq, OR.val.injEq] at h
      obtain ⟨rfl, rfl, rfl⟩ := h
      exact Sim.post (s := Instr.makeMap t none) (by simp [Instr.makeMap, run_newObj]) hv g2
    | some r =>
      simp only [stepOp] at h
      split at h
      · rename_i kt e k n hd hr
        simp only [Option.some.injEq, OR.val.injEq] at h
        obtain ⟨rfl, rfl, rfl⟩ := h
        have hn := eval_ok sr.fr hr
        simp only [SlotR, VR] at hn
        exact Sim.post (s := Instr.makeMap t (some (a.eval r))) (by simp [Instr.makeMap, run_newObj, run_underlying (elem_spec hE hd), hn, asInt, asIntOf]) hv g2
      · cases h
  | makeSlice t l c =>
    simp only [stepOp] at h
    split at h
    · rename_i e j n m hel hl hc
      split at h
      · rename_i hb
        simp only [Option.some.injEq, OR.val.injEq] at h
        obtain ⟨rfl, rfl, rfl⟩ := h
        have hn := eval_ok sr.fr hl
        have hm := eval_ok sr.fr hc
        simp only [SlotR, VR] at hn hm
        obtain ⟨ω', w', x, g1, g2, g3⟩ := makeSlice_ok hE sr hel hb.1 hb.2.1 hb.2.2.1 hb.2.2.2
        exact Sim.post (s := Instr.makeSlice t (a.eval l) (a.eval c)) (by rw [hn, hm]; exact g1) (.of_vr g2) g3
      · cases h
    · cases h
  | slice t x l u m =>
    simp only [stepOp] at h
    split at h
    · rename_i v0 vl vu vm hx hl hu hm
      split at h
      · cases h
      · rename_i hb
        simp only [Bool.or_eq_true, not_or, Bool.not_eq_true] at hb
        obtain ⟨h1, rfl, rfl⟩ := OR_val h
        obtain ⟨z, g1, g2⟩ := sliceV_ok hE sr (eval_ok sr.fr hx) (opt_ok sr.fr hl fun u hu => by subst hu; exact hb.1.1) (opt_ok sr.fr hu fun u hu => by subst hu; exact hb.1.2) (opt_ok sr.fr hm fun u hu => by subst hu; exact hb.2) h1
        exact Sim.sem (s := Instr.sliceAt t _ _ _ _) sr g1 g2
    · cases h
  | fieldAddr t x f =>
    simp only [stepOp] at h
    split at h
    · rename_i p fd hp hf
      split at h
      · rename_i j hj
        split at h
        · cases h
        · rename_i hs
          obtain ⟨h1, rfl, rfl⟩ := OR_val h
          obtain ⟨z, g1, g2⟩ := fieldAddr_ok (w := w) hE hf hj hs (eval_ok sr.fr hp) h1
          exact Sim.slot (s := Instr.fieldAt t _ f) sr g1 g2
      · cases h
    · cases h
  | field t x f =>
    simp only [stepOp] at h
    split at h
    · rename_i cs fd hp hf
      split at h
      · rename_i j hj
        obtain ⟨h1, rfl, rfl⟩ := OR_val h
        simp only [Option.bind_eq_some_iff] at h1
        obtain ⟨ps, h1, h2⟩ := h1
        obtain ⟨z, g1, g2⟩ := field_ok (w := w) hE hf hj ((eval_ok sr.fr hp).vr rfl) h1 h2
        exact Sim.sem (s := Instr.field t _ f) sr g1 g2
      · cases h
    · cases h
  | indexAddr t x i =>
    simp only [stepOp] at h
    split at h
    · rename_i u v' hu hv
      obtain ⟨h1, rfl, rfl⟩ := OR_val h
      have hi : v'.isLoc = false := by
        unfold indexAddrV at h1
        split at h1 <;> first | rfl | cases h1
      obtain ⟨z, g1, g2⟩ := indexAddr_ok (w := w) hE (eval_ok sr.fr hu) ((eval_ok sr.fr hv).vr hi) h1
      exact Sim.slot (s := Instr.indexAt t _ _) sr g1 g2
    · cases h
  | index t x i =>
    simp only [stepOp] at h
    split at h
    · rename_i u v' hu hv
      obtain ⟨h1, rfl, rfl⟩ := OR_val h
      have hl : u.isLoc = false ∧ v'.isLoc = false := by
        unfold indexV at h1
        split at h1 <;> first | exact ⟨rfl, rfl⟩ | cases h1
      obtain ⟨z, g1, g2⟩ := indexV_ok (w := w) hE ((eval_ok sr.fr hu).vr hl.1) ((eval_ok sr.fr hv).vr hl.2) h1
      exact Sim.sem (s := Instr.index t _ _) sr g1 g2
    · cases h
  | lookup t m k cok =>
    simp only [stepOp] at h
    split at h
    · rename_i kt e mv kv hd hm hkv
      split at h
      · rename_i hk
        simp only [Bool.and_eq_true, Bool.not_eq_true'] at hk
        obtain ⟨hk, hkl⟩ := hk
        split at h
        · rename_i r v1 _ hg
          have hmv : mv.isLoc = false := by cases mv <;> first | rfl | simp [mapGet] at hg
          obtain ⟨g1, _⟩ := lookup_ok (cok := cok) hE sr hd hk ((eval_ok sr.fr hm).vr hmv) ((eval_ok sr.fr hkv).vr hkl) hg
          simp only [Option.some.injEq, OR.val.injEq] at h
          obtain ⟨rfl, rfl, rfl⟩ := h
          obtain ⟨z, g2, g3⟩ := g1 _ rfl
          exact Sim.sem (s := Instr.lookup t _ _ cok) sr g2 g3
        · rename_i r j hg hj
          have hmv : mv.isLoc = false := by cases mv <;> first | rfl | simp [mapGet] at hg
          obtain ⟨_, g1⟩ := lookup_ok (cok := cok) hE sr hd hk ((eval_ok sr.fr hm).vr hmv) ((eval_ok sr.fr hkv).vr hkl) hg
          simp only [Option.some.injEq, OR.val.injEq] at h
          obtain ⟨rfl, rfl, rfl⟩ := h
          obtain ⟨z, g2, g3⟩ := g1 rfl _ hj
          exact Sim.sem (s := Instr.lookup t _ _ cok) sr g2 g3
        · cases h
      · cases h
    · cases h
  | mapUpdate t m k x =>
    simp only [stepOp] at h
    split at h
    · rename_i kt e mv kv xv hd hm hk hx
      split at h
      · rename_i hb
        simp only [Bool.and_eq_true] at hb
        simp only [Option.map_eq_some_iff, OR.val.injEq] at h
        obtain ⟨H1, h1, rfl, rfl, rfl⟩ := h
        have hmv : mv.isLoc = false := by cases mv <;> first | rfl | simp [mapSet] at h1
        obtain ⟨w', g1, g2⟩ := mapSet_ok hE sr hd hb.1.1 hb.2 hb.1.2 ((eval_ok sr.fr hm).vr hmv) ((eval_ok sr.fr hk).vr (wholes_loc hb.2)) ((eval_ok sr.fr hx).vr (wholes_loc hb.1.2)) h1
        exact Sim.unit (s := Instr.mapUpdate t _ _ _) g1 g2
      · cases h
    · cases h
  | insert t m k x =>
    simp only [stepOp] at h
    split at h
    · rename_i kt e mv kv xv hd hm hk hx
      split at h
      · rename_i hb
        simp only [Bool.and_eq_true] at hb
        simp only [Option.map_eq_some_iff, OR.val.injEq] at h
        obtain ⟨H1, h1, rfl, rfl, rfl⟩ := h
        have hmv : mv.isLoc = false := by cases mv <;> first | rfl | simp [mapSet] at h1
        obtain ⟨w', g1, g2⟩ := mapSet_ok hE sr hd hb.1.1 hb.2 hb.1.2 ((eval_ok sr.fr hm).vr hmv) ((eval_ok sr.fr hk).vr (wholes_loc hb.2)) ((eval_ok sr.fr hx).vr (wholes_loc hb.1.2)) h1
        exact Sim.unit (s := Instr.mapUpdate t _ _ _) g1 g2
      · cases h
    · cases h
  | mapEntry t m k =>
    simp only [stepOp] at h
    split at h
    · rename_i kt e mv kv hd hm hk
      split at h
      · rename_i j hj
        split at h
        · rename_i hb
          simp only [Bool.and_eq_true] at hb
          simp only [Option.map_eq_some_iff, OR.val.injEq] at h
          obtain ⟨⟨v1, H1⟩, h1, rfl, rfl, rfl⟩ := h
          have hmv : mv.isLoc = false := by cases mv <;> first | rfl | simp [mapEnt] at h1
          obtain ⟨w', z, g1, g2, g3⟩ := mapEnt_ok hE sr hd hj hb.1 hb.2 ((eval_ok sr.fr hm).vr hmv) ((eval_ok sr.fr hk).vr (wholes_loc hb.2)) h1
          exact Sim.post (s := Instr.mapEntry t _ _) g1 (.of_vr g2) g3
        · cases h
      · cases h
    · cases h
  | entryStore t m st x =>
    simp only [stepOp] at h
    split at h
    · rename_i mv s v1 hm hst hx
      split at h
      · cases h
      · rename_i hb
        simp only [Bool.not_eq_true', Bool.not_eq_false] at hb
        simp only [Option.map_eq_some_iff, OR.val.injEq] at h
        obtain ⟨H1, h1, rfl, rfl, rfl⟩ := h
        have hmv : mv.isLoc = false ∧ s.isLoc = false := by
          unfold entSet at h1
          split at h1 <;> first | exact ⟨rfl, rfl⟩ | cases h1
        obtain ⟨w', g1, g2⟩ := entSet_ok (t := t) sr hb ((eval_ok sr.fr hm).vr hmv.1) ((eval_ok sr.fr hst).vr hmv.2) ((eval_ok sr.fr hx).vr (wholes_loc hb)) h1
        exact Sim.unit (s := Instr.entryStore t _ _ _) g1 g2
    · cases h
  | range t x =>
    simp only [stepOp] at h
    split at h
    · rename_i s hd hx
      simp only [Option.some.injEq, OR.val.injEq] at h
      obtain ⟨rfl, rfl, rfl⟩ := h
      have hs := eval_ok sr.fr hx
      simp only [SlotR, VR] at hs
      have hp := Post.new sr (.siter s 0) (.stringIter s 0) 0 ⟨rfl, Go.heap_alloc_new w _⟩
      exact Sim.post (s := Instr.range t (a.eval x)) (x := .pointer (some ⟨w.heap.size, 0, none⟩)) (by simp [Instr.range, run_underlying (elem_spec hE hd), hs, run_newObj]) (.of_vr (by simp only [VR]; exact ⟨⟨w.heap.size, 0, 0⟩, by simp, rfl⟩)) hp
    · cases h
  | next it b =>
    cases b with
    | false => simp [stepOp] at h
    | true =>
      simp only [stepOp] at h
      split at h
      · rename_i id hid
        have hp := eval_ok sr.fr hid
        simp only [SlotR, VR] at hp
        obtain ⟨bl, hφ, hp⟩ := hp
        split at h
        · rename_i s pos hg
          obtain ⟨bl', h1, h2, h3⟩ := sr.wr.obj id _ hg rfl
          rw [hφ] at h1; cases h1
          simp only [h2, Nat.add_zero] at hp
          split at h
          · rename_i hlt
            simp only [Option.some.injEq, OR.val.injEq] at h
            obtain ⟨rfl, rfl, rfl⟩ := h
            have hq : Post ok ω H lo fr w ω (H.set id (.siter s (pos + (Utf8.decode s pos).2))) lo fr a.tmps (World.setMap w bl.b (.stringIter s (pos + (Utf8.decode s pos).2))) := by
              have hw : bl.b < w.heap.size := (Array.getElem?_eq_some_iff.1 h3).1
              refine Post.set sr hg rfl hφ (fun b hne => ?_) (by simp [World.setMap]) rfl rfl rfl fun _ => ⟨h2, ?_⟩
              · simp only [World.setMap, Array.getElem?_setIfInBounds]
                rw [if_neg (Ne.symm hne)]
              · simp only [World.setMap, Array.getElem?_setIfInBounds]
                simp [hw]
            have hg1 : (getObj bl.b).run P w = .ok (.stringIter s pos) w := by simp [getObj, Sem.run, h3]
            have hs1 : ∀ o, (setObj bl.b o).run P w = .ok () (World.setMap w bl.b o) := by
              intro o
              simp only [setObj, Sem.run, h3]
              rfl
            exact Sim.post (s := Instr.next (a.eval it) true type) (by simp [Instr.next, hp, hg1, hlt, hs1]; rfl) (.of_vr (by simp only [VR]; exact ⟨#[.bool true, goInt pos, .int .i32 (Utf8.decode s pos).1], rfl, VRs.three (by simp only [VR]) (by simp only [VR, goInt]) (by simp only [VR]), rfl⟩)) hq
          · rename_i hlt
            simp only [Option.some.injEq, OR.val.injEq] at h
            obtain ⟨rfl, rfl, rfl⟩ := h
            have hg1 : (getObj bl.b).run P w = .ok (.stringIter s pos) w := by simp [getObj, Sem.run, h3]
            exact Sim.sem (s := Instr.next (a.eval it) true type) sr (by simp [Instr.next, hp, hg1, hlt]; rfl) (by simp only [VR]; exact ⟨#[.bool false], rfl, VRs.one (by simp only [VR]), rfl⟩)
        · cases h
      · cases h
  | typeAssert x xt t cok =>
    simp only [stepOp] at h
    split at h
    · rename_i j xv hj hx
      obtain ⟨tj, z, t1, t2, t3, t4, t5, t6, t7, t8, t9⟩ := tinfo_spec (hE.ti t j hj)
      have hz : VR ω j.zero z := (ofValue_ok t6).1
      have hzv : (zeroValue t).run P w = .ok z w := by simp [zeroValue, typeInfo, t1, t5]
      split at h
      · cases h
      · rename_i hni
        have hs := eval_ok sr.fr hx
        split at h
        · simp only [SlotR, VR] at hs
          split at h
          · rename_i hc
            subst hc
            simp only [Option.some.injEq, OR.val.injEq] at h
            obtain ⟨rfl, rfl, rfl⟩ := h
            refine Sim.sem (s := Instr.typeAssert (a.eval x) xt t true) (x := .tuple #[z, .bool false]) sr ?_ (by simp only [VR]; exact ⟨#[z, .bool false], rfl, VRs.two hz (by simp only [VR]), rfl⟩)
            rw [hs]
            cases hd : j.desc <;> simp [hd] at hni <;> simp [Instr.typeAssert, run_underlying t2, hd, hzv]
          · cases h
        · rename_i t' v'
          simp only [SlotR, VR] at hs
          obtain ⟨y, hy, hs⟩ := hs
          split at h
          · rename_i he
            subst he
            simp only [Option.some.injEq, OR.val.injEq] at h
            obtain ⟨rfl, rfl, rfl⟩ := h
            refine Sim.sem (s := Instr.typeAssert (a.eval x) xt t' cok) (x := if cok then .tuple #[y, .bool true] else y) sr ?_ ?_
            · rw [hs]
              cases hd : j.desc <;> simp [hd] at hni <;> simp [Instr.typeAssert, run_underlying t2, hd]
            · cases cok
              · exact hy
              · simp only [if_true, VR]; exact ⟨#[y, .bool true], rfl, VRs.two hy (by simp only [VR]), rfl⟩
          · rename_i he
            split at h
            · rename_i hc
              subst hc
              simp only [Option.some.injEq, OR.val.injEq] at h
              obtain ⟨rfl, rfl, rfl⟩ := h
              refine Sim.sem (s := Instr.typeAssert (a.eval x) xt t true) (x := .tuple #[z, .bool false]) sr ?_ (by simp only [VR]; exact ⟨#[z, .bool false], rfl, VRs.two hz (by simp only [VR]), rfl⟩)
              rw [hs]
              cases hd : j.desc <;> simp [hd] at hni <;> simp [Instr.typeAssert, run_underlying t2, hd, hzv, he]
            · cases h
        · cases h
    · cases h
  | call c =>
    obtain ⟨callee, args, ats⟩ := c
    cases callee with
    | builtin b =>
      simp only [stepOp] at h
      split at h
      · rename_i vs hvs
        split at h
        · rename_i hn
          obtain ⟨g1, g2⟩ := evals_ok sr.fr hvs hn
          have hb : b ≠ .recover := by rintro rfl; simp [ofFrame] at hof
          simp only [execOp, resolve, pure_bind, invoke]
          exact builtin_ok (ty := type) hE sr (xs := args.map a.eval) (by simpa using g1) (by simpa using g2) hb h
        · cases h
      · cases h
    | value f =>
      simp only [stepOp] at h
      split at h
      · split at h <;> cases h
      · cases h
    | invoke r m =>
      simp only [stepOp] at h
      split at h
      · split at h <;> cases h
      · cases h
  | panic x =>
    simp only [stepOp] at h
    split at h <;> cases h
  | defer c => simp [ofFrame] at hof
  | _ => simp [stepOp] at h
end
end Go.Abs
namespace Go.Abs

def okOper (n : Nat) (o : Oper) : Bool := (match o.dst with | some d => decide (d < n) | none => true) && !ofFrame o

section
variable {P : Program} {ω : Om} {E : Env} {ok : FuncId → Nat → Code → Prop} {H : Heap} {lo : Nat → Option Nat} {fr : Fr} {a : Act} {w : World}

theorem boxOf_congr {fr fr' : Fr} (h : fr'.boxes = fr.boxes) (b : Nat) : boxOf lo fr' b ↔ boxOf lo fr b := by simp [boxOf, h]

theorem FR.less {fr' : Fr} (h : FR ω H lo fr a.tmps w) (hb : fr'.boxes = fr.boxes) (hv : ∀ t v, fr'.vals.get t = some v → fr.vals.get t = some v) : FR ω H lo fr' a.tmps w where
  vals := fun t v ht => h.vals t v (hv t v ht)
  boxes := by rw [hb]; exact h.boxes
  inj := by rw [hb]; exact h.inj
theorem Post.less {ω' : Om} {H' : Heap} {w' : World} {lo' : Nat → Option Nat} {fr' fr'' : Fr} {a' : Act} (h : Post ok ω H lo fr w ω' H' lo' fr' a'.tmps w') (hb : fr''.boxes = fr'.boxes)
    (hv : ∀ t v, fr''.vals.get t = some v → fr'.vals.get t = some v) : Post ok ω H lo fr w ω' H' lo' fr'' a'.tmps w' :=
  ⟨h.evo, ⟨h.sr.wr, h.sr.fr.less hb hv⟩, fun b hx hl => h.box b ((boxOf_congr hb b).1 hx) hl⟩

theorem Act.put_size (a : Act) (d : Option Tmp) (x : Value) : (a.put d x).tmps.size = a.tmps.size := by cases d <;> simp [Act.put]
theorem Act.put_keeps (a : Act) (d : Option Tmp) (x : Value) : (a.put d x).defers = a.defers := by cases d <;> simp [Act.put]

theorem FR.put (h : FR ω H lo fr a.tmps w) {d : Option Tmp} {v : V} {x : Value} (hd : ∀ t, d = some t → t < a.tmps.size) (hv : SlotR ω lo v x) : FR ω H lo (fr.put d v) (a.put d x).tmps w := by
  cases d with
  | none => exact h
  | some t =>
    refine ⟨fun s u hs => ?_, h.boxes, h.inj⟩
    simp only [Fr.put, Al.get_put] at hs
    simp only [Act.put, Array.getD_eq_getD_getElem?, Array.getElem?_setIfInBounds]
    by_cases e : t = s
    · subst e
      simp only [if_true, Option.some.injEq] at hs
      subst hs
      simpa [hd t rfl] using hv
    · simp only [e, if_false] at hs ⊢
      simpa using h.vals s u hs
theorem Post.put {ω' : Om} {H' : Heap} {w' : World} {lo' : Nat → Option Nat} {fr' : Fr} {a' : Act} (h : Post ok ω H lo fr w ω' H' lo' fr' a'.tmps w') {d : Option Tmp} {v : V} {x : Value} (hd : ∀ t, d = some t → t < a'.tmps.size) (hv : SlotR ω' lo' v x) :
    Post ok ω H lo fr w ω' H' lo' (fr'.put d v) (a'.put d x).tmps w' :=
  ⟨h.evo, ⟨h.sr.wr, h.sr.fr.put hd hv⟩, fun b hx hl => h.box b ((boxOf_congr (by cases d <;> rfl) b).1 hx) hl⟩

theorem wants_ok (h : FR ω H lo fr a.tmps w) {ops : Array Oper} {o : Oper} {b : Bool} (hw : wants ops fr o = some b) : Region.wanted o (yielded ops a.tmps) = b := by
  unfold wants at hw
  unfold Region.wanted
  split at hw
  · rename_i hg
    simp only [hg]
    simpa using hw
  · rename_i j want hg
    simp only [hg]
    split at hw
    · rename_i t ht
      unfold yielded
      rw [ht]
      simp only [Option.bind_some]
      split at hw
      · rename_i c hc
        have := h.vals t _ hc
        simp only [SlotR, VR, Array.getD_eq_getD_getElem?] at this
        cases hx : a.tmps[t]? with
        | none => simp [hx, undef] at this
        | some y =>
          simp only [hx, Option.getD_some] at this
          subst this
          simp only [Option.some.injEq] at hw
          subst hw
          cases c <;> cases want <;> rfl
      · rename_i hc
        have := h.vals t _ hc
        simp only [SlotR, VR, Array.getD_eq_getD_getElem?] at this
        obtain ⟨vs, h1, _, h3⟩ := this
        simp only [Option.some.injEq] at hw
        subst hw
        cases hx : a.tmps[t]? with
        | none => simp
        | some y =>
          simp only [hx, Option.getD_some] at h3
          subst h3
          simp
      · cases hw
    · cases hw

theorem apply_value {f : Frame} {cs : List Frame} {s : Sem Next} {r : Next} {x : Value} {w' : World} (h : s.run P w = .ok r w') (hr : Res r x) :
    (stepG.apply P true f cs none s w).bare = .go { frame := f.finish x, callers := cs, status := .running, dying := none } w' := by
  rcases hr with rfl | ⟨rfl, rfl⟩ <;> simp [stepG.apply, Sem.runT_eq, h, GStep.bare_after]
theorem apply_enter {f : Frame} {cs : List Frame} {s : Sem Next} {g : FuncId} {args : Array Value} {w' : World} (h : s.run P w = .ok (.enter g args) w') (hk : ∀ d k b, f.todo ≠ .call d true k b :: f.todo.tail) :
    (stepG.apply P true f cs none s w).bare = .go { frame := Frame.enter P g args .normal, callers := f :: cs, status := .running, dying := none } w' := by
  simp only [stepG.apply, Sem.runT_eq, h, GStep.bare_after, if_true]
  simp only [GStep.bare_go, GStep.go.injEq, Goroutine.mk.injEq, and_true, true_and]
  congr 1
  split
  · rename_i d k b l hl
    exact absurd (by rw [hl]; rfl) (hk d k b)
  · rfl
theorem apply_round {f : Frame} {cs : List Frame} {s : Sem Next} {l : Nat} {g : FuncId} {tm : Array Value} {x y : Code} {w' : World} (h : s.run P w = .ok (.round l g tm x y) w') :
    (stepG.apply P true f cs none s w).bare = .go { frame := Frame.round l g tm x y .normal, callers := f :: cs, status := .running, dying := none } w' := by
  simp [stepG.apply, Sem.runT_eq, h, GStep.bare_after]

variable {ops : Array Oper} {b : Frame} {k : List Item} {cs : List Frame} {i : Nat} {rest : List Nat} {o : Oper}

theorem not_defer (h : ofFrame o = false) : ∀ c, o.op ≠ .defer c := by
  intro c hc
  simp [ofFrame, hc] at h
theorem op_step {n : Nat} (hE : EnvOk E P) (sr : SR ok ω H lo fr a.tmps w) (hn : a.tmps.size = n) (ho : ops[i]? = some o) (hok : okOper n o = true) (hw : wants ops fr o = some true) {fid : FuncId} {v : V} {fr' : Fr} {H' : Heap} (h : stepOp E fid fr H o = some (.val v fr' H')) :
    ∃ ω' lo' a' w', step P (lone (b.atR a (.inRegion ops (i :: rest) :: k)) cs w) = .next (lone (b.atR a' (.inRegion ops rest :: k)) cs w') ∧ a'.tmps.size = n ∧ a'.defers = a.defers ∧ Post ok ω H lo fr w ω' H' lo' (fr'.put o.dst v) a'.tmps w' := by
  simp only [okOper, Bool.and_eq_true, Bool.not_eq_true'] at hok
  obtain ⟨ω', lo', w', r, x, h1, h2, h3, h4⟩ := stepOp_sim hE sr h hok.2
  have hd : ∀ t, o.dst = some t → t < a.tmps.size := fun t ht => by
    have := hok.1
    rw [ht] at this
    simpa [hn] using this
  refine ⟨ω', lo', a.put o.dst x, w', ?_, by rw [Act.put_size, hn], Act.put_keeps _ _ _, h4.put (a' := a) hd h3⟩
  have hb : (ops[i]?).bind (·.dst) = o.dst := by rw [ho]; rfl
  rw [← hb, ← Frame.finish_atR]
  apply step_lone_go
  rw [stepGR_op ho (wants_ok sr.fr hw), Oper.semAt_eq _ _ _ (not_defer hok.2)]
  exact apply_value h1 h2
theorem op_skip {n : Nat} (sr : SR ok ω H lo fr a.tmps w) (hn : a.tmps.size = n) (ho : ops[i]? = some o) (hok : okOper n o = true) (hw : wants ops fr o = some false) :
    ∃ a', step P (lone (b.atR a (.inRegion ops (i :: rest) :: k)) cs w) = .next (lone (b.atR a' (.inRegion ops rest :: k)) cs w) ∧ a'.tmps.size = n ∧ a'.defers = a.defers ∧ Post ok ω H lo fr w ω H lo (fr.put o.dst (.tup [])) a'.tmps w := by
  simp only [okOper, Bool.and_eq_true, Bool.not_eq_true'] at hok
  have hd : ∀ t, o.dst = some t → t < a.tmps.size := fun t ht => by
    have := hok.1
    rw [ht] at this
    simpa [hn] using this
  have hb : (ops[i]?).bind (·.dst) = o.dst := by rw [ho]; rfl
  refine ⟨a.put o.dst undef, ?_, by rw [Act.put_size, hn], Act.put_keeps _ _ _, (Post.refl sr).put (a' := a) hd (.of_vr (by simp only [VR]; exact ⟨#[], rfl, by simp [VRs], rfl⟩))⟩
  rw [← hb]
  exact stepR_op_skip (by rw [ho]; exact wants_ok sr.fr hw)
end
end Go.Abs
namespace Go.Abs

def callSem (f : Value) (args : Array Value) : Sem Next := do let d ← Deferred.ofValue f args; invoke d.target d.args
def entered (P : Program) : Next → Option Frame
  | .enter g args => some (Frame.enter P g args .normal)
  | .round l g tm x y => some (Frame.round l g tm x y .normal)
  | _ => none
def doneAs (c : Frame) (ω : Om) : FRes → Frame → Prop
  | .ret v, f => ∃ x, VR ω v x ∧ f = c.finish x
  | .pan v, f => ∃ x, VR ω v x ∧ f = c.raise [{ v := x, recovered := false }]
def CallR (ok : FuncId → Nat → Code → Prop) (P : Program) (ω : Om) (H : Heap) (w : World) (s : Sem Next) (c : Frame) (cs : List Frame) (res : FRes) (H' : Heap) : Prop :=
  ∃ ω' w' nx f0 f1, Evo (fun _ => False) ω H w ω' H' w' ∧ WR ok ω' H' w' ∧ s.run P w = .ok nx w ∧ entered P nx = some f0 ∧ doneAs c ω' res f1 ∧ Steps P (lone f0 (c :: cs) w) (lone f1 cs w')
def CallsOk (ok : FuncId → Nat → Code → Prop) (P : Program) (r : Ev) : Prop :=
  ∀ f args H res rec H', r.call f args .no H = some (res, rec, H') → f.isLoc = false ∧ (∀ m x y, f ≠ .fn (.method m) x y) ∧ ∀ (ω : Om) (w : World) xf (xargs : Array Value) c cs, WR ok ω H w → VR ω f xf → args.length = xargs.size → VRs ω args xargs.toList → CallR ok P ω H w (callSem xf xargs) c cs res H'

section
variable {P : Program} {ω : Om} {E : Env} {ok : FuncId → Nat → Code → Prop} {H : Heap} {lo : Nat → Option Nat} {fr : Fr} {a : Act} {w : World}
variable {ops : Array Oper} {b : Frame} {k : List Item} {cs : List Frame} {i : Nat} {rest : List Nat} {o : Oper}

theorem apply_entered {f f0 : Frame} {cs : List Frame} {s : Sem Next} {nx : Next} {w' : World} (h : s.run P w = .ok nx w') (he : entered P nx = some f0) (hk : ∀ d k b, f.todo ≠ .call d true k b :: f.todo.tail) :
    (stepG.apply P true f cs none s w).bare = .go { frame := f0, callers := f :: cs, status := .running, dying := none } w' := by
  cases nx <;> simp only [entered, reduceCtorEq, Option.some.injEq] at he
  · subst he; exact apply_enter h hk
  · subst he; exact apply_round h

theorem callSem_value {f : Operand} {args : Array Operand} {ats : Array TypeId} {dst : Option Tmp} {type : TypeId} {pos : String} {after : Array Edge} {guard : Option (Nat × Bool)} (ρ : Operand → Value) :
    execOp ρ ⟨dst, .call ⟨.value f, args, ats⟩, type, pos, after, guard⟩ = callSem (ρ f) (args.map ρ) := by
  simp only [execOp, resolve, callSem]

theorem builtinV_go {b : Builtin} {ts : List TypeId} {vs : List V} {f : V} {args : List V} (h : builtinV E fr H b ts vs = some (.go f args)) : False := by
  unfold builtinV at h
  repeat' split at h
  all_goals first
    | cases h
    | (simp only [Option.map_eq_some_iff, reduceCtorEq, and_false, exists_false, Option.some.injEq] at h)
theorem newBox_go {fid : FuncId} {d : Option Tmp} {cs : List V} {f : V} {args : List V} (h : newBox E fid fr H d cs = some (.go f args)) : False := by
  unfold newBox at h
  repeat' split at h
  all_goals first
    | cases h
    | (simp only [Option.map_eq_some_iff, reduceCtorEq, and_false, exists_false, Option.some.injEq] at h)
theorem stepOp_go {fid : FuncId} {f : V} {args : List V} (h : stepOp E fid fr H o = some (.go f args)) (hm : ∀ m x y, f ≠ .fn (.method m) x y) : ∃ g xs ats, o.op = .call ⟨.value g, xs, ats⟩ ∧ fr.eval g = some f ∧ fr.evals xs.toList = some args ∧ noLoc args = true := by
  unfold stepOp at h
  split at h
  all_goals (repeat' split at h)
  all_goals first
    | cases h; done
    | (simp only [Option.map_eq_some_iff, reduceCtorEq, and_false, exists_false, Option.some.injEq] at h; done)
    | exact (newBox_go h).elim
    | exact (builtinV_go h).elim
    | skip
  · rename_i c heq _ g hg _ _ g1 vs h1 h2 hn
    simp only [Option.some.injEq, OR.go.injEq] at h
    obtain ⟨rfl, rfl⟩ := h
    refine ⟨g, c.args, c.argTypes, ?_, h1, h2, hn⟩
    rw [heq, ← hg]
  · simp only [Option.some.injEq, OR.go.injEq] at h
    exact absurd h.1.symm (hm _ _ _)

theorem call_step {n : Nat} {r : Ev} (hC : CallsOk ok P r) (sr : SR ok ω H lo fr a.tmps w) (hn : a.tmps.size = n) (ho : ops[i]? = some o) (hok : okOper n o = true) (hw : wants ops fr o = some true) {fid : FuncId} {f : V} {args : List V} (h : stepOp E fid fr H o = some (.go f args))
    {res : FRes} {rec : Bool} {H' : Heap} (hc : r.call f args .no H = some (res, rec, H')) :
    ∃ ω' w', match res with
    | .ret v => ∃ a', Steps P (lone (b.atR a (.inRegion ops (i :: rest) :: k)) cs w) (lone (b.atR a' (.inRegion ops rest :: k)) cs w') ∧ a'.tmps.size = n ∧ a'.defers = a.defers ∧ Post ok ω H lo fr w ω' H' lo (fr.put o.dst v) a'.tmps w'
    | .pan v => ∃ x, VR ω' v x ∧ Steps P (lone (b.atR a (.inRegion ops (i :: rest) :: k)) cs w) (lone { b.atR a (.inRegion ops (i :: rest) :: k) with mode := .panicking [{ v := x, recovered := false }] } cs w') ∧ Post ok ω H lo fr w ω' H' lo fr a.tmps w' := by
  obtain ⟨hfl, h2, h3⟩ := hC f args H res rec H' hc
  simp only [okOper, Bool.and_eq_true, Bool.not_eq_true'] at hok
  have hd : ∀ t, o.dst = some t → t < a.tmps.size := fun t ht => by
    have := hok.1
    rw [ht] at this
    simpa [hn] using this
  obtain ⟨g, xs, ats, h4, h5, h6, h7⟩ := stepOp_go h h2
  obtain ⟨g1, g2⟩ := evals_ok sr.fr h6 h7
  obtain ⟨ω', w', nx, f0, f1, k1, k2, k3, k4, k5, k6⟩ := h3 ω w (a.eval g) (xs.map a.eval) (b.atR a (.inRegion ops (i :: rest) :: k)) cs sr.wr ((eval_ok sr.fr h5).vr hfl) (by simpa using g1) (by simpa using g2)
  have hp := Post.heap sr k1 k2
  have h0 : step P (lone (b.atR a (.inRegion ops (i :: rest) :: k)) cs w) = .next (lone f0 (b.atR a (.inRegion ops (i :: rest) :: k) :: cs) w) := by
    apply step_lone_go
    rw [stepGR_op ho (wants_ok sr.fr hw), Oper.semAt_eq _ _ _ (not_defer hok.2)]
    refine apply_entered (nx := nx) ?_ k4 (fun d k b => by simp [Frame.atR])
    obtain ⟨dst, op, type, pos, after, guard⟩ := o
    simp only at h4
    subst h4
    rw [callSem_value]
    exact k3
  refine ⟨ω', w', ?_⟩
  cases res with
  | ret v =>
    obtain ⟨x, hx, rfl⟩ := k5
    have hb : (ops[i]?).bind (·.dst) = o.dst := by rw [ho]; rfl
    refine ⟨a.put o.dst x, ?_, by rw [Act.put_size, hn], Act.put_keeps _ _ _, hp.put (a' := a) hd (.of_vr hx)⟩
    rw [← hb, ← Frame.finish_atR]
    exact .head h0 k6
  | pan v =>
    obtain ⟨x, hx, rfl⟩ := k5
    exact ⟨x, hx, .head h0 k6, hp⟩
end
end Go.Abs
namespace Go.Abs

def markOf (r : Nat) : Deferred := { target := .collected r, args := #[] }
def DR (s : Nat) (ω : Om) (H : Heap) (lo : Nat → Option Nat) (fr : Fr) (ds : List Deferred) (w : World) : Prop :=
  ∃ rs : List Nat, ds = rs.map markOf ∧ rs.Nodup ∧ ∀ r ∈ rs, s ≤ r ∧ w.heap[r]? = some (.deferred (some [])) ∧ ¬ owns ω H r ∧ ω.ro r = none ∧ ¬ boxOf lo fr r

section
variable {P : Program} {ω : Om} {E : Env} {ok : FuncId → Nat → Code → Prop} {H : Heap} {lo : Nat → Option Nat} {fr : Fr} {a : Act} {w : World} {s : Nat} {ds : List Deferred}

theorem DR.nil : DR s ω H lo fr [] w := ⟨[], rfl, .nil, by simp⟩
theorem DR.post {ω' : Om} {H' : Heap} {lo' : Nat → Option Nat} {fr' : Fr} {tmps : Array Value} {w' : World} (h : DR s ω H lo fr ds w) (p : Post ok ω H lo fr w ω' H' lo' fr' tmps w') : DR s ω' H' lo' fr' ds w' := by
  obtain ⟨rs, h1, h2, h3⟩ := h
  refine ⟨rs, h1, h2, fun r hr => ?_⟩
  obtain ⟨g1, g2, g3, g4, g5⟩ := h3 r hr
  have hlt : r < w.heap.size := (Array.getElem?_eq_some_iff.1 g2).1
  refine ⟨g1, (p.evo.keep r hlt g3 g5).trans g2, fun ho => g3 (p.evo.own r ho hlt), ?_, fun hb => g5 (p.box r hb hlt)⟩
  cases hr' : ω'.ro r with
  | none => rfl
  | some o => rw [p.evo.rob r o hr' hlt] at g4; cases g4

theorem WR.touch (h : WR ok ω H w) {r : Nat} (o : Obj) (h1 : ¬ owns ω H r) (h2 : ω.ro r = none) : WR ok ω H (World.setMap w r o) where
  ro := fun b x hb => by
    have hne : r ≠ b := by rintro rfl; rw [h2] at hb; cases hb
    simp only [World.setMap, Array.getElem?_setIfInBounds, hne, if_false]
    exact h.ro b x hb
  obj := fun i x hi hl => by
    obtain ⟨bl, g1, g2⟩ := h.obj i x hi hl
    refine ⟨bl, g1, g2.mono (.refl ω) ?_⟩
    have hne : r ≠ bl.b := by rintro rfl; exact h1 ⟨i, x, bl, hi, hl, g1, rfl⟩
    simp only [World.setMap, Array.getElem?_setIfInBounds, hne, if_false]
  inj := h.inj
  sep := h.sep
  dom := h.dom
theorem FR.touch {tmps : Array Value} (h : FR ω H lo fr tmps w) {r : Nat} (o : Obj) (h1 : ¬ boxOf lo fr r) : FR ω H lo fr tmps (World.setMap w r o) where
  vals := h.vals
  boxes := fun t cs ht => by
    obtain ⟨b, cs', el, g1, g2, g3⟩ := h.boxes t cs ht
    have hne : r ≠ b := by rintro rfl; exact h1 ⟨t, by simp [ht], g1⟩
    refine ⟨b, cs', el, g1, ?_, g3⟩
    simp only [World.setMap, Array.getElem?_setIfInBounds, hne, if_false]
    exact g2
  inj := h.inj

theorem run_take {r : Nat} (h : w.heap[r]? = some (.deferred (some []))) : (Instr.takeDeferred r).run P w = .ok [] (World.setMap w r (.deferred none)) := by
  have h1 : (getObj r).run P w = .ok (.deferred (some [])) w := by simp [getObj, Sem.run, h]
  have h2 : ∀ o, (setObj r o).run P w = .ok () (World.setMap w r o) := by
    intro o
    simp only [setObj, Sem.run, h]
    rfl
  simp [Instr.takeDeferred, h1, h2]
theorem step_take {f : Frame} {cs : List Frame} {r : Nat} (hm : f.mode ≠ .run) (hd : f.defers = markOf r :: ds) (h : w.heap[r]? = some (.deferred (some []))) :
    step P (lone f cs w) = .next (lone { f with defers := ds } cs (World.setMap w r (.deferred none))) := by
  apply step_lone_go
  obtain ⟨fn, tmps, todo, defers, mode, kind, roundOf⟩ := f
  simp only at hm hd
  subst hd
  cases mode <;> first | exact absurd rfl hm | simp [stepG, unwind, markOf, Sem.runT_eq, run_take h, GStep.bare_after]

theorem unwind_marks {tmps : Array Value} {cs : List Frame} : ∀ (rs : List Nat) (f : Frame) (w : World), f.mode ≠ .run → f.defers = rs.map markOf → rs.Nodup → (∀ r ∈ rs, s ≤ r ∧ w.heap[r]? = some (.deferred (some [])) ∧ ¬ owns ω H r ∧ ω.ro r = none ∧ ¬ boxOf lo fr r) →
    WR ok ω H w → FR ω H lo fr tmps w →
    ∃ w', Steps P (lone f cs w) (lone { f with defers := [] } cs w') ∧ WR ok ω H w' ∧ FR ω H lo fr tmps w' ∧ w'.heap.size = w.heap.size ∧ (∀ b, b < s → w'.heap[b]? = w.heap[b]?) ∧ w'.tape = w.tape ∧ w'.os = w.os ∧ w'.output = w.output
  | [], f, w, _, hd, _, _, hw, hf => ⟨w, by
      have : ({ f with defers := [] } : Frame) = f := by rw [show ([] : List Deferred) = f.defers from hd.symm]
      rw [this]; exact .refl P _, hw, hf, rfl, fun _ _ => rfl, rfl, rfl, rfl⟩
  | r :: rs, f, w, hm, hd, hn, hr, hw, hf => by
    obtain ⟨g1, g2, g3, g4, g5⟩ := hr r (by simp)
    have hs := step_take (P := P) (cs := cs) hm (by simpa using hd) g2
    have hn' := List.nodup_cons.1 hn
    obtain ⟨w', k1, k2, k3, k4, k5, k6, k7, k8⟩ := unwind_marks (tmps := tmps) (cs := cs) rs { f with defers := rs.map markOf } (World.setMap w r (.deferred none)) hm rfl hn'.2 (fun q hq => by
      obtain ⟨j1, j2, j3⟩ := hr q (by simp [hq])
      have hne : r ≠ q := by rintro rfl; exact hn'.1 hq
      refine ⟨j1, ?_, j3⟩
      simp only [World.setMap, Array.getElem?_setIfInBounds, hne, if_false]
      exact j2) (hw.touch _ g3 g4) (hf.touch _ g5)
    refine ⟨w', .head hs k1, k2, k3, by simpa [World.setMap] using k4, fun b hb => ?_, k6, k7, k8⟩
    rw [k5 b hb]
    have hne : r ≠ b := by omega
    simp only [World.setMap, Array.getElem?_setIfInBounds, hne, if_false]

theorem result_ok (hE : EnvOk E P) (sr : SR ok ω H lo fr a.tmps w) {x : ResultVar} {v : V} (h : resultOf E fr H x = some v) (hl : v.isLoc = false) :
    ∃ z, (match x with | .tmp t => pure (a.tmps.getD t undef) | .cell p t => do loadVar t (← asAddr (a.tmps.getD p undef)) : Sem Value).run P w = .ok z w ∧ VR ω v z := by
  cases x with
  | tmp t =>
    simp only [resultOf] at h
    exact ⟨_, by simp, (sr.fr.vals t v h).vr hl⟩
  | cell p t =>
    simp only [resultOf] at h
    split at h
    · rename_i i q hi hq
      have hs := sr.fr.vals p q hq
      obtain ⟨z, h1, h2⟩ := load_ok hE sr hi hs h
      refine ⟨z, ?_, h2⟩
      simp only [readAt, Option.bind_eq_some_iff] at h
      obtain ⟨cs, hc, _⟩ := h
      obtain ⟨b, o, xs, hx, _⟩ := read_ok sr hs hc
      dsimp only
      rw [hx] at h1 ⊢
      simpa [Instr.loadAt, Instr.sureAddr, asAddr] using h1
    · cases h
theorem results_ok (hE : EnvOk E P) (sr : SR ok ω H lo fr a.tmps w) : ∀ {xs : List ResultVar} {vs : List V}, resultsOf E fr H xs = some vs → noLoc vs = true →
    ∃ zs : List Value, (xs.mapM fun x => (match x with | .tmp t => pure (a.tmps.getD t undef) | .cell p t => do loadVar t (← asAddr (a.tmps.getD p undef)) : Sem Value)).run P w = .ok zs w ∧ vs.length = zs.length ∧ VRs ω vs zs
  | [], vs, h, _ => by simp only [resultsOf, Option.some.injEq] at h; subst h; exact ⟨[], by simp, rfl, by simp [VRs]⟩
  | x :: xs, vs, h, hn => by
    simp only [resultsOf] at h
    split at h
    · rename_i v us h1 h2
      simp only [Option.some.injEq] at h
      subst h
      simp only [noLoc, List.all_cons, Bool.and_eq_true, Bool.not_eq_true'] at hn
      obtain ⟨z, g1, g2⟩ := result_ok hE sr h1 hn.1
      obtain ⟨zs, g3, g4, g5⟩ := results_ok hE sr h2 hn.2
      refine ⟨z :: zs, ?_, by simp [g4], by simp only [VRs]; exact ⟨z, zs, rfl, g2, g5⟩⟩
      simp only [List.mapM_cons, Sem.run_bind, g1, Result.andThen_ok, g3, Sem.run_pure]
    · cases h
theorem run_results (hE : EnvOk E P) (sr : SR ok ω H lo fr a.tmps w) {fn : Func} {vs : List V} (h : resultsOf E fr H fn.results.toList = some vs) (hn : noLoc vs = true) : ∃ z, (results fn a.tmps).run P w = .ok z w ∧ VR ω (packOf vs) z := by
  obtain ⟨zs, h1, h2, h3⟩ := results_ok hE sr h hn
  refine ⟨if h : zs.toArray.size = 1 then zs.toArray[0] else .tuple zs.toArray, ?_, ?_⟩
  · have h1' : (fn.results.mapM fun x => (match x with | .tmp t => pure (a.tmps.getD t undef) | .cell p t => do loadVar t (← asAddr (a.tmps.getD p undef)) : Sem Value)).run P w = .ok zs.toArray w := by
      rw [Array.mapM_eq_mapM_toList]
      have e : ∀ s : Sem (List Value), (List.toArray <$> s) = (s >>= fun l => pure l.toArray) := fun s => rfl
      rw [e, Sem.run_bind, h1, Result.andThen_ok, Sem.run_pure]
    show ((fn.results.mapM fun x => (match x with | .tmp t => pure (a.tmps.getD t undef) | .cell p t => do loadVar t (← asAddr (a.tmps.getD p undef)) : Sem Value)) >>= fun vs => pure (if h : vs.size = 1 then vs[0] else .tuple vs)).run P w = _
    rw [Sem.run_bind, h1', Result.andThen_ok, Sem.run_pure]
  · match vs, zs, h2, h3 with
    | [], [], _, _ => simp only [packOf, VR]; exact ⟨#[], rfl, by simp [VRs], rfl⟩
    | [v], [z], _, h3 =>
      simp only [VRs] at h3
      obtain ⟨c, l, e, hc, _⟩ := h3
      cases e
      simpa [packOf] using hc
    | v :: u :: vs, z :: y :: zs, h2, h3 => simp only [packOf, VR]; exact ⟨(z :: y :: zs).toArray, by simpa using h2, h3, by simp⟩
end
end Go.Abs
namespace Go.Abs

def edgesBack (i : Nat) : List Oper → Bool
  | [] => true
  | o :: r => (o.after.all fun e => !Region.binds .any e || decide (e.on < i)) && edgesBack (i + 1) r
def planOk (pl : List POp) : Bool :=
  let arr := pl.toArray
  let total := (pl.filter (·.act)).length
  (pl.zipIdx.all fun (p, _) => p.lo == 0 || p.o.after.any fun e => Region.binds .any e && match arr[e.on]? with | some q => if q.act then decide (p.lo ≤ q.lo + 1) else decide (p.lo ≤ q.lo) | none => false) &&
  (pl.zipIdx.all fun (p, j) => decide (total ≤ p.hi) || pl.zipIdx.any fun (q, i) => decide (j < i) && (q.o.after.any fun e => Region.binds .any e && e.on == j) && (if q.act then decide (q.lo ≤ p.hi) else decide (q.hi ≤ p.hi))) &&
  (pl.zipIdx.all fun (p, j) => !p.act || p.lo == ((pl.take j).filter (·.act)).length)
def tempsOk (ops : Array Oper) : Bool :=
  let b := Region.before ops
  ops.toList.zipIdx.all fun (o, j) => (ops.toList.take j).zipIdx.all fun (q, i) => q.apart ops o || (b.getD j 0).testBit i
def noBox (E : Env) (f : FuncId) (o : Oper) : Bool :=
  match o.op with
  | .alloc _ | .box .. => match o.dst with | some d => !E.isLocal f d | none => false
  | _ => true
def okDraw (E : Env) (f : FuncId) (ops : Array Oper) : Bool :=
  (plan (E.isBuf f) ops).length == ops.size && edgesBack 0 ops.toList && planOk (plan (E.isBuf f) ops) && tempsOk ops && ops.toList.all fun o => noBox E f o
def okCode (E : Env) (f : FuncId) (n : Nat) : Code → Bool
  | .seq a b => okCode E f n a && okCode E f n b
  | .cond _ a b => okCode E f n a && okCode E f n b
  | .block _ b => okCode E f n b
  | .loop b => okCode E f n b
  | .scope b => okCode E f n b
  | .rangeFunc _ ps a b => ps.all (· < n) && okCode E f n a && okCode E f n b
  | .region _ ops d => ops.all (okOper n) && (!d || okDraw E f ops)
  | _ => true

theorem okOper_mono {n m : Nat} (h : n ≤ m) {o : Oper} (ho : okOper n o = true) : okOper m o = true := by
  simp only [okOper, Bool.and_eq_true] at ho ⊢
  refine ⟨?_, ho.2⟩
  cases hd : o.dst with
  | none => rfl
  | some d =>
    have := ho.1
    simp only [hd, decide_eq_true_eq] at this ⊢
    exact Nat.lt_of_lt_of_le this h
theorem okCode_mono {E : Env} {f : FuncId} {n m : Nat} (h : n ≤ m) : ∀ {c : Code}, okCode E f n c = true → okCode E f m c = true
  | .seq a b, hc => by simp only [okCode, Bool.and_eq_true] at hc ⊢; exact ⟨okCode_mono h hc.1, okCode_mono h hc.2⟩
  | .cond _ a b, hc => by simp only [okCode, Bool.and_eq_true] at hc ⊢; exact ⟨okCode_mono h hc.1, okCode_mono h hc.2⟩
  | .block _ b, hc => by simp only [okCode] at hc ⊢; exact okCode_mono h hc
  | .loop b, hc => by simp only [okCode] at hc ⊢; exact okCode_mono h hc
  | .scope b, hc => by simp only [okCode] at hc ⊢; exact okCode_mono h hc
  | .rangeFunc _ ps a b, hc => by
    simp only [okCode, Bool.and_eq_true, Array.all_eq_true_iff_forall_mem, decide_eq_true_eq] at hc ⊢
    exact ⟨⟨fun x hx => Nat.lt_of_lt_of_le (hc.1.1 x hx) h, okCode_mono h hc.1.2⟩, okCode_mono h hc.2⟩
  | .region _ ops d, hc => by
    simp only [okCode, Bool.and_eq_true, Array.all_eq_true_iff_forall_mem] at hc ⊢
    exact ⟨fun o ho => okOper_mono h (hc.1 o ho), hc.2⟩
  | .skip, _ | .exit _, _ | .label _, _ | .goto _, _ | .ret, _ | .refuse _, _ => rfl

structure RunOk (E : Env) (P : Program) : Prop extends EnvOk E P where
  code : ∀ f fn, E.fn f = some fn → ∃ c, fn.body = some c ∧ okCode E f fn.ntmps c = true ∧ (fn.name == "runtime.NumGoroutine") = false
  mixed : P.follows .mixedOrders = true
def okP (E : Env) (P : Program) (f : FuncId) (n : Nat) (c : Code) : Prop := (∃ fn, P.funcs[f]? = some fn) ∧ okCode E f n c = true

section
variable {E : Env} {H H' : Heap} {fr fr' : Fr} {o : Oper} {v : V}

theorem writeAt_keeps {p : V} {cs : List V} {r : Fr × Heap} (h : writeAt fr H p cs = some r) : r.1.defers = fr.defers ∧ r.1.rc = fr.rc ∧ r.1.vals = fr.vals := by
  unfold writeAt at h
  repeat' split at h
  all_goals first
    | cases h; done
    | (simp only [Option.map_eq_some_iff] at h; obtain ⟨_, _, rfl⟩ := h; exact ⟨rfl, rfl, rfl⟩)
    | (simp only [Option.some.injEq] at h; subst h; exact ⟨rfl, rfl, rfl⟩)
theorem newBox_keeps {fid : FuncId} {d : Option Tmp} {cs : List V} (h : newBox E fid fr H d cs = some (.val v fr' H')) : fr'.defers = fr.defers ∧ fr'.rc = fr.rc := by
  unfold newBox at h
  repeat' split at h
  all_goals first
    | cases h; done
    | (simp only [Option.some.injEq, OR.val.injEq] at h; obtain ⟨_, rfl, _⟩ := h; exact ⟨rfl, rfl⟩)
theorem builtinV_keeps {b : Builtin} {ts : List TypeId} {vs : List V} (hb : b ≠ .recover) (h : builtinV E fr H b ts vs = some (.val v fr' H')) : fr'.defers = fr.defers ∧ fr'.rc = fr.rc := by
  unfold builtinV at h
  repeat' split at h
  all_goals first
    | cases h; done
    | exact absurd rfl hb
    | (simp only [Option.some.injEq, OR.val.injEq] at h; obtain ⟨_, rfl, _⟩ := h; exact ⟨rfl, rfl⟩)
    | (simp only [Option.map_eq_some_iff, OR.val.injEq] at h; obtain ⟨_, hw, _, rfl, _⟩ := h; first | exact ⟨rfl, rfl⟩ | exact ⟨(writeAt_keeps hw).1, (writeAt_keeps hw).2.1⟩)
theorem stepOp_keeps {fid : FuncId} (hf : ofFrame o = false) (h : stepOp E fid fr H o = some (.val v fr' H')) : fr'.defers = fr.defers ∧ fr'.rc = fr.rc := by
  unfold stepOp at h
  split at h
  all_goals (repeat' split at h)
  all_goals first
    | cases h; done
    | exact newBox_keeps h
    | (simp only [Option.some.injEq, OR.val.injEq] at h; obtain ⟨_, rfl, _⟩ := h; exact ⟨rfl, rfl⟩)
    | (simp only [Option.map_eq_some_iff, OR.val.injEq] at h; obtain ⟨_, hw, _, rfl, _⟩ := h; first | exact ⟨rfl, rfl⟩ | exact ⟨(writeAt_keeps hw).1, (writeAt_keeps hw).2.1⟩)
    | skip
  · rename_i c heq _ b hb _ _ _ _
    exact builtinV_keeps (by rintro rfl; simp [ofFrame, heq, hb] at hf) h
  · rename_i c heq _ _ _ _ _ _ _ _ _ _ _ _
    simp [ofFrame, heq] at hf
end
end Go.Abs
set_option linter.unusedSimpArgs false
namespace Go.Abs
section
variable {E : Env} {fid : FuncId} {frA frB : Fr} {H HA HB : Heap} {o : Oper}

def OR.onto (g : Fr) : OR → OR
  | .val v f h => .val v { g with boxes := f.boxes } h
  | x => x
def OR.into (g : Fr) (h : Heap) : OR → OR
  | .val v _ _ => .val v g h
  | x => x

theorem evals_congr : ∀ {xs : List Operand}, (∀ x ∈ xs, frA.eval x = frB.eval x) → frA.evals xs = frB.evals xs
  | [], _ => rfl
  | x :: xs, h => by simp only [Fr.evals, h x (by simp), evals_congr (xs := xs) fun y hy => h y (by simp [hy])]
theorem evalParts_congr : ∀ {xs : List (Nat × Operand)}, (∀ x ∈ xs, frA.eval x.2 = frB.eval x.2) → evalParts frA xs = evalParts frB xs
  | [], _ => rfl
  | (i, x) :: xs, h => by simp only [evalParts, h (i, x) (by simp), evalParts_congr (xs := xs) fun y hy => h y (by simp [hy])]
theorem opt_congr {x : Option Operand} (h : ∀ y, x = some y → frA.eval y = frB.eval y) : opt frA x = opt frB x := by
  cases x with
  | none => rfl
  | some y => simp only [opt, h y rfl]
theorem readCells_congr (hb : frA.boxes = frB.boxes) (p : V) (n : Nat) : readCells frB H p n = readCells frA H p n := by
  unfold readCells
  rw [hb]
theorem readAt_congr (hb : frA.boxes = frB.boxes) (i : TInfo) (p : V) : readAt frB H i p = readAt frA H i p := by
  simp only [readAt, readCells_congr hb]
theorem writeAt_congr (hb : frA.boxes = frB.boxes) (p : V) (cs : List V) : writeAt frB H p cs = (writeAt frA H p cs).map fun r => ({ frB with boxes := r.1.boxes }, r.2) := by
  unfold writeAt
  rw [← hb]
  have e : ({ frB with boxes := frA.boxes } : Fr) = frB := by rw [hb]
  cases p <;> try rfl
  · simp only
    split
    · simp only [Option.map_map]; rfl
    · rfl
  · simp only
    split
    · simp only [Option.map_map]
      congr 1
      funext new
      simp only [Function.comp, e]
    · rfl
theorem boxes_eta (hb : frA.boxes = frB.boxes) : ({ frB with boxes := frA.boxes } : Fr) = frB := by rw [hb]
theorem builtinV_congr {b : Builtin} {ts : List TypeId} {vs : List V} (hr : b ≠ .recover) (hb : frA.boxes = frB.boxes) : builtinV E frB H b ts vs = (builtinV E frA H b ts vs).map (OR.onto frB) := by
  have e := boxes_eta hb
  unfold builtinV
  split <;> try rfl
  all_goals try (exact absurd rfl hr)
  all_goals try simp only [copyV, writeAt_congr hb]
  all_goals (repeat' split)
  all_goals first
    | rfl
    | (simp only [Option.map_map, Option.map_some, Option.map_none, OR.onto, e]; done)
    | (simp only [Option.map_map, Option.map_some, Option.map_none, OR.onto, e]; congr 1; funext x; simp only [Function.comp, OR.onto, e]; done)
    | skip
theorem newBox_congr {dst : Option Tmp} {cs : List V} (hx : ∀ d, dst = some d → E.isLocal fid d = false) (hb : frA.boxes = frB.boxes) : newBox E fid frB H dst cs = (newBox E fid frA H dst cs).map (OR.onto frB) := by
  have e := boxes_eta hb
  unfold newBox
  cases dst with
  | none => split <;> rfl
  | some d =>
    simp only [hx d rfl, Bool.false_eq_true, if_false]
    split
    · simp only [Option.map_some, OR.onto, e]
    · rfl
theorem stepOp_congr (hof : ofFrame o = false) (hx : noBox E fid o = true) (hb : frA.boxes = frB.boxes) (h : ∀ x ∈ o.op.operands, frA.eval x = frB.eval x) : stepOp E fid frB H o = (stepOp E fid frA H o).map (OR.onto frB) := by
  have e := boxes_eta hb
  have hev : ∀ xs : Array Operand, (∀ x ∈ xs, x ∈ o.op.operands) → frA.evals xs.toList = frB.evals xs.toList := fun xs hxs => evals_congr fun x hx => h x (hxs x (by simpa using hx))
  have hpt : ∀ xs : Array (Nat × Operand), (∀ x ∈ xs, x.2 ∈ o.op.operands) → evalParts frA xs.toList = evalParts frB xs.toList := fun xs hxs => evalParts_congr fun x hx => h x.2 (hxs x (by simpa using hx))
  obtain ⟨dst, op, type, pos, after, guard⟩ := o
  cases op with
  | move x =>
    simp only [stepOp, h x (by simp [Op.operands])]
    (repeat' split) <;> first
      | rfl
      | (simp only [Option.map_map, Option.map_some, Option.map_none, OR.onto, e]; done)
      | (simp only [Option.map_map]; congr 1; done)
      | (simp only [Option.map_map]; congr 1; funext v; simp only [Function.comp, OR.onto, e]; done)
  | assign x =>
    simp only [stepOp, h x (by simp [Op.operands])]
    (repeat' split) <;> first
      | rfl
      | (simp only [Option.map_map, Option.map_some, Option.map_none, OR.onto, e]; done)
      | (simp only [Option.map_map]; congr 1; done)
      | (simp only [Option.map_map]; congr 1; funext v; simp only [Function.comp, OR.onto, e]; done)
  | pick c x y =>
    simp only [stepOp, h c (by simp [Op.operands]), h x (by simp [Op.operands]), h y (by simp [Op.operands])]
    (repeat' split) <;> first
      | rfl
      | (simp only [Option.map_map, Option.map_some, Option.map_none, OR.onto, e]; done)
      | (simp only [Option.map_map]; congr 1; done)
      | (simp only [Option.map_map]; congr 1; funext v; simp only [Function.comp, OR.onto, e]; done)
  | alloc t =>
    simp only [stepOp]
    split
    · exact newBox_congr (fun d hd => by subst hd; simpa [noBox] using hx) hb
    · rfl
  | box t x =>
    simp only [stepOp, h x (by simp [Op.operands])]
    split
    · exact newBox_congr (fun d hd => by subst hd; simpa [noBox] using hx) hb
    · rfl
  | build t ps =>
    simp only [stepOp, hpt ps (by intro x hx; simp only [Op.operands, List.mem_toArray, List.mem_map]; exact ⟨x, by simpa using hx, rfl⟩)]
    (repeat' split) <;> first
      | rfl
      | (simp only [Option.map_map, Option.map_some, Option.map_none, OR.onto, e]; done)
      | (simp only [Option.map_map]; congr 1; done)
      | (simp only [Option.map_map]; congr 1; funext v; simp only [Function.comp, OR.onto, e]; done)
  | buildSlice t n ps =>
    simp only [stepOp, hpt ps (by intro x hx; simp only [Op.operands, List.mem_toArray, List.mem_map]; exact ⟨x, by simpa using hx, rfl⟩)]
    (repeat' split) <;> first
      | rfl
      | (simp only [Option.map_map, Option.map_some, Option.map_none, OR.onto, e]; done)
      | (simp only [Option.map_map]; congr 1; done)
      | (simp only [Option.map_map]; congr 1; funext v; simp only [Function.comp, OR.onto, e]; done)
  | load t x =>
    simp only [stepOp, h x (by simp [Op.operands]), readAt_congr hb]
    (repeat' split) <;> first
      | rfl
      | (simp only [Option.map_map, Option.map_some, Option.map_none, OR.onto, e]; done)
      | (simp only [Option.map_map]; congr 1; done)
      | (simp only [Option.map_map]; congr 1; funext v; simp only [Function.comp, OR.onto, e]; done)
  | store t x y =>
    simp only [stepOp, h x (by simp [Op.operands]), h y (by simp [Op.operands]), writeAt_congr hb]
    (repeat' split) <;> first
      | rfl
      | (simp only [Option.map_map, Option.map_some, Option.map_none, OR.onto, e]; done)
      | (simp only [Option.map_map]; congr 1; done)
      | (simp only [Option.map_map]; congr 1; funext v; simp only [Function.comp, OR.onto, e]; done)
  | nilCheck x =>
    simp only [stepOp, h x (by simp [Op.operands])]
    (repeat' split) <;> first
      | rfl
      | (simp only [Option.map_map, Option.map_some, Option.map_none, OR.onto, e]; done)
      | (simp only [Option.map_map]; congr 1; done)
      | (simp only [Option.map_map]; congr 1; funext v; simp only [Function.comp, OR.onto, e]; done)
  | binOp op t x y yt =>
    simp only [stepOp, h x (by simp [Op.operands]), h y (by simp [Op.operands])]
    (repeat' split) <;> first
      | rfl
      | (simp only [Option.map_map, Option.map_some, Option.map_none, OR.onto, e]; done)
      | (simp only [Option.map_map]; congr 1; done)
      | (simp only [Option.map_map]; congr 1; funext v; simp only [Function.comp, OR.onto, e]; done)
  | unOp op t x =>
    simp only [stepOp, h x (by simp [Op.operands])]
    (repeat' split) <;> first
      | rfl
      | (simp only [Option.map_map, Option.map_some, Option.map_none, OR.onto, e]; done)
      | (simp only [Option.map_map]; congr 1; done)
      | (simp only [Option.map_map]; congr 1; funext v; simp only [Function.comp, OR.onto, e]; done)
  | convert s d x =>
    simp only [stepOp, h x (by simp [Op.operands])]
    (repeat' split) <;> first
      | rfl
      | (simp only [Option.map_map, Option.map_some, Option.map_none, OR.onto, e]; done)
      | (simp only [Option.map_map]; congr 1; done)
      | (simp only [Option.map_map]; congr 1; funext v; simp only [Function.comp, OR.onto, e]; done)
  | makeInterface t x =>
    simp only [stepOp, h x (by simp [Op.operands])]
    (repeat' split) <;> first
      | rfl
      | (simp only [Option.map_map, Option.map_some, Option.map_none, OR.onto, e]; done)
      | (simp only [Option.map_map]; congr 1; done)
      | (simp only [Option.map_map]; congr 1; funext v; simp only [Function.comp, OR.onto, e]; done)
  | makeFunc f x y =>
    simp only [stepOp, hev x (by intro z hz; simp [Op.operands, hz]), hev y (by intro z hz; simp [Op.operands, hz])]
    (repeat' split) <;> first
      | rfl
      | (simp only [Option.map_map, Option.map_some, Option.map_none, OR.onto, e]; done)
      | (simp only [Option.map_map]; congr 1; done)
      | (simp only [Option.map_map]; congr 1; funext v; simp only [Function.comp, OR.onto, e]; done)
  | makeSlice t l c =>
    simp only [stepOp, h l (by simp [Op.operands]), h c (by simp [Op.operands])]
    (repeat' split) <;> first
      | rfl
      | (simp only [Option.map_map, Option.map_some, Option.map_none, OR.onto, e]; done)
      | (simp only [Option.map_map]; congr 1; done)
      | (simp only [Option.map_map]; congr 1; funext v; simp only [Function.comp, OR.onto, e]; done)
  | slice t x l u m =>
    simp only [stepOp, h x (by simp [Op.operands]), opt_congr (x := l) (fun y hy => h y (by simp [Op.operands, hy])), opt_congr (x := u) (fun y hy => h y (by simp [Op.operands, hy])), opt_congr (x := m) (fun y hy => h y (by simp [Op.operands, hy]))]
    (repeat' split) <;> first
      | rfl
      | (simp only [Option.map_map, Option.map_some, Option.map_none, OR.onto, e]; done)
      | (simp only [Option.map_map]; congr 1; done)
      | (simp only [Option.map_map]; congr 1; funext v; simp only [Function.comp, OR.onto, e]; done)
  | fieldAddr t x f =>
    simp only [stepOp, h x (by simp [Op.operands])]
    (repeat' split) <;> first
      | rfl
      | (simp only [Option.map_map, Option.map_some, Option.map_none, OR.onto, e]; done)
      | (simp only [Option.map_map]; congr 1; done)
      | (simp only [Option.map_map]; congr 1; funext v; simp only [Function.comp, OR.onto, e]; done)
  | field t x f =>
    simp only [stepOp, h x (by simp [Op.operands])]
    (repeat' split) <;> first
      | rfl
      | (simp only [Option.map_map, Option.map_some, Option.map_none, OR.onto, e]; done)
      | (simp only [Option.map_map]; congr 1; done)
      | (simp only [Option.map_map]; congr 1; funext v; simp only [Function.comp, OR.onto, e]; done)
  | indexAddr t x i =>
    simp only [stepOp, h x (by simp [Op.operands]), h i (by simp [Op.operands])]
    (repeat' split) <;> first
      | rfl
      | (simp only [Option.map_map, Option.map_some, Option.map_none, OR.onto, e]; done)
      | (simp only [Option.map_map]; congr 1; done)
      | (simp only [Option.map_map]; congr 1; funext v; simp only [Function.comp, OR.onto, e]; done)
  | index t x i =>
    simp only [stepOp, h x (by simp [Op.operands]), h i (by simp [Op.operands])]
    (repeat' split) <;> first
      | rfl
      | (simp only [Option.map_map, Option.map_some, Option.map_none, OR.onto, e]; done)
      | (simp only [Option.map_map]; congr 1; done)
      | (simp only [Option.map_map]; congr 1; funext v; simp only [Function.comp, OR.onto, e]; done)
  | lookup t m k c =>
    simp only [stepOp, h m (by simp [Op.operands]), h k (by simp [Op.operands])]
    (repeat' split) <;> first
      | rfl
      | (simp only [Option.map_map, Option.map_some, Option.map_none, OR.onto, e]; done)
      | (simp only [Option.map_map]; congr 1; done)
      | (simp only [Option.map_map]; congr 1; funext v; simp only [Function.comp, OR.onto, e]; done)
  | mapUpdate t m k x =>
    simp only [stepOp, h m (by simp [Op.operands]), h k (by simp [Op.operands]), h x (by simp [Op.operands])]
    (repeat' split) <;> first
      | rfl
      | (simp only [Option.map_map, Option.map_some, Option.map_none, OR.onto, e]; done)
      | (simp only [Option.map_map]; congr 1; done)
      | (simp only [Option.map_map]; congr 1; funext v; simp only [Function.comp, OR.onto, e]; done)
  | insert t m k x =>
    simp only [stepOp, h m (by simp [Op.operands]), h k (by simp [Op.operands]), h x (by simp [Op.operands])]
    (repeat' split) <;> first
      | rfl
      | (simp only [Option.map_map, Option.map_some, Option.map_none, OR.onto, e]; done)
      | (simp only [Option.map_map]; congr 1; done)
      | (simp only [Option.map_map]; congr 1; funext v; simp only [Function.comp, OR.onto, e]; done)
  | mapEntry t m k =>
    simp only [stepOp, h m (by simp [Op.operands]), h k (by simp [Op.operands])]
    (repeat' split) <;> first
      | rfl
      | (simp only [Option.map_map, Option.map_some, Option.map_none, OR.onto, e]; done)
      | (simp only [Option.map_map]; congr 1; done)
      | (simp only [Option.map_map]; congr 1; funext v; simp only [Function.comp, OR.onto, e]; done)
  | entryStore t m st x =>
    simp only [stepOp, h m (by simp [Op.operands]), h st (by simp [Op.operands]), h x (by simp [Op.operands])]
    (repeat' split) <;> first
      | rfl
      | (simp only [Option.map_map, Option.map_some, Option.map_none, OR.onto, e]; done)
      | (simp only [Option.map_map]; congr 1; done)
      | (simp only [Option.map_map]; congr 1; funext v; simp only [Function.comp, OR.onto, e]; done)
  | range t x =>
    simp only [stepOp, h x (by simp [Op.operands])]
    (repeat' split) <;> first
      | rfl
      | (simp only [Option.map_map, Option.map_some, Option.map_none, OR.onto, e]; done)
      | (simp only [Option.map_map]; congr 1; done)
      | (simp only [Option.map_map]; congr 1; funext v; simp only [Function.comp, OR.onto, e]; done)
  | extract x i =>
    simp only [stepOp, h x (by simp [Op.operands])]
    (repeat' split) <;> first
      | rfl
      | (simp only [Option.map_map, Option.map_some, Option.map_none, OR.onto, e]; done)
      | (simp only [Option.map_map]; congr 1; done)
      | (simp only [Option.map_map]; congr 1; funext v; simp only [Function.comp, OR.onto, e]; done)
  | typeAssert x xt t c =>
    simp only [stepOp, h x (by simp [Op.operands])]
    (repeat' split) <;> first
      | rfl
      | (simp only [Option.map_map, Option.map_some, Option.map_none, OR.onto, e]; done)
      | (simp only [Option.map_map]; congr 1; done)
      | (simp only [Option.map_map]; congr 1; funext v; simp only [Function.comp, OR.onto, e]; done)
  | panic x =>
    simp only [stepOp, h x (by simp [Op.operands])]
    (repeat' split) <;> first
      | rfl
      | (simp only [Option.map_map, Option.map_some, Option.map_none, OR.onto, e]; done)
      | (simp only [Option.map_map]; congr 1; done)
      | (simp only [Option.map_map]; congr 1; funext v; simp only [Function.comp, OR.onto, e]; done)
  | makeMap t x =>
    cases x with
    | none => simp only [stepOp, Option.map_some, OR.onto, e]
    | some x =>
      simp only [stepOp, h x (by simp [Op.operands])]
      (repeat' split) <;> first
        | rfl
        | (simp only [Option.map_some, OR.onto, e]; done)
  | next x c =>
    cases c with
    | false => rfl
    | true =>
      simp only [stepOp, h x (by simp [Op.operands])]
      (repeat' split) <;> first
        | rfl
        | (simp only [Option.map_some, OR.onto, e]; done)
  | call c =>
    obtain ⟨callee, args, ats⟩ := c
    cases callee with
    | value f =>
      simp only [stepOp, h f (by simp [Op.operands, Call.operands]), hev args (by intro z hz; simp [Op.operands, Call.operands, hz])]
      (repeat' split) <;> rfl
    | invoke x m =>
      simp only [stepOp, h x (by simp [Op.operands, Call.operands]), hev args (by intro z hz; simp [Op.operands, Call.operands, hz])]
      (repeat' split) <;> rfl
    | builtin b =>
      have hb' : b ≠ .recover := by rintro rfl; simp [ofFrame] at hof
      simp only [stepOp, hev args (by intro z hz; simp [Op.operands, Call.operands, hz])]
      (repeat' split) <;> first
        | rfl
        | exact builtinV_congr hb' hb
  | defer c => simp [ofFrame] at hof
  | _ => rfl
theorem stepOp_pure (hof : ofFrame o = false) (ha : acts (E.isBuf fid) o = false) (hr : reads o = false) (h : ∀ x ∈ o.op.operands, frA.eval x = frB.eval x) : stepOp E fid frB HB o = (stepOp E fid frA HA o).map (OR.into frB HB) := by
  have hev : ∀ xs : Array Operand, (∀ x ∈ xs, x ∈ o.op.operands) → frA.evals xs.toList = frB.evals xs.toList := fun xs hxs => evals_congr fun x hx => h x (hxs x (by simpa using hx))
  have hpt : ∀ xs : Array (Nat × Operand), (∀ x ∈ xs, x.2 ∈ o.op.operands) → evalParts frA xs.toList = evalParts frB xs.toList := fun xs hxs => evalParts_congr fun x hx => h x.2 (hxs x (by simpa using hx))
  obtain ⟨dst, op, type, pos, after, guard⟩ := o
  cases op with
  | move x =>
    simp only [stepOp, h x (by simp [Op.operands])]
    (repeat' split) <;> first
      | rfl
      | (simp only [Option.map_map, Option.map_some, Option.map_none, OR.into]; done)
      | (simp only [Option.map_map]; congr 1; done)
      | (simp only [Option.map_map]; congr 1; funext v; simp only [Function.comp, OR.into]; done)
  | assign x =>
    simp only [stepOp, h x (by simp [Op.operands])]
    (repeat' split) <;> first
      | rfl
      | (simp only [Option.map_map, Option.map_some, Option.map_none, OR.into]; done)
      | (simp only [Option.map_map]; congr 1; done)
      | (simp only [Option.map_map]; congr 1; funext v; simp only [Function.comp, OR.into]; done)
  | pick c x y =>
    simp only [stepOp, h c (by simp [Op.operands]), h x (by simp [Op.operands]), h y (by simp [Op.operands])]
    (repeat' split) <;> first
      | rfl
      | (simp only [Option.map_map, Option.map_some, Option.map_none, OR.into]; done)
      | (simp only [Option.map_map]; congr 1; done)
      | (simp only [Option.map_map]; congr 1; funext v; simp only [Function.comp, OR.into]; done)
  | alloc t => simp [acts] at ha
  | box t x => simp [acts] at ha
  | build t ps =>
    simp only [stepOp, hpt ps (by intro x hx; simp only [Op.operands, List.mem_toArray, List.mem_map]; exact ⟨x, by simpa using hx, rfl⟩)]
    (repeat' split) <;> first
      | rfl
      | (simp only [Option.map_map, Option.map_some, Option.map_none, OR.into]; done)
      | (simp only [Option.map_map]; congr 1; done)
      | (simp only [Option.map_map]; congr 1; funext v; simp only [Function.comp, OR.into]; done)
  | buildSlice t n ps =>
    simp only [stepOp, hpt ps (by intro x hx; simp only [Op.operands, List.mem_toArray, List.mem_map]; exact ⟨x, by simpa using hx, rfl⟩)]
    cases dst with
    | none => simp [acts] at ha
    | some d =>
      simp only [acts] at ha
      simp only [ha, Bool.false_eq_true, if_false]
      (repeat' split) <;> first
        | rfl
        | (simp only [Option.map_map, Option.map_some, Option.map_none, OR.into]; done)
        | (simp only [Option.map_map]; congr 1; done)
        | (simp only [Option.map_map]; congr 1; funext v; simp only [Function.comp, OR.into]; done)
  | load t x => simp [reads] at hr
  | store t x y => simp [acts] at ha
  | nilCheck x =>
    simp only [stepOp, h x (by simp [Op.operands])]
    (repeat' split) <;> first
      | rfl
      | (simp only [Option.map_map, Option.map_some, Option.map_none, OR.into]; done)
      | (simp only [Option.map_map]; congr 1; done)
      | (simp only [Option.map_map]; congr 1; funext v; simp only [Function.comp, OR.into]; done)
  | binOp op t x y yt =>
    simp only [stepOp, h x (by simp [Op.operands]), h y (by simp [Op.operands])]
    (repeat' split) <;> first
      | rfl
      | (simp only [Option.map_map, Option.map_some, Option.map_none, OR.into]; done)
      | (simp only [Option.map_map]; congr 1; done)
      | (simp only [Option.map_map]; congr 1; funext v; simp only [Function.comp, OR.into]; done)
  | unOp op t x =>
    simp only [stepOp, h x (by simp [Op.operands])]
    (repeat' split) <;> first
      | rfl
      | (simp only [Option.map_map, Option.map_some, Option.map_none, OR.into]; done)
      | (simp only [Option.map_map]; congr 1; done)
      | (simp only [Option.map_map]; congr 1; funext v; simp only [Function.comp, OR.into]; done)
  | convert s d x =>
    simp only [stepOp, h x (by simp [Op.operands])]
    (repeat' split) <;> first
      | rfl
      | (simp only [Option.map_map, Option.map_some, Option.map_none, OR.into]; done)
      | (simp only [Option.map_map]; congr 1; done)
      | (simp only [Option.map_map]; congr 1; funext v; simp only [Function.comp, OR.into]; done)
  | makeInterface t x =>
    simp only [stepOp, h x (by simp [Op.operands])]
    (repeat' split) <;> first
      | rfl
      | (simp only [Option.map_map, Option.map_some, Option.map_none, OR.into]; done)
      | (simp only [Option.map_map]; congr 1; done)
      | (simp only [Option.map_map]; congr 1; funext v; simp only [Function.comp, OR.into]; done)
  | makeFunc f x y =>
    simp only [stepOp, hev x (by intro z hz; simp [Op.operands, hz]), hev y (by intro z hz; simp [Op.operands, hz])]
    (repeat' split) <;> first
      | rfl
      | (simp only [Option.map_map, Option.map_some, Option.map_none, OR.into]; done)
      | (simp only [Option.map_map]; congr 1; done)
      | (simp only [Option.map_map]; congr 1; funext v; simp only [Function.comp, OR.into]; done)
  | makeSlice t l c => simp [acts] at ha
  | slice t x l u m => simp [reads] at hr
  | fieldAddr t x f =>
    simp only [stepOp, h x (by simp [Op.operands])]
    (repeat' split) <;> first
      | rfl
      | (simp only [Option.map_map, Option.map_some, Option.map_none, OR.into]; done)
      | (simp only [Option.map_map]; congr 1; done)
      | (simp only [Option.map_map]; congr 1; funext v; simp only [Function.comp, OR.into]; done)
  | field t x f =>
    simp only [stepOp, h x (by simp [Op.operands])]
    (repeat' split) <;> first
      | rfl
      | (simp only [Option.map_map, Option.map_some, Option.map_none, OR.into]; done)
      | (simp only [Option.map_map]; congr 1; done)
      | (simp only [Option.map_map]; congr 1; funext v; simp only [Function.comp, OR.into]; done)
  | indexAddr t x i =>
    simp only [stepOp, h x (by simp [Op.operands]), h i (by simp [Op.operands])]
    (repeat' split) <;> first
      | rfl
      | (simp only [Option.map_map, Option.map_some, Option.map_none, OR.into]; done)
      | (simp only [Option.map_map]; congr 1; done)
      | (simp only [Option.map_map]; congr 1; funext v; simp only [Function.comp, OR.into]; done)
  | index t x i =>
    simp only [stepOp, h x (by simp [Op.operands]), h i (by simp [Op.operands])]
    (repeat' split) <;> first
      | rfl
      | (simp only [Option.map_map, Option.map_some, Option.map_none, OR.into]; done)
      | (simp only [Option.map_map]; congr 1; done)
      | (simp only [Option.map_map]; congr 1; funext v; simp only [Function.comp, OR.into]; done)
  | lookup t m k c => simp [reads] at hr
  | mapUpdate t m k x => simp [acts] at ha
  | insert t m k x => simp [acts] at ha
  | mapEntry t m k => simp [acts] at ha
  | entryStore t m st x => simp [acts] at ha
  | range t x => simp [acts] at ha
  | extract x i =>
    simp only [stepOp, h x (by simp [Op.operands])]
    (repeat' split) <;> first
      | rfl
      | (simp only [Option.map_map, Option.map_some, Option.map_none, OR.into]; done)
      | (simp only [Option.map_map]; congr 1; done)
      | (simp only [Option.map_map]; congr 1; funext v; simp only [Function.comp, OR.into]; done)
  | typeAssert x xt t c =>
    simp only [stepOp, h x (by simp [Op.operands])]
    (repeat' split) <;> first
      | rfl
      | (simp only [Option.map_map, Option.map_some, Option.map_none, OR.into]; done)
      | (simp only [Option.map_map]; congr 1; done)
      | (simp only [Option.map_map]; congr 1; funext v; simp only [Function.comp, OR.into]; done)
  | panic x => simp [acts] at ha
  | makeMap t x => simp [acts] at ha
  | next x c => simp [acts] at ha
  | call c =>
    obtain ⟨callee, args, ats⟩ := c
    cases callee with
    | value f => simp [acts] at ha
    | invoke x m => simp [acts] at ha
    | builtin b =>
      have hb : b = .max ∨ b = .min := by cases b <;> simp [acts, reads] at ha hr ⊢
      simp only [stepOp, hev args (by intro z hz; simp [Op.operands, Call.operands, hz])]
      rcases hb with rfl | rfl
      · (repeat' split) <;> first
          | rfl
          | (simp only [builtinV, Option.map_map]; congr 1; done)
      · (repeat' split) <;> first
          | rfl
          | (simp only [builtinV, Option.map_map]; congr 1; done)
  | defer c => simp [ofFrame] at hof
  | _ => rfl
end
end Go.Abs
set_option linter.unusedSimpArgs false
namespace Go.Abs

def cnt (ps : List POp) (i : Nat) : Nat := ((ps.take i).filter (·.act)).length
theorem cnt_zero (ps : List POp) : cnt ps 0 = 0 := by simp [cnt]
theorem cnt_cons (p : POp) (ps : List POp) (i : Nat) : cnt (p :: ps) (i + 1) = (if p.act then 1 else 0) + cnt ps i := by
  simp only [cnt, List.take_succ_cons, List.filter_cons]
  split <;> simp <;> omega

section
variable {E : Env} {r : Ev} {fid : FuncId} {ops : Array Oper}

inductive CStep (E : Env) (r : Ev) (fid : FuncId) (ops : Array Oper) (p : POp) (f : Fr) (g : Heap) (v : V) (s' : Al (List V) × Heap) (L : List (Al (List V) × Heap)) : Prop
  | skip : wants ops f p.o = some false → v = .tup [] → s' = (f.boxes, g) → CStep E r fid ops p f g v s' L
  | act (f1 : Fr) (g1 : Heap) : wants ops f p.o = some true → stepOp E fid f g p.o = some (.val v f1 g1) → p.act = true → s' = (f1.boxes, g1) → CStep E r fid ops p f g v s' L
  | calm : wants ops f p.o = some true → stepOp E fid f g p.o = some (.val v f g) → p.act = false → s' = (f.boxes, g) → (reads p.o = true → stagesOk E fid ⟨p.o, f, v, p.lo, p.hi⟩ 0 L = true) → CStep E r fid ops p f g v s' L
  | call (fn : V) (args : List V) (g1 : Heap) : wants ops f p.o = some true → stepOp E fid f g p.o = some (.go fn args) → r.call fn args .no g = some (.ret v, false, g1) → p.act = true → s' = (f.boxes, g1) → CStep E r fid ops p f g v s' L

def DEnd (E : Env) (r : Ev) (fid : FuncId) (ops : Array Oper) (fr0 : Fr) (ps : List POp) (M : Nat) (F : Nat → Fr) (G : Nat → Heap) (ex : Ex) (fr' : Fr) (H' : Heap) : Prop :=
  match ex with
  | .fall => M = ps.length ∧ fr' = F M ∧ H' = G M
  | .jump _ => False
  | .pan v => ∃ p f args, ps[M]? = some p ∧ p.act = true ∧ wants ops (F M) p.o = some true ∧ stepOp E fid (F M) (G M) p.o = some (.go f args) ∧ r.call f args .no (G M) = some (.pan v, false, H') ∧ (∀ q ∈ ps.drop (M + 1), p.lo < q.lo) ∧
      fr' = { fr0 with boxes := (F M).boxes, vals := fr0.vals.filter fun q => !(ops.toList.any fun o => o.dst == some q.1) }

theorem calm_same {fr f1 : Fr} {H g1 : Heap} {o : Oper} {v : V} (hof : ofFrame o = false) (ha : acts (E.isBuf fid) o = false) (h : stepOp E fid fr H o = some (.val v f1 g1)) : f1 = fr ∧ g1 = H := by
  by_cases hr : reads o = true
  · obtain ⟨dst, op, type, pos, after, guard⟩ := o
    cases op with
    | load t x =>
      simp only [stepOp] at h
      split at h
      · exact (OR_val h).2
      · cases h
    | lookup t m k c =>
      simp only [stepOp] at h
      repeat' split at h
      all_goals first
        | cases h; done
        | (simp only [Option.some.injEq, OR.val.injEq] at h; exact ⟨h.2.1.symm, h.2.2.symm⟩)
    | slice t x l u m =>
      simp only [stepOp] at h
      repeat' split at h
      all_goals first
        | cases h; done
        | exact (OR_val h).2
    | call c =>
      obtain ⟨callee, args, ats⟩ := c
      cases callee with
      | value f => simp [acts] at ha
      | invoke x m => simp [acts] at ha
      | builtin b =>
        simp only [stepOp] at h
        repeat' split at h
        all_goals try (cases h; done)
        cases b <;> simp [acts, reads] at ha hr
        all_goals (unfold builtinV at h; repeat' split at h)
        all_goals first
          | cases h; done
          | exact (OR_val h).2
          | (simp only [Option.some.injEq, OR.val.injEq] at h; exact ⟨h.2.1.symm, h.2.2.symm⟩)
          | contradiction
    | _ => simp [reads] at hr
  · have := stepOp_pure (frA := fr) (frB := fr) (HA := H) (HB := H) hof ha (by simpa using hr) (fun _ _ => rfl)
    rw [h] at this
    simp only [Option.map_some, OR.into, Option.some.injEq, OR.val.injEq, true_and] at this
    exact this

theorem stepOp_vals {fr f1 : Fr} {H g1 : Heap} {o : Oper} {v : V} (hof : ofFrame o = false) (hx : noBox E fid o = true) (h : stepOp E fid fr H o = some (.val v f1 g1)) : f1 = { fr with boxes := f1.boxes } := by
  have := stepOp_congr (frA := fr) (frB := fr) (H := H) hof hx rfl (fun _ _ => rfl)
  rw [h] at this
  simp only [Option.map_some, OR.onto, Option.some.injEq, OR.val.injEq, true_and, and_true] at this
  exact this

theorem go_acts {fr : Fr} {H : Heap} {o : Oper} {f : V} {args : List V} (buf : Tmp → Bool) (h : stepOp E fid fr H o = some (.go f args)) : acts buf o = true := by
  unfold stepOp at h
  split at h
  all_goals (repeat' split at h)
  all_goals first
    | cases h; done
    | (simp only [Option.map_eq_some_iff, reduceCtorEq, and_false, exists_false, Option.some.injEq] at h; done)
    | exact (newBox_go h).elim
    | exact (builtinV_go h).elim
    | skip
  · rename_i c heq _ g hg _ _ _ _ _ _ _
    simp [acts, heq, hg]
  · rename_i c heq _ g m hg _ _ _ _ _ _ _ _
    simp [acts, heq, hg]
theorem put_boxes (fr : Fr) (d : Option Tmp) (v : V) : (fr.put d v).boxes = fr.boxes := by cases d <;> rfl
theorem put_defers (fr : Fr) (d : Option Tmp) (v : V) : (fr.put d v).defers = fr.defers := by cases d <;> rfl
theorem put_rc (fr : Fr) (d : Option Tmp) (v : V) : (fr.put d v).rc = fr.rc := by cases d <;> rfl
theorem put_vals {fr fr' : Fr} (h : fr'.vals = fr.vals) (d : Option Tmp) (v : V) : (fr'.put d v).vals = (fr.put d v).vals := by cases d <;> simp [Fr.put, h]

def consF {α : Type} (x : α) (f : Nat → α) : Nat → α
  | 0 => x
  | i + 1 => f i
theorem can_of_run {fr0 : Fr} {ex : Ex} {fr' : Fr} {H' : Heap} : ∀ (ps : List POp) (fr : Fr) (H : Heap) (sts : List (Al (List V) × Heap)) (ds : List DRead),
    drawRun E r fid ops fr0 ps fr H ((fr.boxes, H) :: sts) ds = some (ex, fr', H') → (∀ p ∈ ps, p.act = acts (E.isBuf fid) p.o ∧ ofFrame p.o = false ∧ noBox E fid p.o = true) →
    ∃ (M : Nat) (F : Nat → Fr) (G : Nat → Heap) (W : Nat → V) (L L' : List (Al (List V) × Heap)), M ≤ ps.length ∧ F 0 = fr ∧ G 0 = H ∧ L = ((fr.boxes, H) :: sts).reverse ++ L' ∧ (∀ i, i ≤ M → L[sts.length + cnt ps i]? = some ((F i).boxes, G i)) ∧ (∀ d ∈ ds, stagesOk E fid d 0 L = true) ∧
      (∀ i, i < M → ∀ p, ps[i]? = some p → CStep E r fid ops p (F i) (G i) (W i) ((F (i + 1)).boxes, G (i + 1)) L ∧ (F (i + 1)).vals = ((F i).put p.o.dst (W i)).vals) ∧
      (∀ i, i ≤ M → (F i).defers = fr.defers ∧ (F i).rc = fr.rc) ∧ DEnd E r fid ops fr0 ps M F G ex fr' H'
  | [], fr, H, sts, ds, h, _ => by
    simp only [drawRun] at h
    split at h
    · rename_i hd
      simp only [Option.some.injEq, Prod.mk.injEq] at h
      obtain ⟨rfl, rfl, rfl⟩ := h
      refine ⟨0, fun _ => fr, fun _ => H, fun _ => .junk, _, [], Nat.le_refl _, rfl, rfl, (List.append_nil _).symm, fun i hi => ?_, fun d hdd => List.all_eq_true.1 hd d hdd, fun i hi => absurd hi (Nat.not_lt_zero _), fun _ _ => ⟨rfl, rfl⟩, rfl, rfl, rfl⟩
      simp [cnt]
    · cases h
  | p :: ps, fr, H, sts, ds, h, hp => by
    obtain ⟨hp1, hp2, hp3⟩ := hp p (by simp)
    have hps : ∀ q ∈ ps, q.act = acts (E.isBuf fid) q.o ∧ ofFrame q.o = false ∧ noBox E fid q.o = true := fun q hq => hp q (by simp [hq])
    -- one step, then the rest
    have key : ∀ (fr1 : Fr) (H1 : Heap) (v : V) (ds1 : List DRead), drawRun E r fid ops fr0 ps (fr1.put p.o.dst v) H1 ((fr1.boxes, H1) :: (if p.act then (fr.boxes, H) :: sts else sts)) ds1 = some (ex, fr', H') → fr1.vals = fr.vals → fr1.defers = fr.defers → fr1.rc = fr.rc →
        (p.act = false → fr1.boxes = fr.boxes ∧ H1 = H) → (∀ d ∈ ds, d ∈ ds1) →
        (∀ L, (∀ d ∈ ds1, stagesOk E fid d 0 L = true) → CStep E r fid ops p fr H v (fr1.boxes, H1) L) →
        ∃ (M : Nat) (F : Nat → Fr) (G : Nat → Heap) (W : Nat → V) (L L' : List (Al (List V) × Heap)), M ≤ (p :: ps).length ∧ F 0 = fr ∧ G 0 = H ∧ L = ((fr.boxes, H) :: sts).reverse ++ L' ∧ (∀ i, i ≤ M → L[sts.length + cnt (p :: ps) i]? = some ((F i).boxes, G i)) ∧ (∀ d ∈ ds, stagesOk E fid d 0 L = true) ∧
          (∀ i, i < M → ∀ q, (p :: ps)[i]? = some q → CStep E r fid ops q (F i) (G i) (W i) ((F (i + 1)).boxes, G (i + 1)) L ∧ (F (i + 1)).vals = ((F i).put q.o.dst (W i)).vals) ∧
          (∀ i, i ≤ M → (F i).defers = fr.defers ∧ (F i).rc = fr.rc) ∧ DEnd E r fid ops fr0 (p :: ps) M F G ex fr' H' := by
      intro fr1 H1 v ds1 h1 hv hd hr hna hds hc
      rw [← put_boxes fr1 p.o.dst v] at h1
      obtain ⟨M, F, G, W, L, L', g1, g2, g3, g4, g5, g6, g7, g8, g9⟩ := can_of_run ps _ H1 _ ds1 h1 hps
      have hL : ∃ L'', L = ((fr.boxes, H) :: sts).reverse ++ L'' := by
        rw [g4]
        by_cases ha : p.act = true
        · simp only [ha, if_true]
          exact ⟨[((fr1.put p.o.dst v).boxes, H1)] ++ L', by simp⟩
        · have ha' : p.act = false := by simpa using ha
          obtain ⟨e1, e2⟩ := hna ha'
          simp only [ha', Bool.false_eq_true, if_false, put_boxes, e1, e2]
          exact ⟨L', rfl⟩
      obtain ⟨L'', hL⟩ := hL
      refine ⟨M + 1, consF fr F, consF H G, consF v W, L, L'', by simpa using g1, rfl, rfl, hL, fun i hi => ?_, fun d hdd => g6 d (hds d hdd), fun i hi q hq => ?_, fun i hi => ?_, ?_⟩
      · cases i with
        | zero =>
          rw [cnt_zero, hL]
          simp [consF]
        | succ i =>
          have := g5 i (by omega)
          rw [cnt_cons]
          simp only [consF]
          rw [← this]
          by_cases ha : p.act = true
          · simp only [ha, if_true, List.length_cons]
            congr 1
            omega
          · simp only [ha, Bool.false_eq_true, if_false]
            congr 1
            omega
      · cases i with
        | zero =>
          simp only [List.getElem?_cons_zero, Option.some.injEq] at hq
          subst hq
          simp only [consF, g2, g3, put_boxes]
          exact ⟨hc L g6, put_vals hv _ _⟩
        | succ i =>
          simp only [List.getElem?_cons_succ] at hq
          exact g7 i (by omega) q hq
      · cases i with
        | zero => exact ⟨rfl, rfl⟩
        | succ i =>
          obtain ⟨j1, j2⟩ := g8 i (by omega)
          rw [put_defers, hd] at j1
          rw [put_rc, hr] at j2
          exact ⟨j1, j2⟩
      · cases ex with
        | fall => exact ⟨by rw [g9.1]; rfl, g9.2⟩
        | jump c => exact g9
        | pan v => exact g9
    simp only [drawRun] at h
    split at h
    · cases h
    · rename_i hw
      refine key fr H (.tup []) ds ?_ rfl rfl rfl (fun _ => ⟨rfl, rfl⟩) (fun _ h => h) fun L _ => .skip hw rfl rfl
      by_cases ha : p.act = true
      · simpa only [ha, if_true] using h
      · simpa only [ha, Bool.false_eq_true, if_false] using h
    · rename_i hw
      split at h
      · rename_i v f1 h1 hs
        have hkeep := stepOp_keeps hp2 hs
        have hvals := stepOp_vals hp2 hp3 hs
        split at h
        · rename_i ha
          refine key f1 h1 v ds ?_ (by rw [hvals]) hkeep.1 hkeep.2 (fun ha' => by rw [ha] at ha'; cases ha') (fun _ h => h) fun L _ => .act f1 h1 hw hs ha rfl
          simp only [ha, if_true]
          exact h
        · rename_i ha
          have ha' : p.act = false := by simpa using ha
          obtain ⟨rfl, rfl⟩ := calm_same hp2 (by rw [← hp1]; exact ha') hs
          refine key f1 h1 v (if reads p.o then ⟨p.o, f1, v, p.lo, p.hi⟩ :: ds else ds) ?_ rfl rfl rfl (fun _ => ⟨rfl, rfl⟩) (fun d hd => ?_) fun L hL => .calm hw hs ha' rfl fun hr => ?_
          · simp only [ha', Bool.false_eq_true, if_false]
            exact h
          · split
            · simp [hd]
            · exact hd
          · simp only [hr, if_true] at hL
            exact hL _ (by simp)
      · rename_i f args hs
        split at h
        · rename_i v h1 hc
          have ha : p.act = true := hp1.trans (go_acts _ hs)
          refine key fr h1 v ds ?_ rfl rfl rfl (fun ha' => by rw [ha] at ha'; cases ha') (fun _ h => h) fun L _ => .call f args h1 hw hs hc ha rfl
          simpa only [ha, if_true] using h
        · rename_i v h1 hc
          have ha : p.act = true := hp1.trans (go_acts _ hs)
          split at h
          · rename_i hb
            simp only [Bool.and_eq_true, List.all_eq_true, decide_eq_true_eq] at hb
            simp only [Option.some.injEq, Prod.mk.injEq] at h
            obtain ⟨rfl, rfl, rfl⟩ := h
            refine ⟨0, fun _ => fr, fun _ => H, fun _ => .junk, _, [], Nat.zero_le _, rfl, rfl, (List.append_nil _).symm, fun i hi => ?_, hb.2, fun i hi => absurd hi (Nat.not_lt_zero _), fun _ _ => ⟨rfl, rfl⟩, p, f, args, rfl, ha, hw, hs, hc, fun q hq => hb.1 q (by simpa using hq), rfl⟩
            have : i = 0 := by omega
            subst this
            simp [cnt]
          · cases h
        · cases h
      · cases h
end
end Go.Abs
namespace Go.Abs

theorem lows_fst (buf : Tmp → Bool) : ∀ (os : List Oper) (acc : List (Bool × Nat)), (lows buf os acc).map (·.1) = acc.map (·.1) ++ os.map (acts buf)
  | [], acc => by simp [lows]
  | o :: os, acc => by simp [lows, lows_fst buf os]
theorem zipPlan_get : ∀ (os : List Oper) (as : List (Bool × Nat)) (hs : List Nat) (j : Nat) (p : POp), (zipPlan os as hs)[j]? = some p → os[j]? = some p.o ∧ as[j]? = some (p.act, p.lo)
  | [], _, _, j, p, h => by simp [zipPlan] at h
  | o :: os, [], hs, j, p, h => by simp [zipPlan] at h
  | o :: os, a :: as, [], j, p, h => by simp [zipPlan] at h
  | o :: os, a :: as, x :: hs, j, p, h => by
    cases j with
    | zero => simp only [zipPlan, List.getElem?_cons_zero, Option.some.injEq] at h; subst h; simp
    | succ j => simp only [zipPlan, List.getElem?_cons_succ] at h ⊢; exact zipPlan_get os as hs j p h
theorem plan_get {buf : Tmp → Bool} {ops : Array Oper} {j : Nat} {p : POp} (h : (plan buf ops)[j]? = some p) : ops[j]? = some p.o ∧ p.act = acts buf p.o := by
  obtain ⟨h1, h2⟩ := zipPlan_get _ _ _ j p h
  refine ⟨by simpa using h1, ?_⟩
  have h3 : ((lows buf ops.toList []).map (·.1))[j]? = some p.act := by rw [List.getElem?_map, h2]; rfl
  rw [lows_fst] at h3
  simp only [List.map_nil, List.nil_append, List.getElem?_map, h1, Option.map_some, Option.some.injEq] at h3
  exact h3.symm

theorem edgesBack_get : ∀ (os : List Oper) (i0 : Nat), edgesBack i0 os = true → ∀ (j : Nat) (o : Oper), os[j]? = some o → ∀ e ∈ o.after, Region.binds .any e = true → e.on < i0 + j
  | [], _, _, j, o, h, _, _, _ => by simp at h
  | x :: os, i0, hb, j, o, h, e, he, hbi => by
    simp only [edgesBack, Bool.and_eq_true, Array.all_eq_true_iff_forall_mem] at hb
    cases j with
    | zero =>
      simp only [List.getElem?_cons_zero, Option.some.injEq] at h
      subst h
      have := hb.1 e he
      simpa [hbi] using this
    | succ j =>
      have := edgesBack_get os (i0 + 1) hb.2 j o (by simpa using h) e he hbi
      omega

def befRow (acc : Array Nat) (o : Oper) : Nat := o.after.foldl (fun s e => if Region.binds .any e then s ||| 2 ^ e.on ||| acc.getD e.on 0 else s) 0
theorem befRow_bit (acc : Array Nat) (i : Nat) : ∀ (es : List Edge) (s : Nat), (es.foldl (fun s e => if Region.binds .any e then s ||| 2 ^ e.on ||| acc.getD e.on 0 else s) s).testBit i = true →
    s.testBit i = true ∨ ∃ e ∈ es, Region.binds .any e = true ∧ (i = e.on ∨ (acc.getD e.on 0).testBit i = true)
  | [], s, h => .inl h
  | e :: es, s, h => by
    simp only [List.foldl_cons] at h
    rcases befRow_bit acc i es _ h with h1 | ⟨e', h1, h2⟩
    · split at h1
      · rename_i hb
        simp only [Nat.testBit_or, Bool.or_eq_true, Nat.testBit_two_pow, decide_eq_true_eq] at h1
        rcases h1 with (h1 | h1) | h1
        · exact .inl h1
        · exact .inr ⟨e, by simp, hb, .inl h1.symm⟩
        · exact .inr ⟨e, by simp, hb, .inr h1⟩
      · exact .inl h1
    · exact .inr ⟨e', by simp [h1], h2⟩
theorem before_list (ops : List Oper) : ∀ (acc : Array Nat), (ops.foldl (fun acc o => acc.push (befRow acc o)) acc).size = acc.size + ops.length ∧
    (∀ i, i < acc.size → (ops.foldl (fun acc o => acc.push (befRow acc o)) acc).getD i 0 = acc.getD i 0) ∧
    ∀ j o, ops[j]? = some o → ∃ acc', (∀ i, i < acc.size + j → acc'.getD i 0 = (ops.foldl (fun acc o => acc.push (befRow acc o)) acc).getD i 0) ∧ (∀ i, acc.size + j ≤ i → acc'.getD i 0 = 0) ∧ (ops.foldl (fun acc o => acc.push (befRow acc o)) acc).getD (acc.size + j) 0 = befRow acc' o := by
  induction ops with
  | nil => intro acc; simp
  | cons x ops ih =>
    intro acc
    obtain ⟨h1, h2, h3⟩ := ih (acc.push (befRow acc x))
    simp only [List.foldl_cons]
    have hp : ∀ i, i < acc.size → (acc.push (befRow acc x)).getD i 0 = acc.getD i 0 := by
      intro i hi
      simp only [Array.getD_eq_getD_getElem?, Array.getElem?_push]
      rw [if_neg (by omega)]
    refine ⟨by rw [h1]; simp; omega, fun i hi => by rw [h2 i (by simp; omega), hp i hi], fun j o ho => ?_⟩
    cases j with
    | zero =>
      simp only [List.getElem?_cons_zero, Option.some.injEq] at ho
      subst ho
      refine ⟨acc, fun i hi => by rw [h2 i (by simp; omega), hp i (by simpa using hi)], fun i hi => by simp only [Array.getD_eq_getD_getElem?]; rw [Array.getElem?_eq_none (by simpa using hi)]; rfl, ?_⟩
      rw [Nat.add_zero, h2 _ (by simp)]
      simp [Array.getD_eq_getD_getElem?]
    | succ j =>
      simp only [List.getElem?_cons_succ] at ho
      obtain ⟨acc', g1, g2, g3⟩ := h3 j o ho
      simp only [Array.size_push] at g1 g2 g3
      refine ⟨acc', fun i hi => g1 i (by omega), fun i hi => g2 i (by omega), ?_⟩
      have : acc.size + (j + 1) = acc.size + 1 + j := by omega
      rw [this]
      exact g3
theorem before_bit {ops : Array Oper} {i j : Nat} {o : Oper} (ho : ops[j]? = some o) (h : ((Region.before ops).getD j 0).testBit i = true) :
    ∃ e ∈ o.after, Region.binds .any e = true ∧ (i = e.on ∨ (e.on < j ∧ ((Region.before ops).getD e.on 0).testBit i = true)) := by
  have hb : Region.before ops = ops.toList.foldl (fun acc o => acc.push (befRow acc o)) #[] := by
    unfold Region.before
    rw [← Array.foldl_toList]
    rfl
  obtain ⟨_, _, h3⟩ := before_list ops.toList #[]
  obtain ⟨acc', g1, g2, g3⟩ := h3 j o (by simpa using ho)
  rw [← hb] at g1 g3
  simp only [List.size_toArray, List.length_nil, Nat.zero_add] at g1 g2 g3
  rw [g3] at h
  unfold befRow at h
  rw [← Array.foldl_toList] at h
  rcases befRow_bit acc' i o.after.toList 0 h with h1 | ⟨e, h1, h2, h4⟩
  · simp at h1
  · refine ⟨e, by simpa using h1, h2, ?_⟩
    rcases h4 with h4 | h4
    · exact .inl h4
    · refine .inr ?_
      rcases Nat.lt_or_ge e.on j with hl | hl
      · exact ⟨hl, by rw [← g1 e.on hl]; exact h4⟩
      · rw [g2 e.on hl] at h4; simp at h4

theorem tempsOk_get {ops : Array Oper} (h : tempsOk ops = true) {i j : Nat} {q o : Oper} (hi : ops[i]? = some q) (hj : ops[j]? = some o) (hlt : i < j) : q.apart ops o = true ∨ ((Region.before ops).getD j 0).testBit i = true := by
  simp only [tempsOk, List.all_eq_true] at h
  have h1 := h (o, j) (by
    rw [List.mem_iff_getElem?]
    exact ⟨j, by rw [List.getElem?_zipIdx]; simp [hj]⟩)
  have h2 := h1 (q, i) (by
    rw [List.mem_iff_getElem?]
    exact ⟨i, by rw [List.getElem?_zipIdx, List.getElem?_take]; simp [hlt, hi]⟩)
  simpa using h2
end Go.Abs
namespace Go.Abs

section
variable {pl : List POp}
theorem zipIdx_mem {α : Type} {l : List α} {j : Nat} {x : α} (h : l[j]? = some x) : (x, j) ∈ l.zipIdx := by
  rw [List.mem_iff_getElem?]
  exact ⟨j, by rw [List.getElem?_zipIdx]; simp [h]⟩
theorem planOk_low (h : planOk pl = true) {j : Nat} {p : POp} (hj : pl[j]? = some p) : p.lo = 0 ∨ ∃ e ∈ p.o.after, Region.binds .any e = true ∧ ∃ q, pl[e.on]? = some q ∧ (if q.act then p.lo ≤ q.lo + 1 else p.lo ≤ q.lo) := by
  simp only [planOk, Bool.and_eq_true, List.all_eq_true] at h
  have := h.1.1 (p, j) (zipIdx_mem hj)
  simp only [Bool.or_eq_true, beq_iff_eq, ← Array.any_toList, List.any_eq_true, Array.mem_toList_iff, Bool.and_eq_true] at this
  rcases this with h1 | ⟨e, he, hb, hq⟩
  · exact .inl h1
  · refine .inr ⟨e, he, hb, ?_⟩
    split at hq
    · rename_i q hq'
      refine ⟨q, by simpa using hq', ?_⟩
      split at hq <;> rename_i ha <;> simp only [ha, if_true, if_false, Bool.false_eq_true] <;> simpa using hq
    · cases hq
theorem planOk_high (h : planOk pl = true) {j : Nat} {p : POp} (hj : pl[j]? = some p) : (pl.filter (·.act)).length ≤ p.hi ∨ ∃ i q, pl[i]? = some q ∧ j < i ∧ (∃ e ∈ q.o.after, Region.binds .any e = true ∧ e.on = j) ∧ (if q.act then q.lo ≤ p.hi else q.hi ≤ p.hi) := by
  simp only [planOk, Bool.and_eq_true, List.all_eq_true] at h
  have := h.1.2 (p, j) (zipIdx_mem hj)
  simp only [Bool.or_eq_true, decide_eq_true_eq, List.any_eq_true, Bool.and_eq_true, ← Array.any_toList, List.any_eq_true, Array.mem_toList_iff, beq_iff_eq] at this
  rcases this with h1 | ⟨⟨q, i⟩, hm, ⟨hlt, e, he, hb, hon⟩, hq⟩
  · exact .inl h1
  · refine .inr ⟨i, q, ?_, hlt, ⟨e, he, hb, hon⟩, ?_⟩
    · rw [List.mem_iff_getElem?] at hm
      obtain ⟨n, hn⟩ := hm
      rw [List.getElem?_zipIdx] at hn
      simp only [Option.map_eq_some_iff, Prod.mk.injEq] at hn
      obtain ⟨x, hx, rfl, rfl⟩ := hn
      simpa using hx
    · dsimp only at hq
      split at hq <;> rename_i ha <;> simp only [ha, if_true, if_false, Bool.false_eq_true] <;> simpa using hq
theorem planOk_act (h : planOk pl = true) {j : Nat} {p : POp} (hj : pl[j]? = some p) (ha : p.act = true) : p.lo = cnt pl j := by
  simp only [planOk, Bool.and_eq_true, List.all_eq_true] at h
  have := h.2 (p, j) (zipIdx_mem hj)
  simpa [ha, cnt] using this
theorem cnt_le (i : Nat) : cnt pl i ≤ (pl.filter (·.act)).length := by
  unfold cnt
  exact (List.Sublist.filter _ (List.take_sublist i pl)).length_le
theorem cnt_succ {j : Nat} {p : POp} (hj : pl[j]? = some p) : cnt pl (j + 1) = cnt pl j + (if p.act then 1 else 0) := by
  unfold cnt
  rw [List.take_add_one, List.filter_append, List.length_append, hj]
  simp only [Option.toList_some, List.filter_cons, List.filter_nil]
  split <;> simp
theorem cnt_mono {i j : Nat} (h : i ≤ j) : cnt pl i ≤ cnt pl j := by
  unfold cnt
  exact (List.Sublist.filter _ (List.take_sublist_take_left h)).length_le
end

def lis (D : Array Bool) (i : Nat) : Prop := D.getD i false = true
def ReadyAt (D : Array Bool) (o : Oper) : Prop := ∀ e ∈ o.after, Region.binds .any e = true → lis D e.on

section
variable {E : Env} {r : Ev} {fid : FuncId} {ops : Array Oper} {pl : List POp} {M : Nat} {F : Nat → Fr} {G : Nat → Heap} {W : Nat → V} {L : List (Al (List V) × Heap)}

structure Inv (ops : Array Oper) (pl : List POp) (M : Nat) (F : Nat → Fr) (L : List (Al (List V) × Heap)) (D : Array Bool) (k : Nat) (f : Fr) (g : Heap) : Prop where
  size : D.size = ops.size
  below : ∀ i, lis D i → i < M
  closed : ∀ j o, ops[j]? = some o → lis D j → ReadyAt D o
  count : ∀ j p, pl[j]? = some p → p.act = true → (lis D j ↔ p.lo < k)
  kM : k ≤ cnt pl M
  stage : L[k]? = some (f.boxes, g)
  vals : ∀ t, ∃ m, m ≤ M ∧ (∀ i o, ops[i]? = some o → lis D i → o.dst = some t → i < m) ∧ (∀ i o, ops[i]? = some o → i < m → o.dst = some t → lis D i) ∧ f.vals.get t = (F m).vals.get t
  keep : f.defers = (F 0).defers ∧ f.rc = (F 0).rc

structure Can (E : Env) (r : Ev) (fid : FuncId) (ops : Array Oper) (pl : List POp) (M : Nat) (F : Nat → Fr) (G : Nat → Heap) (W : Nat → V) (L : List (Al (List V) × Heap)) : Prop where
  len : pl.length = ops.size
  get : ∀ (j : Nat) (p : POp), pl[j]? = some p → ops[j]? = some p.o ∧ p.act = acts (E.isBuf fid) p.o ∧ ofFrame p.o = false ∧ noBox E fid p.o = true
  back : ∀ (j : Nat) (o : Oper), ops[j]? = some o → ∀ e ∈ o.after, Region.binds .any e = true → e.on < j
  plan : planOk pl = true
  temps : tempsOk ops = true
  le : M ≤ pl.length
  st : ∀ i, i ≤ M → L[cnt pl i]? = some ((F i).boxes, G i)
  step : ∀ i, i < M → ∀ (p : POp), pl[i]? = some p → CStep E r fid ops p (F i) (G i) (W i) ((F (i + 1)).boxes, G (i + 1)) L ∧ (F (i + 1)).vals = ((F i).put p.o.dst (W i)).vals
  keep : ∀ i, i ≤ M → (F i).defers = (F 0).defers ∧ (F i).rc = (F 0).rc

variable {D : Array Bool} {k : Nat} {f : Fr} {g : Heap}

theorem reach (hc : Can E r fid ops pl M F G W L) (hI : Inv ops pl M F L D k f g) : ∀ (n j i : Nat) (o : Oper), j < n → ops[j]? = some o → (lis D j ∨ ReadyAt D o) → ((Region.before ops).getD j 0).testBit i = true → lis D i
  | 0, j, i, o, hn, _, _, _ => absurd hn (Nat.not_lt_zero _)
  | n + 1, j, i, o, hn, ho, hr, hb => by
    obtain ⟨e, he, hbi, h⟩ := before_bit ho hb
    have hl : lis D e.on := by
      rcases hr with hr | hr
      · exact hI.closed j o ho hr e he hbi
      · exact hr e he hbi
    rcases h with rfl | ⟨hlt, h⟩
    · exact hl
    · have hsz : j < ops.size := (Array.getElem?_eq_some_iff.1 ho).1
      have : ops[e.on]? = some ops[e.on] := Array.getElem?_eq_getElem (by omega)
      exact reach hc hI n e.on i _ (by omega) this (.inl hl) h
theorem low_le (hc : Can E r fid ops pl M F G W L) (hI : Inv ops pl M F L D k f g) : ∀ (n j : Nat) (p : POp), j < n → pl[j]? = some p → (lis D j ∨ ReadyAt D p.o) → p.lo ≤ k
  | 0, j, p, hn, _, _ => absurd hn (Nat.not_lt_zero _)
  | n + 1, j, p, hn, hp, hr => by
    rcases planOk_low hc.plan hp with h | ⟨e, he, hb, q, hq, h⟩
    · omega
    · have ho := (hc.get j p hp).1
      have hl : lis D e.on := by
        rcases hr with hr | hr
        · exact hI.closed j p.o ho hr e he hb
        · exact hr e he hb
      have hlt := hc.back j p.o ho e he hb
      by_cases ha : q.act = true
      · simp only [ha, if_true] at h
        have := (hI.count e.on q hq ha).1 hl
        omega
      · simp only [ha, Bool.false_eq_true, if_false] at h
        have := low_le hc hI n e.on q (by omega) hq (.inl hl)
        omega
theorem high_le (hc : Can E r fid ops pl M F G W L) (hI : Inv ops pl M F L D k f g) : ∀ (n j : Nat) (p : POp), ops.size - j < n → pl[j]? = some p → ¬ lis D j → k ≤ p.hi
  | 0, j, p, hn, _, _ => absurd hn (Nat.not_lt_zero _)
  | n + 1, j, p, hn, hp, hr => by
    rcases planOk_high hc.plan hp with h | ⟨i, q, hq, hlt, ⟨e, he, hb, hon⟩, h⟩
    · exact Nat.le_trans (Nat.le_trans hI.kM (cnt_le M)) h
    · have ho := (hc.get i q hq).1
      have hni : ¬ lis D i := fun hl => hr (hon ▸ hI.closed i q.o ho hl e he hb)
      by_cases ha : q.act = true
      · simp only [ha, if_true] at h
        have := mt (hI.count i q hq ha).2 hni
        omega
      · simp only [ha, Bool.false_eq_true, if_false] at h
        have hsz : i < ops.size := (Array.getElem?_eq_some_iff.1 ho).1
        have := high_le hc hI n i q (by omega) hq hni
        omega
theorem get_between (hc : Can E r fid ops pl M F G W L) {t : Nat} {m : Nat} : ∀ (d : Nat), m + d ≤ M → (∀ i o, ops[i]? = some o → m ≤ i → i < m + d → o.dst ≠ some t) → (F (m + d)).vals.get t = (F m).vals.get t
  | 0, _, _ => rfl
  | d + 1, hM, hw => by
    have ih := get_between hc d (by omega) fun i o ho h1 h2 => hw i o ho h1 (by omega)
    have hlt : m + d < pl.length := by have := hc.le; omega
    obtain ⟨p, hp⟩ : ∃ p, pl[m + d]? = some p := ⟨_, List.getElem?_eq_getElem hlt⟩
    have h1 := (hc.step (m + d) (by omega) p hp).2
    have hd := hw (m + d) p.o (hc.get _ p hp).1 (by omega) (by omega)
    rw [← Nat.add_assoc, h1, ← ih]
    cases hdd : p.o.dst with
    | none => rfl
    | some u =>
      simp only [Fr.put, Al.get_put]
      rw [if_neg (fun e => hd (by rw [hdd, e]))]
theorem look_ok (hc : Can E r fid ops pl M F G W L) (hI : Inv ops pl M F L D k f g) {j : Nat} {o : Oper} (ho : ops[j]? = some o) (hjM : j ≤ M) (hnl : ¬ lis D j) (hr : ReadyAt D o) {t : Nat} (ht : t ∈ o.looksAt ops) : f.vals.get t = (F j).vals.get t := by
  obtain ⟨m, h1, h2, h3, h4⟩ := hI.vals t
  rw [h4]
  have clash : ∀ i q, ops[i]? = some q → q.dst = some t → (i < j → lis D i) ∧ (j < i → ¬ lis D i) := by
    intro i q hq hd
    refine ⟨fun hlt => ?_, fun hlt hl => ?_⟩
    · rcases tempsOk_get hc.temps hq ho hlt with ha | hb
      · exact absurd ht ((Oper.apart_spec ha).1 t hd)
      · exact reach hc hI (j + 1) j i o (Nat.lt_succ_self _) ho (.inr hr) hb
    · rcases tempsOk_get hc.temps ho hq hlt with ha | hb
      · exact absurd ht ((Oper.apart_spec ha).2.2 t hd)
      · exact hnl (reach hc hI (i + 1) i j q (Nat.lt_succ_self _) hq (.inl hl) hb)
  rcases Nat.le_total m j with hm | hm
  · have := get_between hc (t := t) (m := m) (j - m) (by omega) fun i q hq g1 g2 hd => by
      have := h2 i q hq ((clash i q hq hd).1 (by omega)) hd
      omega
    rw [show m + (j - m) = j from by omega] at this
    exact this.symm
  · have := get_between hc (t := t) (m := j) (m - j) (by omega) fun i q hq g1 g2 hd => by
      have hl := h3 i q hq (by omega) hd
      rcases Nat.lt_or_ge j i with hlt | hge
      · exact (clash i q hq hd).2 hlt hl
      · have : i = j := by omega
        subst this
        exact hnl hl
    rw [show j + (m - j) = m from by omega] at this
    exact this
end
end Go.Abs
namespace Go.Abs
section
variable {E : Env} {r : Ev} {fid : FuncId} {ops : Array Oper} {pl : List POp} {M : Nat} {F : Nat → Fr} {G : Nat → Heap} {W : Nat → V} {L : List (Al (List V) × Heap)}
variable {D : Array Bool} {k : Nat} {f : Fr} {g : Heap}

theorem lis_set {j : Nat} (hj : j < D.size) (i : Nat) : lis (D.setIfInBounds j true) i ↔ i = j ∨ lis D i := by
  simp only [lis, Array.getD_eq_getD_getElem?, Array.getElem?_setIfInBounds]
  by_cases h : j = i
  · subst h; simp [hj]
  · simp [h, Ne.symm h]
theorem ready_mono {j : Nat} (hj : j < D.size) {o : Oper} (h : ReadyAt D o) : ReadyAt (D.setIfInBounds j true) o := fun e he hb => (lis_set hj _).2 (.inr (h e he hb))

theorem act_now (hc : Can E r fid ops pl M F G W L) (hI : Inv ops pl M F L D k f g) {j : Nat} {p : POp} (hp : pl[j]? = some p) (hnl : ¬ lis D j) (hr : ReadyAt D p.o) (ha : p.act = true) : k = p.lo ∧ k = cnt pl j := by
  have h1 := low_le hc hI (j + 1) j p (Nat.lt_succ_self _) hp (.inr hr)
  have h2 := mt (hI.count j p hp ha).2 hnl
  have h3 := planOk_act hc.plan hp ha
  omega

theorem Inv.next (hc : Can E r fid ops pl M F G W L) (hI : Inv ops pl M F L D k f g) {j : Nat} {p : POp} (hp : pl[j]? = some p) (hjM : j < M) (hnl : ¬ lis D j) (hr : ReadyAt D p.o) {f' : Fr} {g' : Heap} (hv : f'.vals = (f.put p.o.dst (W j)).vals)
    (hst : L[k + if p.act then 1 else 0]? = some (f'.boxes, g')) (hk1 : f'.defers = f.defers) (hk2 : f'.rc = f.rc) : Inv ops pl M F L (D.setIfInBounds j true) (k + if p.act then 1 else 0) f' g' := by
  have ho := (hc.get j p hp).1
  have hjs : j < D.size := by rw [hI.size]; exact (Array.getElem?_eq_some_iff.1 ho).1
  refine ⟨by simpa using hI.size, fun i hi => ?_, fun i o hio hi => ?_, fun i q hq hqa => ?_, ?_, hst, fun t => ?_, by rw [hk1]; exact hI.keep.1, by rw [hk2]; exact hI.keep.2⟩
  · rcases (lis_set hjs i).1 hi with rfl | h
    · exact hjM
    · exact hI.below i h
  · rcases (lis_set hjs i).1 hi with rfl | h
    · rw [ho] at hio; cases hio
      exact ready_mono hjs hr
    · exact ready_mono hjs (hI.closed i o hio h)
  · rw [lis_set hjs]
    by_cases ha : p.act = true
    · obtain ⟨e1, e2⟩ := act_now hc hI hp hnl hr ha
      simp only [ha, if_true]
      by_cases hij : i = j
      · subst hij
        rw [hp] at hq; cases hq
        simp; omega
      · have h1 := hI.count i q hq hqa
        have h2 := planOk_act hc.plan hq hqa
        have h3 : q.lo ≠ k := by
          rcases Nat.lt_or_gt_of_ne hij with hlt | hgt
          · have := cnt_succ hq
            simp only [hqa, if_true] at this
            have := cnt_mono (pl := pl) (show i + 1 ≤ j by omega)
            omega
          · have := cnt_succ hp
            simp only [ha, if_true] at this
            have := cnt_mono (pl := pl) (show j + 1 ≤ i by omega)
            omega
        simp only [hij, false_or, h1]
        omega
    · simp only [ha, Bool.false_eq_true, if_false, Nat.add_zero]
      have hij : i ≠ j := by
        rintro rfl
        rw [hp] at hq; cases hq
        exact ha hqa
      simp only [hij, false_or]
      exact hI.count i q hq hqa
  · by_cases ha : p.act = true
    · obtain ⟨e1, e2⟩ := act_now hc hI hp hnl hr ha
      simp only [ha, if_true]
      have := cnt_succ hp
      simp only [ha, if_true] at this
      have := cnt_mono (pl := pl) (show j + 1 ≤ M by omega)
      omega
    · simp only [ha, Bool.false_eq_true, if_false, Nat.add_zero]
      exact hI.kM
  · by_cases hd : p.o.dst = some t
    · refine ⟨j + 1, by omega, fun i o hio hi hdo => ?_, fun i o hio hi hdo => ?_, ?_⟩
      · rcases (lis_set hjs i).1 hi with rfl | h
        · omega
        · rcases Nat.lt_or_ge j i with hlt | hge
          · exfalso
            rcases tempsOk_get hc.temps ho hio hlt with hx | hx
            · exact (Oper.apart_spec hx).2.1 t hd hdo
            · exact hnl (reach hc hI (i + 1) i j o (Nat.lt_succ_self _) hio (.inl h) hx)
          · omega
      · rw [lis_set hjs]
        by_cases hij : i = j
        · exact .inl hij
        · refine .inr ?_
          rcases tempsOk_get hc.temps hio ho (show i < j by omega) with hx | hx
          · exact absurd hd ((Oper.apart_spec hx).2.1 t hdo)
          · exact reach hc hI (j + 1) j i p.o (Nat.lt_succ_self _) ho (.inr hr) hx
      · rw [hv, (hc.step j hjM p hp).2, hd]
        simp [Fr.put, Al.get_put]
    · obtain ⟨m, h1, h2, h3, h4⟩ := hI.vals t
      refine ⟨m, h1, fun i o hio hi hdo => ?_, fun i o hio hi hdo => (lis_set hjs i).2 (.inr (h3 i o hio hi hdo)), ?_⟩
      · rcases (lis_set hjs i).1 hi with rfl | h
        · rw [ho] at hio; cases hio
          exact absurd hdo hd
        · exact h2 i o hio h hdo
      · rw [hv, ← h4]
        cases hdd : p.o.dst with
        | none => rfl
        | some u =>
          simp only [Fr.put, Al.get_put]
          rw [if_neg (fun e => hd (by rw [hdd, e]))]

theorem bytes_eq {a b : ByteArray} (h : (a == b) = true) : a = b := by
  rcases a with ⟨a⟩
  rcases b with ⟨b⟩
  have h : (a == b) = true := h
  rw [eq_of_beq h]
mutual
theorem V.same_eq : ∀ (a b : V), V.same a b = true → a = b
  | .bool _, b, h => by cases b <;> simp_all [V.same]
  | .int _ _, b, h => by cases b <;> simp_all [V.same]
  | .str _, b, h => by
    cases b <;> simp only [V.same, Bool.false_eq_true] at h
    rw [bytes_eq h]
  | .nilp, b, h => by cases b <;> simp_all [V.same]
  | .loc _ _, b, h => by cases b <;> simp_all [V.same]
  | .cell _ _, b, h => by cases b <;> simp_all [V.same]
  | .rop x _, b, h => by
    cases b <;> simp only [V.same, Bool.and_eq_true, beq_iff_eq, Bool.false_eq_true] at h
    rw [V.sames_eq x _ h.1, h.2]
  | .nils, b, h => by cases b <;> simp_all [V.same]
  | .sro x _ _ _, b, h => by
    cases b <;> simp only [V.same, Bool.and_eq_true, beq_iff_eq, Bool.false_eq_true] at h
    rw [V.sames_eq x _ h.1.1.1, h.1.1.2, h.1.2, h.2]
  | .sbuf _ _ _ _ _, b, h => by cases b <;> simp_all [V.same]
  | .nilm, b, h => by cases b <;> simp_all [V.same]
  | .mp _, b, h => by cases b <;> simp_all [V.same]
  | .fn _ x y, b, h => by
    cases b <;> simp only [V.same, Bool.and_eq_true, beq_iff_eq, Bool.false_eq_true] at h
    rw [V.sames_eq x _ h.1.2, V.sames_eq y _ h.2, h.1.1]
  | .nilf, b, h => by cases b <;> simp_all [V.same]
  | .iface _ x, b, h => by
    cases b <;> simp only [V.same, Bool.and_eq_true, beq_iff_eq, Bool.false_eq_true] at h
    rw [V.same_eq x _ h.2, h.1]
  | .nili, b, h => by cases b <;> simp_all [V.same]
  | .agg x, b, h => by
    cases b <;> simp only [V.same, Bool.false_eq_true] at h
    rw [V.sames_eq x _ h]
  | .tup x, b, h => by
    cases b <;> simp only [V.same, Bool.false_eq_true] at h
    rw [V.sames_eq x _ h]
  | .junk, b, h => by cases b <;> simp_all [V.same]
theorem V.sames_eq : ∀ (a b : List V), V.sames a b = true → a = b
  | [], b, h => by cases b <;> simp_all [V.sames]
  | x :: xs, b, h => by
    cases b with
    | nil => simp [V.sames] at h
    | cons y ys =>
      simp only [V.sames, Bool.and_eq_true] at h
      rw [V.same_eq x y h.1, V.sames_eq xs ys h.2]
end

theorem stagesOk_get {d : DRead} : ∀ (l : List (Al (List V) × Heap)) (i0 i : Nat) (st : Al (List V) × Heap), stagesOk E fid d i0 l = true → l[i]? = some st → stageOk E fid d (i0 + i) st = true
  | [], _, _, _, _, h => by simp at h
  | x :: l, i0, i, st, hs, h => by
    simp only [stagesOk, Bool.and_eq_true] at hs
    cases i with
    | zero => simp only [List.getElem?_cons_zero, Option.some.injEq] at h; subst h; exact hs.1
    | succ i =>
      have := stagesOk_get l (i0 + 1) i st hs.2 (by simpa using h)
      rw [show i0 + (i + 1) = i0 + 1 + i by omega]
      exact this

theorem eval_look (hc : Can E r fid ops pl M F G W L) (hI : Inv ops pl M F L D k f g) {j : Nat} {o : Oper} (ho : ops[j]? = some o) (hjM : j ≤ M) (hnl : ¬ lis D j) (hr : ReadyAt D o) : ∀ x ∈ o.op.operands, (F j).eval x = f.eval x := by
  intro x hx
  cases x with
  | tmp t =>
    have : t ∈ o.looksAt ops := List.mem_append_left _ (List.mem_filterMap.2 ⟨.tmp t, by simpa using hx, rfl⟩)
    exact (look_ok hc hI ho hjM hnl hr this).symm
  | const c => rfl
  | global g => rfl
  | func f => rfl
theorem wants_look (hc : Can E r fid ops pl M F G W L) (hI : Inv ops pl M F L D k f g) {j : Nat} {o : Oper} (ho : ops[j]? = some o) (hjM : j ≤ M) (hnl : ¬ lis D j) (hr : ReadyAt D o) : wants ops f o = wants ops (F j) o := by
  unfold wants
  split
  · rfl
  · rename_i i wt hg
    split
    · rename_i t ht
      have : t ∈ o.looksAt ops := by
        refine List.mem_append_right _ ?_
        simp only [hg]
        rw [ht]
        simp
      rw [look_ok hc hI ho hjM hnl hr this]
    · rfl
end
end Go.Abs
namespace Go.Abs
section
variable {P : Program} {ω : Om} {E : Env} {ok : FuncId → Nat → Code → Prop} {H : Heap} {lo : Nat → Option Nat} {fr : Fr} {a : Act} {w : World}
variable {ops : Array Oper} {b : Frame} {k : List Item} {cs : List Frame}
variable {r : Ev} {fid : FuncId} {pl : List POp} {M : Nat} {F : Nat → Fr} {G : Nat → Heap} {W : Nat → V} {L : List (Al (List V) × Heap)} {D : Array Bool} {kk : Nat} {f : Fr} {g : Heap}

theorem any_step (hc : Can E r fid ops pl M F G W L) (hI : Inv ops pl M F L D kk f g) {j : Nat} {p : POp} (hp : pl[j]? = some p) (hjM : j < M) (hnl : ¬ lis D j) (hr : ReadyAt D p.o) :
    ∃ kk', (wants ops f p.o = some false ∧ Inv ops pl M F L (D.setIfInBounds j true) kk' (f.put p.o.dst (.tup [])) g) ∨
      (∃ v f1 g1, wants ops f p.o = some true ∧ stepOp E fid f g p.o = some (.val v f1 g1) ∧ Inv ops pl M F L (D.setIfInBounds j true) kk' (f1.put p.o.dst v) g1) ∨
      (∃ v fn args g1, wants ops f p.o = some true ∧ stepOp E fid f g p.o = some (.go fn args) ∧ r.call fn args .no g = some (.ret v, false, g1) ∧ Inv ops pl M F L (D.setIfInBounds j true) kk' (f.put p.o.dst v) g1) := by
  obtain ⟨ho, hact, hof, hnb⟩ := hc.get j p hp
  have hev := eval_look hc hI ho (Nat.le_of_lt hjM) hnl hr
  have hwt := wants_look hc hI ho (Nat.le_of_lt hjM) hnl hr
  have nowst : p.act = true → (F j).boxes = f.boxes ∧ G j = g := fun ha => by
    obtain ⟨e1, e2⟩ := act_now hc hI hp hnl hr ha
    have h1 := hc.st j (Nat.le_of_lt hjM)
    rw [← e2, hI.stage] at h1
    simp only [Option.some.injEq, Prod.mk.injEq] at h1
    exact ⟨h1.1.symm, h1.2.symm⟩
  have nextst : p.act = true → L[kk + 1]? = some ((F (j + 1)).boxes, G (j + 1)) := fun ha => by
    obtain ⟨e1, e2⟩ := act_now hc hI hp hnl hr ha
    have h1 := hc.st (j + 1) hjM
    have h2 := cnt_succ hp
    simp only [ha, if_true] at h2
    rw [h2, ← e2] at h1
    exact h1
  obtain ⟨hst, hvs⟩ := hc.step j hjM p hp
  refine ⟨kk + if p.act then 1 else 0, ?_⟩
  cases hst with
  | skip h1 h2 h3 =>
    refine .inl ⟨hwt.trans h1, hI.next hc hp hjM hnl hr (by rw [h2]) ?_ (put_defers _ _ _) (put_rc _ _ _)⟩
    rw [put_boxes]
    by_cases ha : p.act = true
    · have := nextst ha
      rw [h3] at this
      obtain ⟨e1, e2⟩ := nowst ha
      rw [e1, e2] at this
      simpa only [ha, if_true] using this
    · simpa only [ha, Bool.false_eq_true, if_false, Nat.add_zero] using hI.stage
  | act f1 g1 h1 h2 h3 h4 =>
    obtain ⟨e1, e2⟩ := nowst h3
    have hcg := stepOp_congr (frA := F j) (frB := f) (H := g) hof hnb e1 hev
    rw [← e2, h2] at hcg
    simp only [Option.map_some, OR.onto] at hcg
    rw [e2] at hcg
    refine .inr (.inl ⟨_, _, _, hwt.trans h1, hcg, hI.next hc hp hjM hnl hr (put_vals (fr := f) (fr' := { f with boxes := f1.boxes }) rfl _ _) ?_ (put_defers _ _ _) (put_rc _ _ _)⟩)
    have := nextst h3
    rw [h4] at this
    rw [put_boxes]
    simpa only [h3, if_true] using this
  | calm h1 h2 h3 h4 h5 =>
    have hs : stepOp E fid f g p.o = some (.val (W j) f g) := by
      by_cases hrd : reads p.o = true
      · have h6 := h5 hrd
        have h7 := stagesOk_get L 0 kk _ h6 hI.stage
        have l1 := low_le hc hI (j + 1) j p (Nat.lt_succ_self _) hp (.inr hr)
        have l2 := high_le hc hI (ops.size - j + 1) j p (Nat.lt_succ_self _) hp hnl
        simp only [stageOk, Nat.zero_add, Bool.or_eq_true, decide_eq_true_eq] at h7
        rcases h7 with (h7 | h7) | h7
        · omega
        · omega
        · split at h7
          · rename_i v f1 g1 hs
            have := V.same_eq _ _ h7
            subst this
            have hcg := stepOp_congr (E := E) (fid := fid) (frA := { F j with boxes := f.boxes }) (frB := f) (H := g) hof hnb rfl (fun x hx => by
              rw [← hev x hx]
              cases x <;> rfl)
            rw [hs] at hcg
            simp only [Option.map_some, OR.onto] at hcg
            have := calm_same hof (by rw [← hact]; exact h3) hcg
            rw [this.1, this.2] at hcg
            exact hcg
          · cases h7
      · have hpu := stepOp_pure (frA := F j) (frB := f) (HA := G j) (HB := g) hof (by rw [← hact]; exact h3) (by simpa using hrd) hev
        rw [h2] at hpu
        exact hpu
    refine .inr (.inl ⟨_, _, _, hwt.trans h1, hs, hI.next hc hp hjM hnl hr rfl ?_ (put_defers _ _ _) (put_rc _ _ _)⟩)
    rw [put_boxes]
    simpa only [h3, Bool.false_eq_true, if_false, Nat.add_zero] using hI.stage
  | call fn args g1 h1 h2 h3 h4 h5 =>
    obtain ⟨e1, e2⟩ := nowst h4
    have hcg := stepOp_congr (frA := F j) (frB := f) (H := g) hof hnb e1 hev
    rw [← e2, h2] at hcg
    simp only [Option.map_some, OR.onto] at hcg
    rw [e2] at hcg h3
    refine .inr (.inr ⟨_, _, _, _, hwt.trans h1, hcg, h3, hI.next hc hp hjM hnl hr rfl ?_ (put_defers _ _ _) (put_rc _ _ _)⟩)
    have := nextst h4
    rw [h5, e1] at this
    rw [put_boxes]
    simpa only [h4, if_true] using this

def unl (n : Nat) (D : Array Bool) : Nat := ((List.range n).filter fun i => !D.getD i false).length
theorem unl_set {n j : Nat} (hn : D.size = n) (hj : j < n) (hl : ¬ lis D j) : unl n (D.setIfInBounds j true) < unl n D := by
  unfold unl
  have hs : ((List.range n).filter fun i => !(D.setIfInBounds j true).getD i false).Sublist ((List.range n).filter fun i => !D.getD i false) := by
    have : ((List.range n).filter fun i => !(D.setIfInBounds j true).getD i false) = (((List.range n).filter fun i => !D.getD i false).filter fun i => !(D.setIfInBounds j true).getD i false) := by
      rw [List.filter_filter]
      apply List.filter_congr
      intro i _
      have := lis_set (D := D) (j := j) (by omega) i
      simp only [lis] at this
      cases h1 : (D.setIfInBounds j true).getD i false <;> cases h2 : D.getD i false <;> simp_all
    rw [this]
    exact List.filter_sublist
  rcases Nat.lt_or_ge ((List.range n).filter fun i => !(D.setIfInBounds j true).getD i false).length ((List.range n).filter fun i => !D.getD i false).length with h | h
  · exact h
  · have he := hs.eq_of_length_le h
    have hm : j ∈ (List.range n).filter fun i => !D.getD i false := by
      simp only [List.mem_filter, List.mem_range, Bool.not_eq_true']
      exact ⟨hj, by simpa [lis] using hl⟩
    rw [← he] at hm
    simp only [List.mem_filter, List.mem_range, Bool.not_eq_true'] at hm
    have := (lis_set (D := D) (j := j) (by omega) j).2 (.inl rfl)
    simp only [lis] at this
    rw [this] at hm
    cases hm.2
theorem ready_mem {i : Nat} (h : i ∈ Region.ready .any ops D) (hs : D.size = ops.size) : ∃ o, ops[i]? = some o ∧ ¬ lis D i ∧ ReadyAt D o := by
  simp only [Region.ready, List.mem_filter, List.mem_range, Bool.and_eq_true, Bool.not_eq_true'] at h
  obtain ⟨h1, h2, h3⟩ := h
  refine ⟨ops[i], Array.getElem?_eq_getElem h1, fun hl => ?_, fun e he hb => ?_⟩
  · simp only [lis, Array.getD_eq_getD_getElem?] at hl
    simp only [Array.getD_eq_getD_getElem?] at h2
    cases hd : D[i]? with
    | none => simp [hd] at hl
    | some x => simp [hd] at hl h2; rw [hl] at h2; cases h2
  · rw [Array.getElem?_eq_getElem h1] at h3
    simp only [Option.map_some, Option.getD_some, Array.all_eq_true_iff_forall_mem] at h3
    have := h3 e he
    simpa [hb, lis] using this
theorem all_run (hc : Can E r fid ops pl M F G W L) (hs : D.size = ops.size) (h : Region.ready .any ops D = []) : ∀ n i, i < n → i < ops.size → lis D i
  | 0, i, hn, _ => absurd hn (Nat.not_lt_zero _)
  | n + 1, i, hn, hi => by
    refine Classical.byContradiction fun hl => ?_
    have : i ∈ Region.ready .any ops D := by
      simp only [Region.ready, List.mem_filter, List.mem_range, Bool.and_eq_true, Bool.not_eq_true']
      refine ⟨hi, ?_, ?_⟩
      · simp only [lis, Array.getD_eq_getD_getElem?] at hl
        have hid : i < D.size := by omega
        simp only [Array.getD_eq_getD_getElem?, Array.getElem?_eq_getElem hid, Option.getD_some] at hl ⊢
        simpa using hl
      · rw [Array.getElem?_eq_getElem hi]
        simp only [Option.map_some, Option.getD_some, Array.all_eq_true_iff_forall_mem]
        intro e he
        by_cases hb : Region.binds .any e = true
        · have hlt := hc.back i _ (Array.getElem?_eq_getElem hi) e he hb
          have := all_run hc hs h n e.on (by omega) (by omega)
          simpa [hb, lis] using this
        · simp [hb]
    rw [h] at this
    cases this
theorem all_cnt (hc : Can E r fid ops pl M F G W L) (hI : Inv ops pl M F L D kk f g) (hall : ∀ i, i < ops.size → lis D i) : ∀ m, m ≤ M → cnt pl m ≤ kk
  | 0, _ => by rw [cnt_zero]; omega
  | m + 1, hm => by
    have hlt : m < pl.length := by have := hc.le; omega
    have hp : pl[m]? = some pl[m] := List.getElem?_eq_getElem hlt
    have ih := all_cnt hc hI hall m (by omega)
    rw [cnt_succ hp]
    split
    · rename_i ha
      have := (hI.count m _ hp ha).1 (hall m (by rw [← hc.len]; exact hlt))
      rw [planOk_act hc.plan hp ha] at this
      omega
    · omega
theorem all_end (hc : Can E r fid ops pl M F G W L) (hI : Inv ops pl M F L D kk f g) (hall : ∀ i, i < ops.size → lis D i) (hM : M = pl.length) : (F M).boxes = f.boxes ∧ G M = g ∧ ∀ t, f.vals.get t = (F M).vals.get t := by
  have h1 := all_cnt hc hI hall M (Nat.le_refl _)
  have h2 : kk = cnt pl M := Nat.le_antisymm hI.kM h1
  have h3 := hc.st M (Nat.le_refl _)
  rw [← h2, hI.stage] at h3
  simp only [Option.some.injEq, Prod.mk.injEq] at h3
  refine ⟨h3.1.symm, h3.2.symm, fun t => ?_⟩
  obtain ⟨m, g1, g2, g3, g4⟩ := hI.vals t
  have := get_between hc (t := t) (m := m) (M - m) (by omega) fun i o ho h4 h5 hd => by
    have := g2 i o ho (hall i (Array.getElem?_eq_some_iff.1 ho).1) hd
    omega
  rw [show m + (M - m) = M by omega] at this
  rw [g4, this]

theorem okOps_get' {n i : Nat} {o : Oper} (h : ops.all (okOper n) = true) (ho : ops[i]? = some o) : okOper n o = true := by
  rw [Array.all_eq_true_iff_forall_mem] at h
  exact h o (Array.mem_of_getElem? ho)
def RegEnd (P : Program) (ω : Om) (b : Frame) (k : List Item) (m : Machine) (cs : List Frame) (ex : Ex) (a : Act) (w : World) : Prop :=
  match ex with
  | .fall => Steps P m (lone (b.atR a k) cs w)
  | .jump _ => False
  | .pan v => ∃ x t, VR ω v x ∧ Steps P m (lone { b.atR a t with mode := .panicking [{ v := x, recovered := false }] } cs w)
theorem RegEnd.head {m m' : Machine} {ex : Ex} (h : Steps P m m') (e : RegEnd P ω b k m' cs ex a w) : RegEnd P ω b k m cs ex a w := by
  cases ex with
  | fall => exact h.trans e
  | jump c => exact e
  | pan v =>
    obtain ⟨x, t, h1, h2⟩ := e
    exact ⟨x, t, h1, h.trans h2⟩

theorem any_finish {n : Nat} {ex : Ex} {fr' : Fr} {H' : Heap} (hc : Can E r fid ops pl M F G W L) (hend : DEnd E r fid ops (F 0) pl M F G ex fr' H') (hI : Inv ops pl M F L D kk f g) (hall : ∀ i, i < ops.size → lis D i) (sr : SR ok ω g lo f a.tmps w) (hn : a.tmps.size = n) :
    ∃ ω' lo' a' w', a'.tmps.size = n ∧ a'.defers = a.defers ∧ Post ok ω g lo f w ω' H' lo' fr' a'.tmps w' ∧ RegEnd P ω' b k (lone (b.atR a (.inRegion ops [] :: k)) cs w) cs ex a' w' := by
  cases ex with
  | fall =>
    obtain ⟨e1, rfl, rfl⟩ := hend
    obtain ⟨g1, g2, g3⟩ := all_end hc hI hall e1
    refine ⟨ω, lo, a, w, hn, rfl, ?_, .one stepR_region_end⟩
    rw [g2]
    exact (Post.refl sr).less (a' := a) g1 fun t v ht => by rw [g3 t]; exact ht
  | jump c => exact hend.elim
  | pan v =>
    obtain ⟨p, fn, args, hp, _⟩ := hend
    have hlt : M < pl.length := by
      rcases Nat.lt_or_ge M pl.length with h | h
      · exact h
      · rw [List.getElem?_eq_none h] at hp; cases hp
    exact absurd (hI.below M (hall M (by rw [← hc.len]; exact hlt))) (Nat.lt_irrefl _)

theorem any_run {n : Nat} {ex : Ex} {fr' : Fr} {H' : Heap} (hE : RunOk E P) (hC : CallsOk ok P r) (hc : Can E r fid ops pl M F G W L) (hok : ops.all (okOper n) = true) (hend : DEnd E r fid ops (F 0) pl M F G ex fr' H') :
    ∀ (fuel t : Nat) (D : Array Bool) (kk : Nat) (f : Fr) (g : Heap) (ω : Om) (lo : Nat → Option Nat) (a : Act) (w : World), Inv ops pl M F L D kk f g → unl ops.size D ≤ fuel → SR ok ω g lo f a.tmps w → a.tmps.size = n →
      ∃ ω' lo' a' w', a'.tmps.size = n ∧ a'.defers = a.defers ∧ Post ok ω g lo f w ω' H' lo' fr' a'.tmps w' ∧ RegEnd P ω' b k (lone (b.atR a (.inRegion ops (Region.linearise.go .any ops fuel t D []) :: k)) cs w) cs ex a' w' := by
  intro fuel
  induction fuel with
  | zero =>
    intro t D kk f g ω lo a w hI hu sr hn
    refine any_finish hc hend hI (fun i hi => ?_) sr hn
    refine Classical.byContradiction fun hl => ?_
    have : 0 < unl ops.size D := by
      unfold unl
      refine List.length_pos_of_mem (a := i) ?_
      simp only [List.mem_filter, List.mem_range, Bool.not_eq_true']
      exact ⟨hi, by simpa [lis] using hl⟩
    omega
  | succ fuel ih =>
    intro t D kk f g ω lo a w hI hu sr hn
    simp only [Region.linearise.go]
    change ∃ ω' lo' a' w', a'.tmps.size = n ∧ a'.defers = a.defers ∧ Post ok ω g lo f w ω' H' lo' fr' a'.tmps w' ∧ RegEnd P ω' b k (lone (b.atR a (.inRegion ops (match (Region.ready .any ops D)[t % (Region.ready .any ops D).length]? with
      | some i => Region.linearise.go .any ops fuel (t / (Region.ready .any ops D).length) (D.setIfInBounds i true) [i]
      | none => [].reverse) :: k)) cs w) cs ex a' w'
    cases hi : (Region.ready .any ops D)[t % (Region.ready .any ops D).length]? with
    | none =>
      have hnil : Region.ready .any ops D = [] := by
        cases hr : Region.ready .any ops D with
        | nil => rfl
        | cons x xs =>
          rw [hr] at hi
          have hlt : t % (x :: xs).length < (x :: xs).length := Nat.mod_lt _ (by simp)
          simp at hi
          simp at hlt
          omega
      exact any_finish hc hend hI (fun i h => all_run hc hI.size hnil (i + 1) i (Nat.lt_succ_self _) h) sr hn
    | some i =>
      simp only []
      rw [linearise_go_acc, List.reverse_singleton, List.singleton_append]
      obtain ⟨o, ho, hnl, hr⟩ := ready_mem (List.mem_of_getElem? hi) hI.size
      have hilt : i < ops.size := (Array.getElem?_eq_some_iff.1 ho).1
      obtain ⟨p, hp⟩ : ∃ p, pl[i]? = some p := ⟨_, List.getElem?_eq_getElem (by rw [hc.len]; exact hilt)⟩
      obtain ⟨ho', hact, hof, hnb⟩ := hc.get i p hp
      rw [ho] at ho'
      simp only [Option.some.injEq] at ho'
      subst ho'
      have hoko := okOps_get' hok ho
      have hu' : unl ops.size (D.setIfInBounds i true) ≤ fuel := by
        have := unl_set hI.size hilt hnl
        omega
      rcases Nat.lt_or_ge i M with hiM | hiM
      · obtain ⟨kk', h | ⟨v, f1, g1, h1, h2, h3⟩ | ⟨v, fn, args, g1, h1, h2, h3, h4⟩⟩ := any_step hc hI hp hiM hnl hr
        · obtain ⟨a1, k1, k2, k3, k4⟩ := op_skip (P := P) (b := b) (k := k) (cs := cs) (rest := Region.linearise.go .any ops fuel (t / (Region.ready .any ops D).length) (D.setIfInBounds i true) []) sr hn ho hoko h.1
          obtain ⟨ω', lo', a', w', j1, j2, j3, j4⟩ := ih _ _ _ _ _ _ _ a1 w h.2 hu' k4.sr k2
          exact ⟨ω', lo', a', w', j1, j2.trans k3, k4.trans j3, j4.head (.one k1)⟩
        · obtain ⟨ω1, lo1, a1, w1, k1, k2, k3, k4⟩ := op_step (b := b) (k := k) (cs := cs) (rest := Region.linearise.go .any ops fuel (t / (Region.ready .any ops D).length) (D.setIfInBounds i true) []) hE.toEnvOk sr hn ho hoko h1 h2
          obtain ⟨ω', lo', a', w', j1, j2, j3, j4⟩ := ih _ _ _ _ _ _ _ a1 w1 h3 hu' k4.sr k2
          exact ⟨ω', lo', a', w', j1, j2.trans k3, k4.trans j3, j4.head (.one k1)⟩
        · obtain ⟨ω1, w1, a1, k1, k2, k3, k4⟩ := call_step (b := b) (k := k) (cs := cs) (rest := Region.linearise.go .any ops fuel (t / (Region.ready .any ops D).length) (D.setIfInBounds i true) []) hC sr hn ho hoko h1 h2 h3
          obtain ⟨ω', lo', a', w', j1, j2, j3, j4⟩ := ih _ _ _ _ _ _ _ a1 w1 h4 hu' k4.sr k2
          exact ⟨ω', lo', a', w', j1, j2.trans k3, k4.trans j3, j4.head k1⟩
      · cases ex with
        | fall =>
          obtain ⟨e1, _⟩ := hend
          have := hc.len
          omega
        | jump c => exact hend.elim
        | pan v =>
          obtain ⟨q, fn, args, hq, hqa, h1, h2, h3, h4, rfl⟩ := hend
          have hlow := low_le hc hI (i + 1) i p (Nat.lt_succ_self _) hp (.inr hr)
          rcases Nat.lt_or_ge M i with hlt | hge
          · exfalso
            have hm : p ∈ pl.drop (M + 1) := by
              rw [List.mem_iff_getElem?]
              exact ⟨i - (M + 1), by rw [List.getElem?_drop, show M + 1 + (i - (M + 1)) = i by omega]; exact hp⟩
            have := h4 p hm
            have := hI.below M ((hI.count M q hq hqa).2 (by omega))
            omega
          · have hiM' : i = M := by omega
            subst hiM'
            rw [hp] at hq
            simp only [Option.some.injEq] at hq
            subst hq
            obtain ⟨e1, e2⟩ := act_now hc hI hp hnl hr hqa
            have hst := hc.st i (Nat.le_refl _)
            rw [← e2, hI.stage] at hst
            simp only [Option.some.injEq, Prod.mk.injEq] at hst
            have hev := eval_look hc hI ho (Nat.le_refl _) hnl hr
            have hcg := stepOp_congr (frA := F i) (frB := f) (H := g) hof hnb hst.1.symm hev
            rw [hst.2, h2] at hcg
            simp only [Option.map_some, OR.onto] at hcg
            rw [← hst.2] at hcg h3
            obtain ⟨ω1, w1, x, k1, k2, k3⟩ := call_step (b := b) (k := k) (cs := cs) (rest := Region.linearise.go .any ops fuel (t / (Region.ready .any ops D).length) (D.setIfInBounds i true) []) hC sr hn ho hoko ((wants_look hc hI ho (Nat.le_refl _) hnl hr).trans h1) hcg h3
            refine ⟨ω1, lo, a, w1, hn, rfl, k3.less (a' := a) hst.1.symm (fun t v ht => ?_), x, _, k1, k2⟩
            dsimp only at ht
            have hfk := Al.get_filterKey (fun t => !(ops.toList.any fun o => o.dst == some t)) (F 0).vals t
            rw [show (Al.get (List.filter (fun q => !(ops.toList.any fun o => o.dst == some q.1)) (F 0).vals) t) = _ from hfk] at ht
            split at ht
            · rename_i hno
              simp only [Bool.not_eq_true', List.any_eq_false, beq_iff_eq] at hno
              obtain ⟨m, g1, g2, g3, g4⟩ := hI.vals t
              have := get_between hc (t := t) (m := 0) m (by omega) fun i' o' ho'' _ _ hd => hno o' (by simpa using Array.mem_of_getElem? ho'') hd
              rw [Nat.zero_add] at this
              rw [g4, this]
              exact ht
            · cases ht

theorem draw_ok {n id : Nat} {ex : Ex} {fr' : Fr} {H' : Heap} (hC : CallsOk ok P r) (hE : RunOk E P) (sr : SR ok ω H lo fr a.tmps w) (hn : a.tmps.size = n) (hok : ops.all (okOper n) = true) (hd : okDraw E fid ops = true)
    (h : drawRun E r fid ops fr (plan (E.isBuf fid) ops) fr H [(fr.boxes, H)] [] = some (ex, fr', H')) :
    fr'.defers = fr.defers ∧ fr'.rc = fr.rc ∧ ∃ ω' lo' a' w', a'.tmps.size = n ∧ a'.defers = a.defers ∧ Post ok ω H lo fr w ω' H' lo' fr' a'.tmps w' ∧ RegEnd P ω' b k (lone (b.atR a (.code (.region id ops true) :: k)) cs w) cs ex a' w' := by
  simp only [okDraw, Bool.and_eq_true, beq_iff_eq, List.all_eq_true] at hd
  obtain ⟨⟨⟨⟨d1, d2⟩, d3⟩, d4⟩, d5⟩ := hd
  have hget : ∀ (j : Nat) (p : POp), (plan (E.isBuf fid) ops)[j]? = some p → ops[j]? = some p.o ∧ p.act = acts (E.isBuf fid) p.o ∧ ofFrame p.o = false ∧ noBox E fid p.o = true := fun j p hp => by
    obtain ⟨h1, h2⟩ := plan_get hp
    have h3 := okOps_get' hok h1
    simp only [okOper, Bool.and_eq_true, Bool.not_eq_true'] at h3
    exact ⟨h1, h2, h3.2, d5 p.o (by simpa using Array.mem_of_getElem? h1)⟩
  obtain ⟨M, F, G, W, L, L', g1, g2, g3, g4, g5, g6, g7, g8, g9⟩ := can_of_run (plan (E.isBuf fid) ops) fr H [] [] h fun p hp => by
    obtain ⟨j, hj⟩ := List.mem_iff_getElem?.1 hp
    exact (hget j p hj).2
  subst g2
  have hc : Can E r fid ops (plan (E.isBuf fid) ops) M F G W L := ⟨d1, hget, fun j o ho e he hb => by simpa using edgesBack_get ops.toList 0 d2 j o (by simpa using ho) e he hb, d3, d4, g1, fun i hi => by simpa using g5 i hi, g7, fun i hi => g8 i hi⟩
  have hfin : fr'.defers = (F 0).defers ∧ fr'.rc = (F 0).rc := by
    cases ex with
    | fall => obtain ⟨_, rfl, _⟩ := g9; exact g8 M (Nat.le_refl _)
    | jump c => exact g9.elim
    | pan v => obtain ⟨_, _, _, _, _, _, _, _, _, rfl⟩ := g9; exact ⟨rfl, rfl⟩
  refine ⟨hfin.1, hfin.2, ?_⟩
  have hnl : ∀ i, ¬ lis (Array.replicate ops.size false) i := fun i hl => by
    simp only [lis, Array.getD_eq_getD_getElem?, Array.getElem?_replicate] at hl
    split at hl <;> simp at hl
  have hI : Inv ops (plan (E.isBuf fid) ops) M F L (Array.replicate ops.size false) 0 (F 0) H := by
    refine ⟨by simp, fun i hl => absurd hl (hnl i), fun j o _ hl => absurd hl (hnl j), fun j p _ _ => ⟨fun hl => absurd hl (hnl j), fun hl => absurd hl (Nat.not_lt_zero _)⟩, Nat.zero_le _, ?_, fun t => ⟨0, Nat.zero_le _, fun i _ _ hl => absurd hl (hnl i), fun i _ _ hl => absurd hl (Nat.not_lt_zero _), rfl⟩, rfl, rfl⟩
    have := g5 0 (Nat.zero_le _)
    rw [cnt_zero, g3] at this
    simpa using this
  have hp0 : Post ok ω H lo (F 0) w ω H lo (F 0) a.tmps { w with drawn := w.drawn + 1 } := Post.more sr (Nat.le_refl _) (fun _ _ => rfl) rfl rfl rfl
  obtain ⟨ω', lo', a', w', j1, j2, j3, j4⟩ := any_run (b := b) (k := k) (cs := cs) hE hC hc hok g9 ops.size (w.tape w.drawn (.order b.fn id)) (Array.replicate ops.size false) 0 (F 0) H ω lo a { w with drawn := w.drawn + 1 } hI (by
    unfold unl
    exact Nat.le_trans (List.length_filter_le _ _) (by simp)) hp0.sr hn
  refine ⟨ω', lo', a', w', j1, j2, hp0.trans j3, j4.head (.one ?_)⟩
  rw [stepR_region_draw]
  simp only [Region.schedule, hE.mixed, Bool.true_or, if_true, Region.linearise]
end
end Go.Abs
namespace Go.Abs

def ItemR (ω : Om) (b : Frame) : AItem → Item → Prop
  | .code c, y => y = .code c
  | .inBlock i, y => y = .inBlock i
  | .inLoop c, y => y = .inLoop c
  | .inScope c, y => y = .inScope c
  | .ops all rest, y => ∃ m, rest = all.toList.drop m ∧ y = .inRegion all ((List.range all.size).drop m)
  | .round l, y => ∃ bl, ω.φ l = some bl ∧ b.roundOf = some bl.b ∧ y = .beginRound
def ItemsR (ω : Om) (b : Frame) : List AItem → List Item → Prop
  | [], l => l = []
  | x :: xs, l => ∃ y ys, l = y :: ys ∧ ItemR ω b x y ∧ ItemsR ω b xs ys
def okItem (E : Env) (f : FuncId) (n : Nat) : AItem → Bool
  | .code c | .inLoop c | .inScope c => okCode E f n c
  | .ops all _ => all.all (okOper n)
  | _ => true
def roundR (ω : Om) (rc : Rc) (ro : Option Nat) : Prop :=
  match rc with
  | .ban l => ∃ bl, ω.φ l = some bl ∧ ro = some bl.b
  | .no => ro = none
  | _ => False
def EndsAs (P : Program) (ω : Om) (b : Frame) (m : Machine) (cs : List Frame) (ex : Ex) (a : Act) (w : World) : Prop :=
  match ex with
  | .fall => Steps P m (lone (b.atR a []) cs w)
  | .jump c => (c = .ret ∨ ∃ id, c = .exit id) ∧ ∃ k, (∀ id, c = .exit id → exitTo id k = none) ∧ Steps P m (lone (b.atR a (.code c :: k)) cs w)
  | .pan v => ∃ x t, VR ω v x ∧ Steps P m (lone { b.atR a t with mode := .panicking [{ v := x, recovered := false }] } cs w)
def Runs (ok : FuncId → Nat → Code → Prop) (P : Program) (n s : Nat) (ω : Om) (H : Heap) (lo : Nat → Option Nat) (fr : Fr) (a : Act) (w : World) (b : Frame) (todo : List Item) (cs : List Frame) (ex : Ex) (fr' : Fr) (H' : Heap) : Prop :=
  fr'.defers = [] ∧ fr'.rc = fr.rc ∧ ∃ ω' lo' a' w', Post ok ω H lo fr w ω' H' lo' fr' a'.tmps w' ∧ a'.tmps.size = n ∧ DR s ω' H' lo' fr' a'.defers w' ∧ (b.roundOf ≠ none → a'.defers = a.defers) ∧ EndsAs P ω' b (lone (b.atR a todo) cs w) cs ex a' w'
def ItemsOk (E : Env) (P : Program) (r : Ev) : Prop :=
  ∀ fid items fr H ex fr' H', r.items fid items fr H = some (ex, fr', H') → fr.defers = [] →
    ∀ ω lo a w b todo cs n s, SR (okP E P) ω H lo fr a.tmps w → a.tmps.size = n → (∀ x ∈ items, okItem E fid n x = true) → (∃ fn, P.funcs[fid]? = some fn) → ItemsR ω b items todo → b.fn = fid → s ≤ w.heap.size → DR s ω H lo fr a.defers w → roundR ω fr.rc b.roundOf →
      Runs (okP E P) P n s ω H lo fr a w b todo cs ex fr' H'

section
variable {P : Program} {ω : Om} {E : Env} {ok : FuncId → Nat → Code → Prop} {H : Heap} {lo : Nat → Option Nat} {fr : Fr} {a : Act} {w : World}
variable {b : Frame} {todo k : List Item} {cs : List Frame} {n s : Nat}

theorem EndsAs.head {m m' : Machine} {ex : Ex} (h : Steps P m m') (e : EndsAs P ω b m' cs ex a w) : EndsAs P ω b m cs ex a w := by
  cases ex with
  | fall => exact h.trans e
  | jump c =>
    obtain ⟨h1, k, h2, h3⟩ := e
    exact ⟨h1, k, h2, h.trans h3⟩
  | pan v =>
    obtain ⟨x, t, h1, h2⟩ := e
    exact ⟨x, t, h1, h.trans h2⟩
theorem Runs.head {ω1 : Om} {H1 : Heap} {lo1 : Nat → Option Nat} {fr1 fr' : Fr} {a1 : Act} {w1 : World} {todo1 : List Item} {ex : Ex} {H' : Heap} (h : Steps P (lone (b.atR a todo) cs w) (lone (b.atR a1 todo1) cs w1)) (p : Post ok ω H lo fr w ω1 H1 lo1 fr1 a1.tmps w1)
    (hrc : fr1.rc = fr.rc) (hd : b.roundOf ≠ none → a1.defers = a.defers) (r : Runs ok P n s ω1 H1 lo1 fr1 a1 w1 b todo1 cs ex fr' H') : Runs ok P n s ω H lo fr a w b todo cs ex fr' H' := by
  obtain ⟨hx, hy, ω', lo', a', w', h1, h2, h3, h4, h5⟩ := r
  exact ⟨hx, hy.trans hrc, ω', lo', a', w', p.trans h1, h2, h3, fun hb => (h4 hb).trans (hd hb), h5.head h⟩
theorem ItemR.mono {ω' : Om} (h : ω.le ω') {x : AItem} {y : Item} (hx : ItemR ω b x y) : ItemR ω' b x y := by
  cases x <;> simp only [ItemR] at hx ⊢ <;> try exact hx
  obtain ⟨bl, h1, h2⟩ := hx
  exact ⟨bl, h.φ _ _ h1, h2⟩
theorem ItemsR.mono {ω' : Om} (h : ω.le ω') : ∀ {xs : List AItem} {l : List Item}, ItemsR ω b xs l → ItemsR ω' b xs l
  | [], _, hx => hx
  | x :: xs, l, hx => by
    obtain ⟨y, ys, h1, h2, h3⟩ := hx
    exact ⟨y, ys, h1, h2.mono h, h3.mono h⟩
theorem roundR.mono {ω' : Om} (h : ω.le ω') {rc : Rc} {ro : Option Nat} (hr : roundR ω rc ro) : roundR ω' rc ro := by
  cases rc <;> simp only [roundR] at hr ⊢ <;> try exact hr
  obtain ⟨bl, h1, h2⟩ := hr
  exact ⟨bl, h.φ _ _ h1, h2⟩
theorem aExit_ok (id : Nat) : ∀ {xs : List AItem} {l : List Item}, ItemsR ω b xs l → (∀ k, aExit id xs = some k → ∃ k', exitTo id l = some k' ∧ ItemsR ω b k k' ∧ ∀ x ∈ k, x ∈ xs) ∧ (aExit id xs = none → exitTo id l = none)
  | [], l, h => by simp only [ItemsR] at h; subst h; simp [aExit, exitTo]
  | x :: xs, l, h => by
    obtain ⟨y, ys, rfl, h2, h3⟩ := h
    have ih := aExit_ok id h3
    have up : ∀ {k : List AItem}, (∀ z ∈ k, z ∈ xs) → ∀ z ∈ k, z ∈ x :: xs := fun hk z hz => by simp [hk z hz]
    cases x with
    | inBlock i =>
      simp only [ItemR] at h2
      subst h2
      simp only [aExit, exitTo, beq_iff_eq]
      by_cases e : i = id
      · simp only [e, if_true, Option.some.injEq, reduceCtorEq, false_implies, and_true]
        rintro k rfl
        exact ⟨ys, rfl, h3, fun z hz => by simp [hz]⟩
      · simp only [e, if_false]
        exact ⟨fun k hk => let ⟨k', g1, g2, g3⟩ := ih.1 k hk; ⟨k', g1, g2, up g3⟩, ih.2⟩
    | ops all rest =>
      obtain ⟨m, _, rfl⟩ := h2
      simp only [aExit, exitTo]
      exact ⟨fun k hk => let ⟨k', g1, g2, g3⟩ := ih.1 k hk; ⟨k', g1, g2, up g3⟩, ih.2⟩
    | round l =>
      obtain ⟨bl, _, _, rfl⟩ := h2
      simp only [aExit, exitTo]
      exact ⟨fun k hk => let ⟨k', g1, g2, g3⟩ := ih.1 k hk; ⟨k', g1, g2, up g3⟩, ih.2⟩
    | _ =>
      simp only [ItemR] at h2
      subst h2
      simp only [aExit, exitTo]
      exact ⟨fun k hk => let ⟨k', g1, g2, g3⟩ := ih.1 k hk; ⟨k', g1, g2, up g3⟩, ih.2⟩

theorem stepR_scope {c : Code} : step P (lone (b.atR a (.code (.scope c) :: k)) cs w) = .next (lone (b.atR a (.code c :: .inScope c :: k)) cs w) :=
  step_lone_go (by simp [stepG, stepG.exec, Frame.atR])
theorem stepR_inScope {c : Code} : step P (lone (b.atR a (.inScope c :: k)) cs w) = .next (lone (b.atR a k) cs w) :=
  step_lone_go (by simp [stepG, stepG.exec, Frame.atR])

theorem prune_get {fid : FuncId} {t : Nat} {v : V} (h : (E.prune fid fr).vals.get t = some v) : fr.vals.get t = some v := by
  unfold Env.prune at h
  dsimp only at h
  have := Al.get_filterKey (E.keep fid) fr.vals t
  rw [show (Al.get (List.filter (fun p => E.keep fid p.fst) fr.vals) t) = _ from this] at h
  split at h
  · exact h
  · cases h
end
end Go.Abs
namespace Go.Abs
section
variable {P : Program} {E : Env}

def ItemsFor (E : Env) (P : Program) (fid : FuncId) (items : List AItem) (fr : Fr) (H : Heap) (ex : Ex) (fr' : Fr) (H' : Heap) : Prop :=
    ∀ ω lo a w b todo cs n s, SR (okP E P) ω H lo fr a.tmps w → a.tmps.size = n → (∀ x ∈ items, okItem E fid n x = true) → (∃ fn, P.funcs[fid]? = some fn) → ItemsR ω b items todo → b.fn = fid → s ≤ w.heap.size → DR s ω H lo fr a.defers w → roundR ω fr.rc b.roundOf →
      Runs (okP E P) P n s ω H lo fr a w b todo cs ex fr' H'

theorem next_ok {r : Ev} {fid : FuncId} {items items' : List AItem} {fr fr1 fr' : Fr} {H H' : Heap} {ex : Ex} (hI : ItemsOk E P r) (h : r.items fid items' fr1 H = some (ex, fr', H')) (hd : fr.defers = [])
    (hb : fr1.boxes = fr.boxes) (hv : ∀ t v, fr1.vals.get t = some v → fr.vals.get t = some v) (hdef : fr1.defers = fr.defers) (hrc : fr1.rc = fr.rc)
    (hok : ∀ n, (∀ x ∈ items, okItem E fid n x = true) → ∀ x ∈ items', okItem E fid n x = true)
    (hs : ∀ ω lo a w b todo cs, SR (okP E P) ω H lo fr a.tmps w → ItemsR ω b items todo → ∃ todo', ItemsR ω b items' todo' ∧ step P (lone (b.atR a todo) cs w) = .next (lone (b.atR a todo') cs w)) :
    ItemsFor E P fid items fr H ex fr' H' := by
  have h3 := hI fid items' fr1 H ex fr' H' h (hdef.trans hd)
  intro ω lo a w b todo cs n s sr hn hoks hP hir hfn hs0 hdr hro
  obtain ⟨todo', g1, g2⟩ := hs ω lo a w b todo cs sr hir
  have hp : Post (okP E P) ω H lo fr w ω H lo fr1 a.tmps w := (Post.refl sr).less (a' := a) hb hv
  exact Runs.head (.one g2) hp hrc (fun _ => rfl) (h3 ω lo a w b todo' cs n s hp.sr hn (hok n hoks) hP g1 hfn hs0 (hdr.post hp) (hrc ▸ hro))
theorem same_ok {r : Ev} {fid : FuncId} {items items' : List AItem} {fr fr' : Fr} {H H' : Heap} {ex : Ex} (hI : ItemsOk E P r) (h : r.items fid items' fr H = some (ex, fr', H')) (hd : fr.defers = [])
    (hok : ∀ n, (∀ x ∈ items, okItem E fid n x = true) → ∀ x ∈ items', okItem E fid n x = true)
    (hs : ∀ ω lo a w b todo cs, SR (okP E P) ω H lo fr a.tmps w → ItemsR ω b items todo → ∃ todo', ItemsR ω b items' todo' ∧ step P (lone (b.atR a todo) cs w) = .next (lone (b.atR a todo') cs w)) :
    ItemsFor E P fid items fr H ex fr' H' := next_ok hI h hd rfl (fun _ _ h => h) rfl rfl hok hs

variable {r : Ev} {fid : FuncId} {k : List AItem} {fr fr' : Fr} {H H' : Heap} {ex : Ex}

theorem nil_ok (hd : fr.defers = []) : ItemsFor E P fid [] fr H .fall fr H :=
  fun ω lo a w b todo cs n s sr hn _ _ hir _ _ hdr _ => by
    simp only [ItemsR] at hir
    subst hir
    exact ⟨hd, rfl, ω, lo, a, w, .refl sr, hn, hdr, fun _ => rfl, .refl P _⟩
theorem inBlock_ok {id : Nat} (hI : ItemsOk E P r) (h : r.items fid k fr H = some (ex, fr', H')) (hd : fr.defers = []) : ItemsFor E P fid (.inBlock id :: k) fr H ex fr' H' :=
  same_ok hI h hd (fun n hx x hk => hx x (by simp [hk])) fun ω lo a w b todo cs sr hir => by
    obtain ⟨y, ys, rfl, rfl, h3⟩ := hir
    exact ⟨ys, h3, stepR_inBlock⟩
theorem inScope_ok {c : Code} (hI : ItemsOk E P r) (h : r.items fid k fr H = some (ex, fr', H')) (hd : fr.defers = []) : ItemsFor E P fid (.inScope c :: k) fr H ex fr' H' :=
  same_ok hI h hd (fun n hx x hk => hx x (by simp [hk])) fun ω lo a w b todo cs sr hir => by
    obtain ⟨y, ys, rfl, rfl, h3⟩ := hir
    exact ⟨ys, h3, stepR_inScope⟩
theorem inLoop_ok {c : Code} (hI : ItemsOk E P r) (h : r.items fid (.code c :: .inLoop c :: k) fr H = some (ex, fr', H')) (hd : fr.defers = []) : ItemsFor E P fid (.inLoop c :: k) fr H ex fr' H' :=
  same_ok hI h hd (fun n hx x hk => by
    simp only [List.mem_cons] at hk
    rcases hk with rfl | rfl | hk
    · exact hx (.inLoop c) (by simp)
    · exact hx (.inLoop c) (by simp)
    · exact hx x (by simp [hk])) fun ω lo a w b todo cs sr hir => by
    obtain ⟨y, ys, rfl, rfl, h3⟩ := hir
    exact ⟨_, ⟨_, _, rfl, rfl, _, _, rfl, rfl, h3⟩, stepR_inLoop⟩
theorem skip_ok (hI : ItemsOk E P r) (h : r.items fid k fr H = some (ex, fr', H')) (hd : fr.defers = []) : ItemsFor E P fid (.code .skip :: k) fr H ex fr' H' :=
  same_ok hI h hd (fun n hx x hk => hx x (by simp [hk])) fun ω lo a w b todo cs sr hir => by
    obtain ⟨y, ys, rfl, rfl, h3⟩ := hir
    exact ⟨ys, h3, stepR_skip⟩
theorem label_ok {l : Nat} (hI : ItemsOk E P r) (h : r.items fid k fr H = some (ex, fr', H')) (hd : fr.defers = []) : ItemsFor E P fid (.code (.label l) :: k) fr H ex fr' H' :=
  same_ok hI h hd (fun n hx x hk => hx x (by simp [hk])) fun ω lo a w b todo cs sr hir => by
    obtain ⟨y, ys, rfl, rfl, h3⟩ := hir
    exact ⟨ys, h3, stepR_label⟩
theorem seq_ok {x y : Code} (hI : ItemsOk E P r) (h : r.items fid (.code x :: .code y :: k) fr H = some (ex, fr', H')) (hd : fr.defers = []) : ItemsFor E P fid (.code (.seq x y) :: k) fr H ex fr' H' :=
  same_ok hI h hd (fun n hx z hk => by
    have h0 := hx (.code (.seq x y)) (by simp)
    simp only [okItem, okCode, Bool.and_eq_true] at h0
    simp only [List.mem_cons] at hk
    rcases hk with rfl | rfl | hk
    · exact h0.1
    · exact h0.2
    · exact hx z (by simp [hk])) fun ω lo a w b todo cs sr hir => by
    obtain ⟨y, ys, rfl, rfl, h3⟩ := hir
    exact ⟨_, ⟨_, _, rfl, rfl, _, _, rfl, rfl, h3⟩, stepR_seq⟩
theorem cond_ok {c : Operand} {x y : Code} {t : Bool} (hI : ItemsOk E P r) (hc : fr.eval c = some (.bool t)) (h : r.items fid (.code (if t then x else y) :: k) fr H = some (ex, fr', H')) (hd : fr.defers = []) : ItemsFor E P fid (.code (.cond c x y) :: k) fr H ex fr' H' :=
  same_ok hI h hd (fun n hx z hk => by
    have h0 := hx (.code (.cond c x y)) (by simp)
    simp only [okItem, okCode, Bool.and_eq_true] at h0
    simp only [List.mem_cons] at hk
    rcases hk with rfl | hk
    · cases t
      · exact h0.2
      · exact h0.1
    · exact hx z (by simp [hk])) fun ω lo a w b todo cs sr hir => by
    obtain ⟨y', ys, rfl, rfl, h3⟩ := hir
    have he := eval_ok sr.fr hc
    simp only [SlotR, VR] at he
    exact ⟨_, ⟨_, _, rfl, rfl, h3⟩, stepR_cond he⟩
theorem block_ok {id : Nat} {x : Code} (hI : ItemsOk E P r) (h : r.items fid (.code x :: .inBlock id :: k) fr H = some (ex, fr', H')) (hd : fr.defers = []) : ItemsFor E P fid (.code (.block id x) :: k) fr H ex fr' H' :=
  same_ok hI h hd (fun n hx z hk => by
    have h0 := hx (.code (.block id x)) (by simp)
    simp only [List.mem_cons] at hk
    rcases hk with rfl | rfl | hk
    · simpa only [okItem, okCode] using h0
    · rfl
    · exact hx z (by simp [hk])) fun ω lo a w b todo cs sr hir => by
    obtain ⟨y, ys, rfl, rfl, h3⟩ := hir
    exact ⟨_, ⟨_, _, rfl, rfl, _, _, rfl, rfl, h3⟩, stepR_block⟩
theorem loop_ok {x : Code} (hI : ItemsOk E P r) (h : r.items fid (.code x :: .inLoop x :: k) fr H = some (ex, fr', H')) (hd : fr.defers = []) : ItemsFor E P fid (.code (.loop x) :: k) fr H ex fr' H' :=
  same_ok hI h hd (fun n hx z hk => by
    have h0 := hx (.code (.loop x)) (by simp)
    simp only [List.mem_cons] at hk
    rcases hk with rfl | rfl | hk
    · simpa only [okItem, okCode] using h0
    · simpa only [okItem, okCode] using h0
    · exact hx z (by simp [hk])) fun ω lo a w b todo cs sr hir => by
    obtain ⟨y, ys, rfl, rfl, h3⟩ := hir
    exact ⟨_, ⟨_, _, rfl, rfl, _, _, rfl, rfl, h3⟩, stepR_loop⟩
theorem scope_ok {x : Code} (hI : ItemsOk E P r) (h : r.items fid (.code x :: .inScope x :: k) fr H = some (ex, fr', H')) (hd : fr.defers = []) : ItemsFor E P fid (.code (.scope x) :: k) fr H ex fr' H' :=
  same_ok hI h hd (fun n hx z hk => by
    have h0 := hx (.code (.scope x)) (by simp)
    simp only [List.mem_cons] at hk
    rcases hk with rfl | rfl | hk
    · simpa only [okItem, okCode] using h0
    · simpa only [okItem, okCode] using h0
    · exact hx z (by simp [hk])) fun ω lo a w b todo cs sr hir => by
    obtain ⟨y, ys, rfl, rfl, h3⟩ := hir
    exact ⟨_, ⟨_, _, rfl, rfl, _, _, rfl, rfl, h3⟩, stepR_scope⟩
theorem exit_ok {id : Nat} {k' : List AItem} (hI : ItemsOk E P r) (he : aExit id k = some k') (h : r.items fid k' fr H = some (ex, fr', H')) (hd : fr.defers = []) : ItemsFor E P fid (.code (.exit id) :: k) fr H ex fr' H' :=
  same_ok hI h hd (fun n hx z hk => by
    have : ∀ x ∈ k', x ∈ k := by
      have key : ∀ (xs : List AItem) (k : List AItem), aExit id xs = some k → ∀ x ∈ k, x ∈ xs := by
        intro xs
        induction xs with
        | nil => intro k hk; simp [aExit] at hk
        | cons x xs ih =>
          intro k hk y hy
          cases x <;> simp only [aExit] at hk <;> first
            | (exact List.mem_cons_of_mem _ (ih k hk y hy))
            | (split at hk
               · simp only [Option.some.injEq] at hk; subst hk; exact List.mem_cons_of_mem _ hy
               · exact List.mem_cons_of_mem _ (ih k hk y hy))
      exact key k k' he
    exact hx z (by simp [this z hk])) fun ω lo a w b todo cs sr hir => by
    obtain ⟨y, ys, rfl, rfl, h3⟩ := hir
    obtain ⟨k1, g1, g2, _⟩ := (aExit_ok id h3).1 k' he
    exact ⟨k1, g2, stepR_exit g1⟩
theorem jump_ok {c : Code} (hd : fr.defers = []) (hc : c = .ret ∨ ∃ id, c = .exit id ∧ aExit id k = none) : ItemsFor E P fid (.code c :: k) fr H (.jump c) fr H :=
  fun ω lo a w b todo cs n s sr hn _ _ hir _ _ hdr _ => by
    obtain ⟨y, ys, rfl, rfl, h3⟩ := hir
    refine ⟨hd, rfl, ω, lo, a, w, .refl sr, hn, hdr, fun _ => rfl, ?_, ys, ?_, .refl P _⟩
    · rcases hc with rfl | ⟨id, rfl, _⟩
      · exact .inl rfl
      · exact .inr ⟨id, rfl⟩
    · rintro id rfl
      rcases hc with hc | ⟨id', hc, hx⟩
      · cases hc
      · cases hc
        exact (aExit_ok id h3).2 hx
theorem region_ok {id : Nat} {ops : Array Oper} (hI : ItemsOk E P r) (h : r.items fid (.ops ops ops.toList :: k) fr H = some (ex, fr', H')) (hd : fr.defers = []) : ItemsFor E P fid (.code (.region id ops false) :: k) fr H ex fr' H' :=
  same_ok hI h hd (fun n hx z hk => by
    have h0 := hx (.code (.region id ops false)) (by simp)
    simp only [List.mem_cons] at hk
    rcases hk with rfl | hk
    · simpa [okItem, okCode] using h0
    · exact hx z (by simp [hk])) fun ω lo a w b todo cs sr hir => by
    obtain ⟨y, ys, rfl, rfl, h3⟩ := hir
    exact ⟨_, ⟨_, _, rfl, ⟨0, rfl, rfl⟩, h3⟩, stepR_region⟩
theorem opsEnd_ok {ops : Array Oper} (hI : ItemsOk E P r) (h : r.items fid k (E.prune fid fr) H = some (ex, fr', H')) (hd : fr.defers = []) : ItemsFor E P fid (.ops ops [] :: k) fr H ex fr' H' :=
  next_ok hI h hd rfl (fun _ _ hg => prune_get hg) rfl rfl (fun n hx x hk => hx x (by simp [hk])) fun ω lo a w b todo cs sr hir => by
    obtain ⟨y, ys, rfl, ⟨m, h1, rfl⟩, h3⟩ := hir
    have hl : (List.range ops.size).drop m = [] := by
      rw [List.drop_eq_nil_iff, List.length_range]
      have := List.drop_eq_nil_iff.1 h1.symm
      simpa using this
    exact ⟨ys, h3, by rw [hl]; exact stepR_region_end⟩
end
end Go.Abs
namespace Go.Abs
section
variable {P : Program} {E : Env} {ω : Om} {ok : FuncId → Nat → Code → Prop} {lo : Nat → Option Nat} {a : Act} {w : World}
variable {r : Ev} {fid : FuncId} {k : List AItem} {fr fr1 fr' : Fr} {H H1 H' : Heap} {ex : Ex} {o : Oper} {os : List Oper} {all : Array Oper} {v : V}

theorem ops_split {m : Nat} (h : o :: os = all.toList.drop m) : all[m]? = some o ∧ os = all.toList.drop (m + 1) ∧ (List.range all.size).drop m = m :: (List.range all.size).drop (m + 1) := by
  have hm : m < all.toList.length := by
    rcases Nat.lt_or_ge m all.toList.length with hl | hl
    · exact hl
    · rw [List.drop_eq_nil_iff.2 hl] at h; cases h
  rw [List.drop_eq_getElem_cons hm] at h
  simp only [List.cons.injEq] at h
  refine ⟨?_, h.2, ?_⟩
  · rw [h.1]
    simp only [Array.length_toList] at hm
    simp [hm]
  · simp only [Array.length_toList] at hm
    rw [List.drop_eq_getElem_cons (by simpa using hm)]
    simp

theorem builtinV_pan {bi : Builtin} {ts : List TypeId} {vs : List V} (h : builtinV E fr H bi ts vs = some (.pan v)) : bi = .panic ∧ ∃ t u, vs = [.iface t u] ∧ v = .iface t u := by
  unfold builtinV at h
  repeat' split at h
  all_goals first
    | cases h; done
    | (simp only [Option.map_eq_some_iff, reduceCtorEq, and_false, exists_false] at h; done)
    | (simp only [Option.some.injEq, OR.pan.injEq] at h; exact ⟨rfl, _, _, rfl, h.symm⟩)
theorem newBox_pan {d : Option Tmp} {cs : List V} (h : newBox E fid fr H d cs = some (.pan v)) : False := by
  unfold newBox at h
  repeat' split at h
  all_goals first
    | cases h; done
    | (simp only [Option.map_eq_some_iff, reduceCtorEq, and_false, exists_false, Option.some.injEq] at h)
theorem stepOp_pan (sr : SR ok ω H lo fr a.tmps w) (h : stepOp E fid fr H o = some (.pan v)) : ∃ x, VR ω v x ∧ (execOp a.eval o).run P w = .halt (.panic x) w := by
  unfold stepOp at h
  split at h
  all_goals (repeat' split at h)
  all_goals first
    | cases h; done
    | (simp only [Option.map_eq_some_iff, reduceCtorEq, and_false, exists_false, Option.some.injEq] at h; done)
    | exact (newBox_pan h).elim
    | skip
  · rename_i x heq _ t u hx
    simp only [Option.some.injEq, OR.pan.injEq] at h
    subst h
    have hv := (eval_ok sr.fr hx).vr rfl
    refine ⟨_, hv, ?_⟩
    simp only [VR] at hv
    obtain ⟨y, _, hy⟩ := hv
    simp [execOp, heq, Instr.panic, hy, goPanic]
  · rename_i c heq _ bi hb _ vs hvs hn
    obtain ⟨rfl, t, u, rfl, rfl⟩ := builtinV_pan h
    obtain ⟨g1, g2⟩ := evals_ok sr.fr hvs hn
    obtain ⟨y, hy, hv⟩ := args1 (xs := c.args.map a.eval) (by simpa using g1) (by simpa using g2)
    refine ⟨y, hv, ?_⟩
    simp only [VR] at hv
    obtain ⟨z, _, rfl⟩ := hv
    obtain ⟨callee, args, ats⟩ := c
    simp only at hb hy
    subst hb
    simp [execOp, heq, resolve, invoke, hy, builtin, Instr.panic, goPanic]
theorem pan_step {n i : Nat} {b : Frame} {rest : List Nat} {k : List Item} {cs : List Frame} (sr : SR ok ω H lo fr a.tmps w) (ho : all[i]? = some o) (hok : okOper n o = true) (hw : wants all fr o = some true) (h : stepOp E fid fr H o = some (.pan v)) :
    ∃ x, VR ω v x ∧ step P (lone (b.atR a (.inRegion all (i :: rest) :: k)) cs w) = .next (lone { b.atR a (.inRegion all (i :: rest) :: k) with mode := .panicking [{ v := x, recovered := false }] } cs w) := by
  obtain ⟨x, h1, h2⟩ := stepOp_pan (P := P) sr h
  simp only [okOper, Bool.and_eq_true, Bool.not_eq_true'] at hok
  refine ⟨x, h1, ?_⟩
  apply step_lone_go
  rw [stepGR_op ho (wants_ok sr.fr hw), Oper.semAt_eq _ _ _ (not_defer hok.2)]
  simp [stepG.apply, Sem.runT_eq, h2, GStep.bare_after, Frame.raise]
  rfl

theorem okOps_get {n i : Nat} (h : all.all (okOper n) = true) (ho : all[i]? = some o) : okOper n o = true := by
  rw [Array.all_eq_true_iff_forall_mem] at h
  exact h o (Array.mem_of_getElem? ho)

theorem opsItems {n : Nat} (h : ∀ x ∈ AItem.ops all (o :: os) :: k, okItem E fid n x = true) : all.all (okOper n) = true ∧ ∀ x ∈ AItem.ops all os :: k, okItem E fid n x = true := by
  have h0 := h (.ops all (o :: os)) (by simp)
  refine ⟨h0, fun x hx => ?_⟩
  simp only [List.mem_cons] at hx
  rcases hx with rfl | hx
  · exact h0
  · exact h x (by simp [hx])

theorem opSkip_ok (hI : ItemsOk E P r) (hw : wants all fr o = some false) (h : r.items fid (.ops all os :: k) (fr.put o.dst (.tup [])) H = some (ex, fr', H')) (hd : fr.defers = []) : ItemsFor E P fid (.ops all (o :: os) :: k) fr H ex fr' H' := by
  intro ω lo a w b todo cs n s sr hn hoks hP hir hfn hs0 hdr hro
  obtain ⟨y, ys, rfl, ⟨m, h1, rfl⟩, h3⟩ := hir
  obtain ⟨g1, g2, g3⟩ := ops_split h1
  obtain ⟨j1, j2⟩ := opsItems hoks
  obtain ⟨a', k1, k2, k3, k4⟩ := op_skip (P := P) (b := b) (k := ys) (cs := cs) (rest := (List.range all.size).drop (m + 1)) sr hn g1 (okOps_get j1 g1) hw
  have e1 : (fr.put o.dst (.tup [])).defers = fr.defers := by cases o.dst <;> rfl
  have e2 : (fr.put o.dst (.tup [])).rc = fr.rc := by cases o.dst <;> rfl
  rw [g3]
  exact Runs.head (.one k1) k4 e2 (fun _ => k3) (hI fid _ _ H ex fr' H' h (e1.trans hd) ω lo a' w b _ cs n s k4.sr k2 j2 hP ⟨_, _, rfl, ⟨m + 1, g2, rfl⟩, h3⟩ hfn hs0 (k3 ▸ hdr.post k4) (e2 ▸ hro))
theorem opVal_ok (hE : RunOk E P) (hI : ItemsOk E P r) (hw : wants all fr o = some true) (hv : stepOp E fid fr H o = some (.val v fr1 H1)) (h : r.items fid (.ops all os :: k) (fr1.put o.dst v) H1 = some (ex, fr', H')) (hd : fr.defers = []) : ItemsFor E P fid (.ops all (o :: os) :: k) fr H ex fr' H' := by
  intro ω lo a w b todo cs n s sr hn hoks hP hir hfn hs0 hdr hro
  obtain ⟨y, ys, rfl, ⟨m, h1, rfl⟩, h3⟩ := hir
  obtain ⟨g1, g2, g3⟩ := ops_split h1
  obtain ⟨j1, j2⟩ := opsItems hoks
  have hok := okOps_get j1 g1
  obtain ⟨ω', lo', a', w', k1, k2, k3, k4⟩ := op_step (b := b) (k := ys) (cs := cs) (rest := (List.range all.size).drop (m + 1)) hE.toEnvOk sr hn g1 hok hw hv
  simp only [okOper, Bool.and_eq_true, Bool.not_eq_true'] at hok
  obtain ⟨q1, q2⟩ := stepOp_keeps hok.2 hv
  have e1 : (fr1.put o.dst v).defers = fr.defers := by rw [← q1]; cases o.dst <;> rfl
  have e2 : (fr1.put o.dst v).rc = fr.rc := by rw [← q2]; cases o.dst <;> rfl
  rw [g3]
  exact Runs.head (.one k1) k4 e2 (fun _ => k3) (hI fid _ _ H1 ex fr' H' h (e1.trans hd) ω' lo' a' w' b _ cs n s k4.sr k2 j2 hP ⟨_, _, rfl, ⟨m + 1, g2, rfl⟩, h3.mono k4.evo.le⟩ hfn (Nat.le_trans hs0 k4.evo.size) (k3 ▸ hdr.post k4) (e2 ▸ hro.mono k4.evo.le))
theorem opPan_ok (hw : wants all fr o = some true) (hv : stepOp E fid fr H o = some (.pan v)) (hd : fr.defers = []) : ItemsFor E P fid (.ops all (o :: os) :: k) fr H (.pan v) fr H := by
  intro ω lo a w b todo cs n s sr hn hoks hP hir hfn hs0 hdr hro
  obtain ⟨y, ys, rfl, ⟨m, h1, rfl⟩, h3⟩ := hir
  obtain ⟨g1, g2, g3⟩ := ops_split h1
  obtain ⟨j1, j2⟩ := opsItems hoks
  obtain ⟨x, k1, k2⟩ := pan_step (P := P) (b := b) (k := ys) (cs := cs) (rest := (List.range all.size).drop (m + 1)) sr g1 (okOps_get j1 g1) hw hv
  rw [g3]
  exact ⟨hd, rfl, ω, lo, a, w, .refl sr, hn, hdr, fun _ => rfl, x, _, k1, .one k2⟩
theorem opCall_ok (hC : CallsOk (okP E P) P r) (hI : ItemsOk E P r) (hw : wants all fr o = some true) {f : V} {args : List V} {rec : Bool} (hv : stepOp E fid fr H o = some (.go f args)) (hc : r.call f args .no H = some (.ret v, rec, H1)) (h : r.items fid (.ops all os :: k) (fr.put o.dst v) H1 = some (ex, fr', H')) (hd : fr.defers = []) : ItemsFor E P fid (.ops all (o :: os) :: k) fr H ex fr' H' := by
  intro ω lo a w b todo cs n s sr hn hoks hP hir hfn hs0 hdr hro
  obtain ⟨y, ys, rfl, ⟨m, h1, rfl⟩, h3⟩ := hir
  obtain ⟨g1, g2, g3⟩ := ops_split h1
  obtain ⟨j1, j2⟩ := opsItems hoks
  obtain ⟨ω', w', a', k1, k2, k3, k4⟩ := call_step (b := b) (k := ys) (cs := cs) (rest := (List.range all.size).drop (m + 1)) hC sr hn g1 (okOps_get j1 g1) hw hv hc
  have e1 : (fr.put o.dst v).defers = fr.defers := by cases o.dst <;> rfl
  have e2 : (fr.put o.dst v).rc = fr.rc := by cases o.dst <;> rfl
  rw [g3]
  exact Runs.head k1 k4 e2 (fun _ => k3) (hI fid _ _ H1 ex fr' H' h (e1.trans hd) ω' lo a' w' b _ cs n s k4.sr k2 j2 hP ⟨_, _, rfl, ⟨m + 1, g2, rfl⟩, h3.mono k4.evo.le⟩ hfn (Nat.le_trans hs0 k4.evo.size) (k3 ▸ hdr.post k4) (e2 ▸ hro.mono k4.evo.le))
theorem opCallPan_ok (hC : CallsOk (okP E P) P r) (hw : wants all fr o = some true) {f : V} {args : List V} {rec : Bool} (hv : stepOp E fid fr H o = some (.go f args)) (hc : r.call f args .no H = some (.pan v, rec, H1)) (hd : fr.defers = []) : ItemsFor E P fid (.ops all (o :: os) :: k) fr H (.pan v) fr H1 := by
  intro ω lo a w b todo cs n s sr hn hoks hP hir hfn hs0 hdr hro
  obtain ⟨y, ys, rfl, ⟨m, h1, rfl⟩, h3⟩ := hir
  obtain ⟨g1, g2, g3⟩ := ops_split h1
  obtain ⟨j1, j2⟩ := opsItems hoks
  obtain ⟨ω', w', x, k1, k2, k3⟩ := call_step (b := b) (k := ys) (cs := cs) (rest := (List.range all.size).drop (m + 1)) hC sr hn g1 (okOps_get j1 g1) hw hv hc
  rw [g3]
  exact ⟨hd, rfl, ω', lo, a, w', k3, hn, hdr.post k3, fun _ => rfl, x, _, k1, k2⟩
theorem draw_items_ok {id : Nat} (hE : RunOk E P) (hC : CallsOk (okP E P) P r) (hI : ItemsOk E P r) (hdr : drawRun E r fid all fr (plan (E.isBuf fid) all) fr H [(fr.boxes, H)] [] = some (.fall, fr1, H1)) (h : r.items fid k (E.prune fid fr1) H1 = some (ex, fr', H')) (hd : fr.defers = []) : ItemsFor E P fid (.code (.region id all true) :: k) fr H ex fr' H' := by
  intro ω lo a w b todo cs n s sr hn hoks hP hir hfn hs0 hds hro
  obtain ⟨y, ys, rfl, rfl, h3⟩ := hir
  have h0 := hoks (.code (.region id all true)) (by simp)
  simp only [okItem, okCode, Bool.not_true, Bool.false_or, Bool.and_eq_true] at h0
  obtain ⟨q1, q2, ω', lo', a', w', k1, k2, k3, k4⟩ := draw_ok (id := id) (b := b) (k := ys) (cs := cs) hC hE sr hn h0.1 h0.2 hdr
  have k3' : Post (okP E P) ω H lo fr w ω' H1 lo' (E.prune fid fr1) a'.tmps w' := k3.less rfl fun _ _ hg => prune_get hg
  exact Runs.head k4 k3' q2 (fun _ => k2) (hI fid k _ H1 ex fr' H' h (q1.trans hd) ω' lo' a' w' b ys cs n s k3'.sr k1 (fun x hx => hoks x (by simp [hx])) hP (h3.mono k3.evo.le) hfn (Nat.le_trans hs0 k3.evo.size) (k2 ▸ hds.post k3') (show roundR ω' fr1.rc b.roundOf from q2 ▸ hro.mono k3.evo.le))
theorem draw_pan_ok {id : Nat} (hE : RunOk E P) (hC : CallsOk (okP E P) P r) (hdr : drawRun E r fid all fr (plan (E.isBuf fid) all) fr H [(fr.boxes, H)] [] = some (.pan v, fr1, H1)) (hd : fr.defers = []) : ItemsFor E P fid (.code (.region id all true) :: k) fr H (.pan v) fr1 H1 := by
  intro ω lo a w b todo cs n s sr hn hoks hP hir hfn hs0 hds hro
  obtain ⟨y, ys, rfl, rfl, h3⟩ := hir
  have h0 := hoks (.code (.region id all true)) (by simp)
  simp only [okItem, okCode, Bool.not_true, Bool.false_or, Bool.and_eq_true] at h0
  obtain ⟨q1, q2, ω', lo', a', w', k1, k2, k3, k4⟩ := draw_ok (id := id) (b := b) (k := ys) (cs := cs) hC hE sr hn h0.1 h0.2 hdr
  obtain ⟨x, t, k5, k6⟩ := k4
  exact ⟨q1.trans hd, q2, ω', lo', a', w', k3, k1, k2 ▸ hds.post k3, fun _ => k2, x, t, k5, k6⟩
end
end Go.Abs
namespace Go.Abs
section
variable {P : Program} {E : Env} {ω : Om} {lo : Nat → Option Nat} {a : Act} {w : World} {b : Frame} {cs : List Frame}
variable {r : Ev} {fid : FuncId} {k : List AItem} {fr fr1 fr' : Fr} {H H1 H' : Heap} {ex : Ex} {v : V}

theorem step_range {g : Operand} {ps : Array Tmp} {assign body : Code} {l : Nat} {mark : List Deferred} {w₁ w₂ : World} {nx : Next} {f0 : Frame} {k : List Item}
    (he : (Instr.enterLoop b.fn a.tmps ps assign body b.roundOf).run P w = .ok (l, mark) w₁)
    (hc : (callSem (a.eval g) #[.func (.yield l) #[] #[]]).run P w₁ = .ok nx w₂) (hf : entered P nx = some f0) :
    step P (lone (b.atR a (.code (.rangeFunc g ps assign body) :: k)) cs w) = .next (lone f0 (b.atR { a with defers := mark ++ a.defers } (.inRangeFunc l :: k) :: cs) w₂) := by
  apply step_lone_go
  have hev : (b.atR { a with defers := mark ++ a.defers } (.inRangeFunc l :: k)).eval = a.eval := Frame.eval_atR b { a with defers := mark ++ a.defers } (.inRangeFunc l :: k)
  simp only [stepG, stepG.exec, Frame.atR, Sem.runT_eq, he, GStep.bare_after] at hev ⊢
  have hc' : (do let d ← resolve a.eval { callee := .value g, args := #[.const (.func (.yield l) #[] #[])], argTypes := #[] } 0; invoke d.target d.args : Sem Next).run P w₁ = .ok nx w₂ := by
    rw [← hc]
    simp [resolve, callSem, Act.eval]
  rw [hev]
  exact apply_entered hc' hf (fun d k b => by simp)

theorem loop_at {id : Nat} {lp : ALoop} {bl : Blk} (h : WR (okP E P) ω H w) (hg : H.get id = some (.loop lp)) (hφ : ω.φ id = some bl) : ∃ l', w.heap[bl.b]? = some (.loop l') ∧ LRel (okP E P) ω lp l' := by
  obtain ⟨bl', h1, l', h2, h3⟩ := h.obj id _ hg rfl
  rw [hφ] at h1; cases h1
  exact ⟨l', h2, h3⟩
theorem run_getLoop {l : Nat} {x : Loop} (h : w.heap[l]? = some (.loop x)) : (Instr.getLoop l).run P w = .ok x w := by
  simp [Instr.getLoop, getObj, Sem.run, h]
theorem run_setLoop {l : Nat} {x : Loop} (h : w.heap[l]? = some (.loop x)) (o : Obj) : (setObj l o).run P w = .ok () (World.setMap w l o) := by
  simp only [setObj, Sem.run, h]
  rfl
theorem Post.setLoop {ok : FuncId → Nat → Code → Prop} {tmps : Array Value} (sr : SR ok ω H lo fr tmps w) {id : Nat} {lp lp1 : ALoop} {bl : Blk} {x : Loop} (hg : H.get id = some (.loop lp)) (hφ : ω.φ id = some bl) (hw : bl.b < w.heap.size) (h : LRel ok ω lp1 x) :
    Post ok ω H lo fr w ω (H.set id (.loop lp1)) lo fr tmps (World.setMap w bl.b (.loop x)) := by
  refine Post.set sr hg rfl hφ (fun b hne => ?_) (by simp [World.setMap]) rfl rfl rfl fun _ => ⟨x, ?_, h⟩
  · simp only [World.setMap, Array.getElem?_setIfInBounds]
    rw [if_neg (Ne.symm hne)]
  · simp only [World.setMap, Array.getElem?_setIfInBounds]
    simp [hw]

theorem enter_loop {n s : Nat} {g : Operand} {ps : Array Tmp} {assign body : Code} (sr : SR (okP E P) ω H lo fr a.tmps w) (hn : a.tmps.size = n) (hfn : b.fn = fid) (hs0 : s ≤ w.heap.size) (hds : DR s ω H lo fr a.defers w) (hro : roundR ω fr.rc b.roundOf) (hlive : roundLive fr.rc H = true)
    (hP : ∃ fn, P.funcs[fid]? = some fn) (hok : okCode E fid n (.rangeFunc g ps assign body) = true) :
    ∃ ω' l mark w', (Instr.enterLoop b.fn a.tmps ps assign body b.roundOf).run P w = .ok (l, mark) w' ∧ ω'.φ H.next = some ⟨l, 0, 0⟩ ∧ (b.roundOf ≠ none → mark = []) ∧ DR s ω' (H.alloc (.loop ⟨.ready, none, fid, fr.vals.map fun p => (p.1, dropLoc p.2), ps, assign, body⟩)) lo fr (mark ++ a.defers) w' ∧
      Post (okP E P) ω H lo fr w ω' (H.alloc (.loop ⟨.ready, none, fid, fr.vals.map fun p => (p.1, dropLoc p.2), ps, assign, body⟩)) lo fr a.tmps w' := by
  simp only [okCode, Bool.and_eq_true, Array.all_eq_true_iff_forall_mem, decide_eq_true_eq] at hok
  have hvals : ∀ (ω : Om) (H : Heap) (w : World), FR ω H lo fr a.tmps w → ∀ t v, Al.get (fr.vals.map fun p => (p.1, dropLoc p.2)) t = some v → VR ω v (a.tmps.getD t undef) := by
    intro ω H w hf t v hv
    rw [Al.get_map dropLoc] at hv
    simp only [Option.map_eq_some_iff] at hv
    obtain ⟨u, hu, rfl⟩ := hv
    have := hf.vals t u hu
    cases u <;> first | exact this | simp only [dropLoc, VR]
  have mk : ∀ (ω : Om) (H : Heap) (w : World) (d : Nat), SR (okP E P) ω H lo fr a.tmps w →
      Post (okP E P) ω H lo fr w ⟨fun i => if i = H.next then some ⟨w.heap.size, 0, 0⟩ else ω.φ i, ω.ro⟩ (H.alloc (.loop ⟨.ready, none, fid, fr.vals.map fun p => (p.1, dropLoc p.2), ps, assign, body⟩)) lo fr a.tmps (w.alloc (.loop { state := .ready, pending := none, fn := b.fn, tmps := a.tmps, params := ps, assign, body, defers := d })) := by
    intro ω H w d sr
    refine Post.new sr (.loop ⟨.ready, none, fid, fr.vals.map fun p => (p.1, dropLoc p.2), ps, assign, body⟩) (.loop { state := .ready, pending := none, fn := b.fn, tmps := a.tmps, params := ps, assign, body, defers := d }) 0 ⟨_, Go.heap_alloc_new w _, ?_⟩
    have hL : LRel (okP E P) ω ⟨.ready, none, fid, fr.vals.map fun p => (p.1, dropLoc p.2), ps, assign, body⟩ { state := .ready, pending := none, fn := b.fn, tmps := a.tmps, params := ps, assign, body, defers := d } :=
      { state := rfl, pending := rfl, fn := hfn, params := rfl, assign := rfl, body := rfl, vals := hvals ω H w sr.fr, okA := ⟨hP, hn ▸ hok.1.2⟩, okB := ⟨hP, hn ▸ hok.2⟩, okP := fun t ht => hn ▸ hok.1.1 t ht, okJ := fun c hc => by cases hc }
    refine LRel.mono (ω := ω) (ω' := ⟨fun i => if i = H.next then some ⟨w.heap.size, 0, 0⟩ else ω.φ i, ω.ro⟩) ⟨fun i b hi => ?_, fun _ _ h => h⟩ hL
    have := sr.wr.dom i b hi
    have hne : i ≠ H.next := by omega
    simp only [hne, if_false]
    exact hi
  cases hr : b.roundOf with
  | some l0 =>
    rw [hr] at hro
    cases hrc : fr.rc <;> rw [hrc] at hro hlive <;> simp only [roundR, reduceCtorEq] at hro
    rename_i la
    obtain ⟨bl, h1, h2⟩ := hro
    simp only [Option.some.injEq] at h2
    subst h2
    simp only [roundLive] at hlive
    split at hlive
    · rename_i lp hg
      obtain ⟨x, h3, _⟩ := loop_at sr.wr hg h1
      have hp := mk ω H w x.defers sr
      refine ⟨_, w.heap.size, [], _, ?_, by simp, fun _ => rfl, ?_, hp⟩
      · simp only [Instr.enterLoop, Sem.run_bind, run_getLoop h3, Result.andThen_ok, Sem.run_pure, run_newObj]
        rfl
      · exact hds.post hp
    · cases hlive
  | none =>
    have hp0 : Post (okP E P) ω H lo fr w ω H lo fr a.tmps (w.alloc (.deferred (some []))) := Post.more sr (by simp) (fun b hb => Go.heap_alloc_old w _ b hb) rfl rfl rfl
    have hp1 := mk ω H (w.alloc (.deferred (some []))) w.heap.size hp0.sr
    have hds1 : DR s ω H lo fr ([markOf w.heap.size] ++ a.defers) (w.alloc (.deferred (some []))) := by
      obtain ⟨rs, g1, g2, g3⟩ := hds.post hp0
      refine ⟨w.heap.size :: rs, by simp [g1], ?_, fun x hx => ?_⟩
      · rw [List.nodup_cons]
        refine ⟨fun hm => ?_, g2⟩
        obtain ⟨rs', g1', g2', g3'⟩ := hds
        have : rs = rs' := by
          have e : rs.map markOf = rs'.map markOf := g1.symm.trans g1'
          have inj : ∀ x y, markOf x = markOf y → x = y := fun x y h => by simpa [markOf] using h
          exact List.map_inj_right (fun {x y} h => inj x y h) |>.1 e
        subst this
        have := (Array.getElem?_eq_some_iff.1 (g3' _ hm).2.1).1
        omega
      · simp only [List.mem_cons] at hx
        rcases hx with rfl | hx
        · refine ⟨hs0, Go.heap_alloc_new w _, fun ho => Nat.lt_irrefl _ (sr.wr.owns_lt ho), ?_, ?_⟩
          · cases hro : ω.ro w.heap.size with
            | none => rfl
            | some o => exact (Nat.lt_irrefl _ (sr.wr.ro_lt hro)).elim
          · rintro ⟨t, ht, hlo⟩
            cases hb : fr.boxes.get t with
            | none => simp [hb] at ht
            | some c =>
              obtain ⟨b', cs', el, j1, j2, _⟩ := sr.fr.boxes t c hb
              rw [hlo] at j1; cases j1
              exact Nat.lt_irrefl _ (Array.getElem?_eq_some_iff.1 j2).1
        · exact g3 x hx
    refine ⟨_, (w.alloc (.deferred (some []))).heap.size, [markOf w.heap.size], _, ?_, by simp, fun h => (h rfl).elim, hds1.post hp1, hp0.trans hp1⟩
    simp only [Instr.enterLoop, Sem.run_bind, Sem.run_pure, run_newObj, Result.andThen_ok]
    rfl

theorem yieldR {ω : Om} {i l : Nat} (h : ω.φ i = some ⟨l, 0, 0⟩) : VRs ω [.fn (.yield i) [] []] (#[Value.func (.yield l) #[] #[]] : Array Value).toList := by
  refine VRs.one ?_
  simp only [VR]
  exact ⟨.yield l, #[], #[], ⟨_, h, rfl⟩, rfl, by simp [VRs], rfl, by simp [VRs], rfl⟩
theorem run_endLoop {l : Nat} {x : Loop} (h : w.heap[l]? = some (.loop x)) (hb : x.state ≠ .busy) : (Instr.endLoop l).run P w = .ok x.pending (World.setMap w l (.loop { x with state := .exhausted })) := by
  have hb' : (x.state == LoopState.busy) = false := by cases hs : x.state <;> first | rfl | exact absurd hs hb
  simp only [Instr.endLoop, Sem.run_bind, run_getLoop h, Result.andThen_ok, hb', Bool.false_eq_true, if_false, run_setLoop h, Sem.run_pure]

theorem range_ok {f : Operand} {ps : Array Tmp} {assign body : Code} {g u : V} {lp : ALoop} {rec : Bool} (hC : CallsOk (okP E P) P r) (hI : ItemsOk E P r) (hd : fr.defers = []) (hlive : roundLive fr.rc H = true) (hf : fr.eval f = some g)
    (hc : r.call g [.fn (.yield H.next) [] []] .no (H.alloc (.loop ⟨.ready, none, fid, fr.vals.map fun p => (p.1, dropLoc p.2), ps, assign, body⟩)) = some (.ret u, rec, H1)) (hg : H1.get H.next = some (.loop lp)) (hb : lp.state ≠ .busy)
    (h : r.items fid ((lp.pending.map AItem.code).toList ++ k) fr (H1.set H.next (.loop { lp with state := .exhausted })) = some (ex, fr', H')) : ItemsFor E P fid (.code (.rangeFunc f ps assign body) :: k) fr H ex fr' H' := by
  intro ω lo a w b todo cs n s sr hn hoks hP hir hfn hs0 hds hro
  obtain ⟨y, ys, rfl, rfl, h3⟩ := hir
  have hok := hoks (.code (.rangeFunc f ps assign body)) (by simp)
  obtain ⟨ω1, l, mark, w1, e1, e2, e3, e4, e5⟩ := enter_loop (g := f) sr hn hfn hs0 hds hro hlive hP hok
  obtain ⟨hgl, _, hcall⟩ := hC _ _ _ _ _ _ hc
  obtain ⟨ω2, w2, nx, f0, f1, c1, c2, c3, c4, c5, c6⟩ := hcall ω1 w1 (a.eval f) #[.func (.yield l) #[] #[]] (b.atR { a with defers := mark ++ a.defers } (.inRangeFunc l :: ys)) cs e5.sr.wr ((eval_ok e5.sr.fr hf).vr hgl) rfl (yieldR e2)
  have p2 := e5.trans (Post.heap e5.sr c1 c2)
  obtain ⟨x, hx, rfl⟩ := c5
  have hφ : ω2.φ H.next = some ⟨l, 0, 0⟩ := c1.le.φ _ _ e2
  obtain ⟨x', g1, g2⟩ := loop_at c2 hg hφ
  have hs := run_endLoop (P := P) g1 (by rw [g2.state]; exact hb)
  have p3 := Post.setLoop (lp1 := { lp with state := .exhausted }) (x := { x' with state := .exhausted }) p2.sr hg hφ (Array.getElem?_eq_some_iff.1 g1).1 { g2 with state := rfl }
  have p4 := p2.trans p3
  have hds4 : DR s ω2 (H1.set H.next (.loop { lp with state := .exhausted })) lo fr (mark ++ a.defers) _ := (e4.post (Post.heap e5.sr c1 c2)).post p3
  have steps : Steps P (lone (b.atR a (.code (.rangeFunc f ps assign body) :: ys)) cs w) (lone (b.atR { a with defers := mark ++ a.defers } ((x'.pending.map Item.code).toList ++ ys)) cs (World.setMap w2 l (.loop { x' with state := .exhausted }))) := by
    refine .head (step_range e1 c3 c4) (c6.trans (.one ?_))
    rw [finish_atR_inRangeFunc]
    exact stepR_endRangeFunc hs
  have hir' : ItemsR ω2 b ((lp.pending.map AItem.code).toList ++ k) ((x'.pending.map Item.code).toList ++ ys) := by
    rw [g2.pending]
    cases lp.pending with
    | none => exact h3.mono p2.evo.le
    | some c => exact ⟨_, _, rfl, rfl, h3.mono p2.evo.le⟩
  refine Runs.head steps p4 rfl (fun hb => by simp [e3 hb]) (hI fid _ fr _ ex fr' H' h hd ω2 lo { a with defers := mark ++ a.defers } _ b _ cs n s p4.sr hn ?_ hP hir' hfn (Nat.le_trans hs0 p4.evo.size) hds4 (hro.mono p4.evo.le))
  intro z hz
  simp only [List.mem_append] at hz
  rcases hz with hz | hz
  · cases hp : lp.pending with
    | none => simp [hp] at hz
    | some c =>
      simp only [hp, Option.map_some, Option.toList_some, List.mem_singleton] at hz
      subst hz
      rcases g2.okJ c hp with ⟨id, rfl⟩ | rfl <;> rfl
  · exact hoks z (by simp [hz])
theorem range_pan_ok {f : Operand} {ps : Array Tmp} {assign body : Code} {g : V} {rec : Bool} (hC : CallsOk (okP E P) P r) (hd : fr.defers = []) (hlive : roundLive fr.rc H = true) (hf : fr.eval f = some g)
    (hc : r.call g [.fn (.yield H.next) [] []] .no (H.alloc (.loop ⟨.ready, none, fid, fr.vals.map fun p => (p.1, dropLoc p.2), ps, assign, body⟩)) = some (.pan v, rec, H1)) : ItemsFor E P fid (.code (.rangeFunc f ps assign body) :: k) fr H (.pan v) fr H1 := by
  intro ω lo a w b todo cs n s sr hn hoks hP hir hfn hs0 hds hro
  obtain ⟨y, ys, rfl, rfl, h3⟩ := hir
  have hok := hoks (.code (.rangeFunc f ps assign body)) (by simp)
  obtain ⟨ω1, l, mark, w1, e1, e2, e3, e4, e5⟩ := enter_loop (g := f) sr hn hfn hs0 hds hro hlive hP hok
  obtain ⟨hgl, _, hcall⟩ := hC _ _ _ _ _ _ hc
  obtain ⟨ω2, w2, nx, f0, f1, c1, c2, c3, c4, c5, c6⟩ := hcall ω1 w1 (a.eval f) #[.func (.yield l) #[] #[]] (b.atR { a with defers := mark ++ a.defers } (.inRangeFunc l :: ys)) cs e5.sr.wr ((eval_ok e5.sr.fr hf).vr hgl) rfl (yieldR e2)
  have p2 := Post.heap e5.sr c1 c2
  obtain ⟨x, hx, rfl⟩ := c5
  exact ⟨hd, rfl, ω2, lo, { a with defers := mark ++ a.defers }, w2, e5.trans p2, hn, e4.post p2, fun hb => by simp [e3 hb], x, _, hx, .head (step_range e1 c3 c4) c6⟩
end
end Go.Abs
namespace Go.Abs
section
variable {P : Program} {E : Env} {ω : Om} {lo : Nat → Option Nat} {a : Act} {w : World} {b c : Frame} {cs : List Frame}
variable {r : Ev} {fid : FuncId} {k : List AItem} {fr fr1 fr' : Fr} {H H1 H' : Heap} {ex : Ex} {v : V}

theorem run_beginRound {l : Nat} {x : Loop} (h : w.heap[l]? = some (.loop x)) (hs : x.state = .ready) : (Instr.beginRound l).run P w = .ok () (World.setMap w l (.loop { x with state := .busy })) := by
  simp only [Instr.beginRound, Sem.run_bind, run_getLoop h, Result.andThen_ok, run_setLoop h, hs, Sem.run_pure]
theorem run_endRound {l : Nat} {x : Loop} (h : w.heap[l]? = some (.loop x)) (j : Option Code) : (Instr.endRound l j).run P w = .ok (.bool j.isNone) (World.setMap w l (.loop { x with state := if j.isNone then .ready else .done, pending := j })) := by
  simp only [Instr.endRound, Sem.run_bind, run_getLoop h, Result.andThen_ok, run_setLoop h, Sem.run_pure]
theorem round_item_ok {l : Nat} {lp : ALoop} (hI : ItemsOk E P r) (hg : H.get l = some (.loop lp)) (hs : lp.state = .ready) (h : r.items fid k fr (H.set l (.loop { lp with state := .busy })) = some (ex, fr', H')) (hd : fr.defers = []) : ItemsFor E P fid (.round l :: k) fr H ex fr' H' := by
  intro ω lo a w b todo cs n s sr hn hoks hP hir hfn hs0 hds hro
  obtain ⟨y, ys, rfl, ⟨bl, hφ, hb, rfl⟩, h3⟩ := hir
  obtain ⟨x, g1, g2⟩ := loop_at sr.wr hg hφ
  have hp := Post.setLoop (lp1 := { lp with state := .busy }) (x := { x with state := .busy }) sr hg hφ (Array.getElem?_eq_some_iff.1 g1).1 { g2 with state := rfl }
  exact Runs.head (.one (stepR_beginRound hb (run_beginRound g1 (by rw [g2.state]; exact hs)))) hp rfl (fun _ => rfl) (hI fid k fr _ ex fr' H' h hd ω lo a _ b ys cs n s hp.sr hn (fun z hz => hoks z (by simp [hz])) hP h3 hfn (Nat.le_trans hs0 hp.evo.size) (hds.post hp) hro)

theorem items_main (hE : RunOk E P) (hC : CallsOk (okP E P) P r) (hI : ItemsOk E P r) : ItemsOk E P (aStep E r) := by
  intro fid items fr H ex fr' H' h hd
  change ItemsFor E P fid items fr H ex fr' H'
  change aItems E r fid items fr H = some (ex, fr', H') at h
  unfold aItems at h
  split at h
  · simp only [Option.some.injEq, Prod.mk.injEq] at h
    obtain ⟨rfl, rfl, rfl⟩ := h
    exact nil_ok hd
  · exact inBlock_ok hI h hd
  · exact inScope_ok hI h hd
  · exact inLoop_ok hI h hd
  · split at h
    · rename_i lp hg
      split at h
      · rename_i hs
        exact round_item_ok hI hg hs h hd
      · cases h
    · cases h
  · split at h
    · exact skip_ok hI h hd
    · exact seq_ok hI h hd
    · split at h
      · rename_i hc
        exact cond_ok hI hc h hd
      · cases h
    · exact block_ok hI h hd
    · exact loop_ok hI h hd
    · exact scope_ok hI h hd
    · exact label_ok hI h hd
    · split at h
      · rename_i hx
        exact exit_ok hI hx h hd
      · rename_i hx
        simp only [Option.some.injEq, Prod.mk.injEq] at h
        obtain ⟨rfl, rfl, rfl⟩ := h
        exact jump_ok hd (.inr ⟨_, rfl, hx⟩)
    · simp only [Option.some.injEq, Prod.mk.injEq] at h
      obtain ⟨rfl, rfl, rfl⟩ := h
      exact jump_ok hd (.inl rfl)
    · exact region_ok hI h hd
    · split at h
      · rename_i hx
        exact draw_items_ok hE hC hI hx h hd
      · rename_i hx
        simp only [Option.some.injEq, Prod.mk.injEq] at h
        obtain ⟨rfl, rfl, rfl⟩ := h
        exact draw_pan_ok hE hC hx hd
      · cases h
    · split at h
      · cases h
      · rename_i hlive
        simp only [Bool.not_eq_true', Bool.not_eq_false] at hlive
        split at h
        · rename_i g hf
          split at h
          · rename_i hc
            split at h
            · rename_i lp hg
              split at h
              · cases h
              · rename_i hb
                have hb' : lp.state ≠ .busy := fun e => hb e
                split at h
                · rename_i hp
                  exact range_ok hC hI hd hlive hf hc hg hb' (by simp only [hp, Option.map_none, Option.map_some, Option.toList_none, Option.toList_some, List.nil_append, List.singleton_append] at h ⊢; exact h)
                · rename_i cc hp
                  exact range_ok hC hI hd hlive hf hc hg hb' (by simp only [hp, Option.map_none, Option.map_some, Option.toList_none, Option.toList_some, List.nil_append, List.singleton_append] at h ⊢; exact h)
            · cases h
          · rename_i hc
            simp only [Option.some.injEq, Prod.mk.injEq] at h
            obtain ⟨rfl, rfl, rfl⟩ := h
            exact range_pan_ok hC hd hlive hf hc
          · cases h
        · cases h
    · cases h
  · exact opsEnd_ok hI h hd
  · split at h
    · cases h
    · rename_i hw
      exact opSkip_ok hI hw h hd
    · rename_i hw
      split at h
      · rename_i hv
        exact opVal_ok hE hI hw hv h hd
      · rename_i hv
        simp only [Option.some.injEq, Prod.mk.injEq] at h
        obtain ⟨rfl, rfl, rfl⟩ := h
        exact opPan_ok hw hv hd
      · rename_i hv
        split at h
        · rename_i hc
          exact opCall_ok hC hI hw hv hc h hd
        · rename_i hc
          simp only [Option.some.injEq, Prod.mk.injEq] at h
          obtain ⟨rfl, rfl, rfl⟩ := h
          exact opCallPan_ok hC hw hv hc hd
        · cases h
      · cases h

theorem zipFrom_get : ∀ (vs : List V) (i t : Nat), Al.get (zipFrom vs i) t = if i ≤ t then vs[t - i]? else none
  | [], i, t => by simp [zipFrom, Al.get]
  | v :: vs, i, t => by
    simp only [zipFrom, Al.get, zipFrom_get vs (i + 1) t]
    by_cases h : i = t
    · subst h; simp
    · by_cases hl : i ≤ t
      · have h1 : i + 1 ≤ t := by omega
        have h2 : t - i = (t - (i + 1)) + 1 := by omega
        simp [h, hl, h1, h2]
      · have h1 : ¬ i + 1 ≤ t := by omega
        simp [h, hl, h1]
theorem putParams_ok {ω : Om} : ∀ (ps : List Tmp) (vs : List V) (xs : List Value) (m m' : Al V) (tm : Array Value), putParams ps vs m = some m' → vs.length = xs.length → VRs ω vs xs → (∀ t ∈ ps, t < tm.size) → (∀ t v, m.get t = some v → VR ω v (tm.getD t undef)) →
    ((ps.zip xs).foldl (fun tmps (t, a) => tmps.setIfInBounds t a) tm).size = tm.size ∧ ∀ t v, m'.get t = some v → VR ω v (((ps.zip xs).foldl (fun tmps (t, a) => tmps.setIfInBounds t a) tm).getD t undef)
  | [], [], xs, m, m', tm, h, hl, _, _, hm => by
    simp only [putParams, Option.some.injEq] at h
    subst h
    simpa using hm
  | p :: ps, v :: vs, xs, m, m', tm, h, hl, hv, hp, hm => by
    simp only [putParams] at h
    simp only [VRs] at hv
    obtain ⟨x, l, rfl, h1, h2⟩ := hv
    have hpt : p < tm.size := hp p (by simp)
    obtain ⟨g1, g2⟩ := putParams_ok ps vs l (m.put p v) m' (tm.setIfInBounds p x) h (by simpa using hl) h2 (fun t ht => by simpa using hp t (by simp [ht])) (fun t u ht => by
      rw [Al.get_put] at ht
      simp only [Array.getD_eq_getD_getElem?, Array.getElem?_setIfInBounds]
      by_cases e : p = t
      · subst e
        simp only [if_true, Option.some.injEq] at ht
        subst ht
        simpa [hpt] using h1
      · simp only [e, if_false] at ht ⊢
        simpa using hm t u ht)
    exact ⟨by simpa using g1, by simpa using g2⟩
  | [], _ :: _, _, _, _, _, h, _, _, _, _ => by simp [putParams] at h
  | _ :: _, [], _, _, _, _, h, _, _, _, _ => by simp [putParams] at h

theorem FR.fresh {tmps : Array Value} {vals : Al V} {rc : Rc} (h : ∀ t v, vals.get t = some v → VR ω v (tmps.getD t undef)) : FR ω H (fun _ => none) ⟨vals, [], [], rc⟩ tmps w where
  vals := fun t v ht => .of_vr (h t v ht)
  boxes := fun t cs ht => by simp [Al.get] at ht
  inj := fun s t b hs => by simp [Al.get] at hs
theorem boxOf_fresh {vals : Al V} {rc : Rc} (b : Nat) : ¬ boxOf (fun _ => none) ⟨vals, [], [], rc⟩ b := by
  rintro ⟨t, ht, _⟩
  simp [Al.get] at ht

theorem Evo.touch {L : Nat → Prop} {ω' : Om} {w' w'' : World} (e : Evo L ω H w ω' H' w') (hsz : w''.heap.size = w'.heap.size) (hk : ∀ b, b < w.heap.size → w''.heap[b]? = w'.heap[b]?) (h1 : w''.tape = w'.tape) (h2 : w''.os = w'.os) (h3 : w''.output = w'.output) : Evo L ω H w ω' H' w'' :=
  { e with size := by rw [hsz]; exact e.size, keep := fun b hb ho hl => (hk b hb).trans (e.keep b hb ho hl), tape := h1.trans e.tape, os := h2.trans e.os, out := h3.trans e.out }

theorem run_callFunc {g : FuncId} {fn : Func} {cd : Code} {first cap args : Array Value} (hf : P.funcs[g]? = some fn) (hb : fn.body = some cd) (hn : (fn.name == "runtime.NumGoroutine") = false) :
    (callSem (.func (.func g) first cap) args).run P w = .ok (.enter g (first ++ args ++ cap)) w := by
  have hn' : fn.name ≠ "runtime.NumGoroutine" := by simpa using hn
  simp [callSem, Deferred.ofValue, invoke, callFunc, hf, hb, hn']

def ModeFor (ω : Om) : Option V → FrameMode → Prop
  | none, m => m = .returning
  | some v, m => ∃ x, VR ω v x ∧ m = .panicking [{ v := x, recovered := false }]
def ExFor : Option V → Ex → Prop
  | none, ex => ex = .fall ∨ ex = .jump .ret
  | some v, ex => ex = .pan v
theorem end_ok {g : FuncId} {fn : Func} {m : Option V} {res : FRes} {rec : Bool} {ω' : Om} {lo' : Nat → Option Nat} {w' : World} {m0 : Machine} (hE : RunOk E P) (hf : P.funcs[g]? = some fn) (hb : b.fn = g) (hk : b.kind = .normal)
    (hd : fr'.defers = []) (hend : endFn E r fn m fr' H' = some (res, rec, H1)) (e : Evo (fun _ => False) ω H w ω' H' w') (sr : SR (okP E P) ω' H' lo' fr' a.tmps w') (hds : DR w.heap.size ω' H' lo' fr' a.defers w') {mode : FrameMode} {t : List Item}
    (hm : ModeFor ω' m mode) (hs : Steps P m0 (lone { b.atR a t with mode := mode } (c :: cs) w')) :
    H1 = H' ∧ ∃ w'' f1, Evo (fun _ => False) ω H w ω' H' w'' ∧ WR (okP E P) ω' H' w'' ∧ doneAs c ω' res f1 ∧ Steps P m0 (lone f1 cs w'') := by
  obtain ⟨rs, g1, g2, g3⟩ := hds
  have hmode : mode ≠ .run := by
    cases m with
    | none => simp only [ModeFor] at hm; rw [hm]; simp
    | some v => obtain ⟨x, _, hx⟩ := hm; rw [hx]; simp
  obtain ⟨w'', k1, k2, k3, k4, k5, k6, k7, k8⟩ := unwind_marks (P := P) (tmps := a.tmps) (cs := c :: cs) rs { b.atR a t with mode := mode } w' hmode g1 g2 g3 sr.wr sr.fr
  have e' := e.touch k4 (fun b hb => k5 b hb) k6 k7 k8
  unfold endFn at hend
  rw [hd] at hend
  simp only [runDefers] at hend
  cases m with
  | none =>
    simp only at hend
    simp only [ModeFor] at hm
    split at hend
    · rename_i vs hvs
      split at hend
      · rename_i hn
        simp only [Option.some.injEq, Prod.mk.injEq] at hend
        obtain ⟨rfl, rfl, rfl⟩ := hend
        obtain ⟨z, j1, j2⟩ := run_results hE.toEnvOk (⟨k2, k3⟩ : SR (okP E P) ω' H' lo' fr' a.tmps w'') hvs hn
        refine ⟨rfl, w'', c.finish z, e', k2, ⟨z, j2, rfl⟩, hs.trans (k1.trans (.one (step_leave_returned ⟨hm, rfl, hk, fn, ?_, j1⟩)))⟩
        rw [← hb] at hf
        exact hf
      · cases hend
    · cases hend
  | some v =>
    obtain ⟨x, hx, hm⟩ := hm
    simp only [Option.some.injEq, Prod.mk.injEq] at hend
    obtain ⟨rfl, rfl, rfl⟩ := hend
    refine ⟨rfl, w'', c.raise [{ v := x, recovered := false }], e', k2, ⟨x, hx, rfl⟩, hs.trans (k1.trans (.one (step_leave_panicked ⟨hm, rfl, fn, ?_⟩)))⟩
    rw [← hb] at hf
    exact hf

theorem func_ok {g : FuncId} {fn : Func} {cd : Code} {first cap args : List V} {m : Option V} {res : FRes} {rec : Bool} (hE : RunOk E P) (hI : ItemsOk E P r) (hfn : E.fn g = some fn) (hbody : fn.body = some cd)
    (h : r.items g [.code cd] ⟨zipFrom (first ++ args ++ cap) 0, [], [], .no⟩ H = some (ex, fr', H')) (hm : ExFor m ex) (hend : endFn E r fn m fr' H' = some (res, rec, H1)) :
    ∀ (ω : Om) (w : World) xf (xargs : Array Value) c cs, WR (okP E P) ω H w → VR ω (.fn (.func g) first cap) xf → args.length = xargs.size → VRs ω args xargs.toList → CallR (okP E P) P ω H w (callSem xf xargs) c cs res H1 := by
  intro ω w xf xargs c cs hw hx hl hv
  have hf := hE.fn g fn hfn
  obtain ⟨cd', q1, q2, q3⟩ := hE.code g fn hfn
  rw [hbody] at q1
  simp only [Option.some.injEq] at q1
  subst q1
  simp only [VR, FnR] at hx
  obtain ⟨f', first', cap', rfl, l1, v1, l2, v2, rfl⟩ := hx
  have hrun := run_callFunc (P := P) (w := w) (first := first') (cap := cap') (args := xargs) hf hbody q3
  have hvs : VRs ω (first ++ args ++ cap) (first' ++ xargs ++ cap').toList := by
    simp only [Array.toList_append]
    exact VRs.append (by simp [l1, hl]) (VRs.append (by simpa using l1) v1 hv) v2
  generalize hxs : first' ++ xargs ++ cap' = xs at hrun hvs
  generalize first ++ args ++ cap = vs at h hvs
  let tm : Array Value := xs ++ Array.replicate (fn.ntmps - xs.size) undef
  let b : Frame := { (default : Frame) with fn := g, kind := .normal, roundOf := none }
  have hb0 : Frame.enter P g xs .normal = b.atR ⟨tm, []⟩ [.code cd] := by
    simp [Frame.enter, Frame.atR, b, tm, hf, hbody]
  have hsz : fn.ntmps ≤ tm.size := by simp only [tm, Array.size_append, Array.size_replicate]; omega
  have hvals : ∀ t v, (zipFrom vs 0).get t = some v → VR ω v (tm.getD t undef) := by
    intro t v ht
    rw [zipFrom_get] at ht
    simp only [Nat.zero_le, if_true, Nat.sub_zero] at ht
    obtain ⟨x, hx, hvx⟩ := hvs.get t v ht
    have hx' : xs[t]? = some x := by simpa using hx
    have hlt : t < xs.size := (Array.getElem?_eq_some_iff.1 hx').1
    have : tm.getD t undef = x := by
      simp only [tm, Array.getD_eq_getD_getElem?, Array.getElem?_append, hlt, if_true, hx', Option.getD_some]
    rw [this]
    exact hvx
  obtain ⟨r1, r2, ω', lo', a', w', p, hn', hds', _, he⟩ := hI g [.code cd] ⟨zipFrom vs 0, [], [], .no⟩ H ex fr' H' h rfl ω (fun _ => none) ⟨tm, []⟩ w b [.code cd] (c :: cs) tm.size w.heap.size
    ⟨hw, FR.fresh hvals⟩ rfl (by intro x hx; simp only [List.mem_singleton] at hx; subst hx; exact okCode_mono hsz q2) ⟨fn, hf⟩ ⟨_, _, rfl, rfl, rfl⟩ rfl (Nat.le_refl _) .nil rfl
  have e : Evo (fun _ => False) ω H w ω' H' w' := p.evo.weaken fun x hx => boxOf_fresh x hx
  rw [← hb0] at he
  have fin : ∃ mode t, ModeFor ω' m mode ∧ Steps P (lone (Frame.enter P g xs .normal) (c :: cs) w) (lone { b.atR a' t with mode := mode } (c :: cs) w') := by
    cases m with
    | none =>
      rcases hm with rfl | rfl
      · exact ⟨.returning, [], rfl, Steps.trans he (.one (stepR_end rfl))⟩
      · obtain ⟨_, k, _, hk⟩ := he
        exact ⟨.returning, _, rfl, Steps.trans hk (.one (stepR_ret rfl))⟩
    | some v =>
      simp only [ExFor] at hm
      subst hm
      obtain ⟨x, t, hx, hs⟩ := he
      exact ⟨_, t, ⟨x, hx, rfl⟩, hs⟩
  obtain ⟨mode, t, hm', hs⟩ := fin
  obtain ⟨rfl, w'', f1, j1, j2, j3, j4⟩ := end_ok (c := c) (cs := cs) hE hf (b := b) rfl rfl r1 hend e p.sr hds' hm' hs
  exact ⟨ω', w'', _, _, f1, j1, j2, hrun, rfl, j3, j4⟩

theorem yield_ok {l : Nat} {args : List V} {res : FRes} {rec : Bool} (hE : RunOk E P) (hI : ItemsOk E P r) (h : aRound r l args H = some (res, rec, H1)) :
    ∀ (ω : Om) (w : World) xf (xargs : Array Value) c cs, WR (okP E P) ω H w → VR ω (.fn (.yield l) [] []) xf → args.length = xargs.size → VRs ω args xargs.toList → CallR (okP E P) P ω H w (callSem xf xargs) c cs res H1 := by
  intro ω w xf xargs c cs hw hx hl hv
  simp only [VR, FnR] at hx
  obtain ⟨f', first', cap', ⟨bl, hφ, rfl⟩, l1, v1, l2, v2, rfl⟩ := hx
  have z1 : first' = #[] := by simpa using l1.symm
  have z2 : cap' = #[] := by simpa using l2.symm
  subst z1 z2
  unfold aRound at h
  split at h
  · rename_i lp hg
    obtain ⟨x, g1, g2⟩ := loop_at hw hg hφ
    split at h
    · rename_i vs hst hps
      have hpl : xargs.size = x.params.size := by
        rw [g2.params, ← hl]
        have : ∀ (ps : List Tmp) (vs : List V) (m m' : Al V), putParams ps vs m = some m' → vs.length = ps.length := by
          intro ps
          induction ps with
          | nil => intro vs m m' h; cases vs <;> simp [putParams] at h ⊢
          | cons p ps ih =>
            intro vs m m' h
            cases vs with
            | nil => simp [putParams] at h
            | cons v vs => simp only [putParams] at h; simpa using ih vs _ _ h
        simpa using this _ _ _ _ hps
      obtain ⟨s1, s2⟩ := putParams_ok lp.params.toList args xargs.toList lp.vals vs x.tmps hps (by simpa using hl) hv (fun t ht => g2.okP t (by simpa using ht)) g2.vals
      generalize htm : ((lp.params.toList.zip xargs.toList).foldl (fun tmps (t, a) => tmps.setIfInBounds t a) x.tmps) = tm at s1 s2
      have hrun : (callSem (.func (.yield bl.b) #[] #[]) xargs).run P w = .ok (.round bl.b x.fn tm x.assign x.body) w := by
        have hz : (x.params.zip xargs).foldl (fun tmps (t, a) => tmps.setIfInBounds t a) x.tmps = tm := by
          rw [← htm, ← Array.foldl_toList, Array.toList_zip, g2.params]
        simp only [callSem, Deferred.ofValue, pure_bind, invoke, Instr.yield, Array.empty_append, Sem.run_bind, run_getLoop g1, Result.andThen_ok, hpl, ne_eq, not_true_eq_false, if_false, Sem.run_pure, hz]
      let b : Frame := { (default : Frame) with fn := x.fn, kind := .normal, roundOf := some bl.b }
      have hb0 : Frame.round bl.b x.fn tm x.assign x.body .normal = b.atR ⟨tm, []⟩ [.code x.assign, .beginRound, .code x.body] := by
        simp [Frame.round, Frame.atR, b]
      split at h
      · rename_i ex fr' h' hi
        obtain ⟨hP, o1⟩ := g2.okA
        obtain ⟨_, o2⟩ := g2.okB
        obtain ⟨r1, r2, ω', lo', a', w', p, hn', hds', hdef, he⟩ := hI lp.fn [.code lp.assign, .round l, .code lp.body] ⟨vs, [], [], .ban l⟩ H ex fr' h' hi rfl ω (fun _ => none) ⟨tm, []⟩ w b [.code x.assign, .beginRound, .code x.body] (c :: cs) tm.size w.heap.size
          ⟨hw, FR.fresh s2⟩ rfl (by
            intro z hz
            simp only [List.mem_cons, List.not_mem_nil, or_false] at hz
            rcases hz with rfl | rfl | rfl
            · simpa only [okItem, s1] using o1
            · rfl
            · simpa only [okItem, s1] using o2) hP ⟨_, _, rfl, by rw [g2.assign]; rfl, _, _, rfl, ⟨bl, hφ, rfl, rfl⟩, _, _, rfl, by rw [g2.body]; rfl, rfl⟩ g2.fn (Nat.le_refl _) .nil ⟨bl, hφ, rfl⟩
        have hdn : a'.defers = [] := hdef (by simp [b])
        rw [← hb0] at he
        have hφ' := p.evo.le.φ _ _ hφ
        have wk : ∀ {ω2 H2 w2}, Evo (boxOf (fun _ => none) ⟨vs, [], [], .ban l⟩) ω H w ω2 H2 w2 → Evo (fun _ => False) ω H w ω2 H2 w2 := fun e => e.weaken fun x hx => boxOf_fresh x hx
        split at h
        · split at h
          · rename_i lp' hg'
            obtain ⟨x', k1, k2⟩ := loop_at p.sr.wr hg' hφ'
            simp only [Option.some.injEq, Prod.mk.injEq] at h
            obtain ⟨rfl, rfl, rfl⟩ := h
            have p3 := Post.setLoop (lp1 := { lp' with state := .ready, pending := none }) (x := { x' with state := .ready, pending := none }) p.sr hg' hφ' (Array.getElem?_eq_some_iff.1 k1).1 { k2 with state := rfl, pending := rfl, okJ := fun c hc => by cases hc }
            exact ⟨ω', _, _, _, _, wk (p.trans p3).evo, p3.sr.wr, hrun, rfl, ⟨.bool true, by simp only [VR], rfl⟩, Steps.trans he (.one (stepR_round_end rfl rfl (run_endRound k1 none)))⟩
          · rename_i cc lp' hg'
            obtain ⟨x', k1, k2⟩ := loop_at p.sr.wr hg' hφ'
            simp only [Option.some.injEq, Prod.mk.injEq] at h
            obtain ⟨rfl, rfl, rfl⟩ := h
            obtain ⟨hcc, k, hk, hs⟩ := he
            have p3 := Post.setLoop (lp1 := { lp' with state := .done, pending := some cc }) (x := { x' with state := .done, pending := some cc }) p.sr hg' hφ' (Array.getElem?_eq_some_iff.1 k1).1 { k2 with state := rfl, pending := rfl, okJ := fun c hc => by cases hc; exact hcc.symm }
            refine ⟨ω', _, _, _, _, wk (p.trans p3).evo, p3.sr.wr, hrun, rfl, ⟨.bool false, by simp only [VR], rfl⟩, Steps.trans hs (.one ?_)⟩
            rcases hcc with rfl | ⟨id, rfl⟩
            · exact stepR_round_ret rfl rfl (run_endRound k1 (some .ret))
            · exact stepR_round_exit rfl rfl (hk id rfl) (run_endRound k1 (some (.exit id)))
          · simp only [Option.some.injEq, Prod.mk.injEq] at h
            obtain ⟨rfl, rfl, rfl⟩ := h
            obtain ⟨z, t, hz, hs⟩ := he
            obtain ⟨fn, hfn⟩ := hP
            refine ⟨ω', _, _, _, _, wk p.evo, p.sr.wr, hrun, rfl, ⟨z, hz, rfl⟩, Steps.trans hs (.one (step_leave_panicked ⟨rfl, hdn, fn, ?_⟩))⟩
            rw [← g2.fn] at hfn
            exact hfn
          · cases h
        · cases h
      · cases h
    · cases h
  · cases h

theorem calls_main (hE : RunOk E P) (hI : ItemsOk E P r) : CallsOk (okP E P) P (aStep E r) := by
  intro f args H res rec H' h
  change aCall E r f args .no H = some (res, rec, H') at h
  unfold aCall at h
  split at h
  · rename_i g first cap
    refine ⟨rfl, fun m x y e => by simp at e, ?_⟩
    split at h
    · rename_i fn hfn
      split at h
      · rename_i cd hbody
        split at h
        · rename_i hi
          exact func_ok (m := none) hE hI hfn hbody hi (Or.inl rfl) h
        · rename_i hi
          exact func_ok (m := none) hE hI hfn hbody hi (Or.inr rfl) h
        · rename_i v fr' h' hi
          exact func_ok (m := some v) hE hI hfn hbody hi rfl h
        · cases h
      · cases h
    · cases h
  · rename_i l
    exact ⟨rfl, fun m x y e => by simp at e, yield_ok hE hI h⟩
  · cases h

theorem ev_ok (hE : RunOk E P) : ∀ n, CallsOk (okP E P) P (ev E n) ∧ ItemsOk E P (ev E n)
  | 0 => ⟨fun f args H res rec H' h => by simp [ev] at h, fun fid items fr H ex fr' H' h => by simp [ev] at h⟩
  | n + 1 => by
    obtain ⟨h1, h2⟩ := ev_ok hE n
    exact ⟨calls_main hE h2, items_main hE h1 h2⟩
end
end Go.Abs
namespace Go.Abs
structure Ev.le (r r' : Ev) : Prop where
  call : ∀ f args rc h x, r.call f args rc h = some x → r'.call f args rc h = some x
  items : ∀ fid its fr h x, r.items fid its fr h = some x → r'.items fid its fr h = some x

section
variable {E : Env} {r r' : Ev}

theorem drawRun_mono (hr : r.le r') {fid : FuncId} {all : Array Oper} {fr0 : Fr} : ∀ (ps : List POp) (fr : Fr) (h : Heap) (sts : List (Al (List V) × Heap)) (ds : List DRead) (x), drawRun E r fid all fr0 ps fr h sts ds = some x → drawRun E r' fid all fr0 ps fr h sts ds = some x
  | [], fr, h, sts, ds, x, hx => hx
  | p :: ps, fr, h, sts, ds, x, hx => by
    simp only [drawRun] at hx ⊢
    split at hx
    · cases hx
    · exact drawRun_mono hr ps _ _ _ _ x hx
    · split at hx
      · split at hx
        · rename_i ha
          simp only [ha, if_true]
          exact drawRun_mono hr ps _ _ _ _ x hx
        · rename_i ha
          simp only [ha, if_false, Bool.false_eq_true]
          exact drawRun_mono hr ps _ _ _ _ x hx
      · split at hx
        · rename_i hc
          rw [hr.call _ _ _ _ _ hc]
          exact drawRun_mono hr ps _ _ _ _ x hx
        · rename_i hc
          rw [hr.call _ _ _ _ _ hc]
          exact hx
        · cases hx
      · cases hx
theorem runDefers_mono (hr : r.le r') : ∀ (ds : List (V × List V)) (m : Option V) (h : Heap) (x), runDefers r ds m h = some x → runDefers r' ds m h = some x
  | [], _, _, _, hx => hx
  | (f, args) :: ds, m, h, x, hx => by
    simp only [runDefers] at hx ⊢
    split at hx
    · rename_i hc
      rw [hr.call _ _ _ _ _ hc]
      exact runDefers_mono hr ds _ _ x hx
    · rename_i hc
      rw [hr.call _ _ _ _ _ hc]
      cases m with
      | none => exact runDefers_mono hr ds _ _ x hx
      | some _ => cases hx
    · cases hx
theorem endFn_mono (hr : r.le r') {fn : Func} {m : Option V} {fr : Fr} {h : Heap} {x} (hx : endFn E r fn m fr h = some x) : endFn E r' fn m fr h = some x := by
  unfold endFn at hx ⊢
  split at hx
  · rename_i hd; rw [runDefers_mono hr _ _ _ _ hd]; exact hx
  · rename_i hd; rw [runDefers_mono hr _ _ _ _ hd]; exact hx
  · cases hx
theorem aRound_mono (hr : r.le r') {l : Nat} {args : List V} {h : Heap} {x} (hx : aRound r l args h = some x) : aRound r' l args h = some x := by
  unfold aRound at hx ⊢
  split at hx
  · split at hx
    · split at hx
      · rename_i hi; rw [hr.items _ _ _ _ _ hi]; exact hx
      · cases hx
    · cases hx
  · cases hx
theorem aCall_mono (hr : r.le r') {f : V} {args : List V} {rc : Rc} {h : Heap} {x} (hx : aCall E r f args rc h = some x) : aCall E r' f args rc h = some x := by
  unfold aCall at hx ⊢
  split at hx
  · split at hx
    · split at hx
      · split at hx
        · rename_i hi; rw [hr.items _ _ _ _ _ hi]; exact endFn_mono hr hx
        · rename_i hi; rw [hr.items _ _ _ _ _ hi]; exact endFn_mono hr hx
        · rename_i hi; rw [hr.items _ _ _ _ _ hi]; exact endFn_mono hr hx
        · cases hx
      · cases hx
    · cases hx
  · split at hx
    · exact aRound_mono hr hx
    · cases hx
  · cases hx
theorem aItems_mono (hr : r.le r') {fid : FuncId} {its : List AItem} {fr : Fr} {h : Heap} {x} (hx : aItems E r fid its fr h = some x) : aItems E r' fid its fr h = some x := by
  unfold aItems at hx ⊢
  split at hx
  · exact hx
  · exact hr.items _ _ _ _ _ hx
  · exact hr.items _ _ _ _ _ hx
  · exact hr.items _ _ _ _ _ hx
  · split at hx
    · split at hx
      · exact hr.items _ _ _ _ _ hx
      · cases hx
    · cases hx
  · split at hx
    · exact hr.items _ _ _ _ _ hx
    · exact hr.items _ _ _ _ _ hx
    · split at hx
      · exact hr.items _ _ _ _ _ hx
      · cases hx
    · exact hr.items _ _ _ _ _ hx
    · exact hr.items _ _ _ _ _ hx
    · exact hr.items _ _ _ _ _ hx
    · exact hr.items _ _ _ _ _ hx
    · split at hx
      · exact hr.items _ _ _ _ _ hx
      · exact hx
    · exact hx
    · exact hr.items _ _ _ _ _ hx
    · split at hx
      · rename_i hd; rw [drawRun_mono hr _ _ _ _ _ _ hd]; exact hr.items _ _ _ _ _ hx
      · rename_i hd; rw [drawRun_mono hr _ _ _ _ _ _ hd]; exact hx
      · cases hx
    · split at hx
      · cases hx
      · rename_i hl
        simp only [hl, Bool.false_eq_true, if_false]
        split at hx
        · split at hx
          · rename_i hc
            rw [hr.call _ _ _ _ _ hc]
            dsimp only
            split at hx
            · split at hx
              · cases hx
              · split at hx
                · exact hr.items _ _ _ _ _ hx
                · exact hr.items _ _ _ _ _ hx
            · cases hx
          · rename_i hc
            rw [hr.call _ _ _ _ _ hc]
            exact hx
          · cases hx
        · cases hx
    · cases hx
  · exact hr.items _ _ _ _ _ hx
  · split at hx
    · cases hx
    · exact hr.items _ _ _ _ _ hx
    · split at hx
      · exact hr.items _ _ _ _ _ hx
      · exact hx
      · split at hx
        · rename_i hc; rw [hr.call _ _ _ _ _ hc]; exact hr.items _ _ _ _ _ hx
        · rename_i hc; rw [hr.call _ _ _ _ _ hc]; exact hx
        · cases hx
      · cases hx
theorem ev_le : ∀ n, (ev E n).le (ev E (n + 1))
  | 0 => ⟨fun _ _ _ _ _ h => by simp [ev] at h, fun _ _ _ _ _ h => by simp [ev] at h⟩
  | n + 1 => ⟨fun _ _ _ _ _ h => aCall_mono (ev_le n) h, fun _ _ _ _ _ h => aItems_mono (ev_le n) h⟩
theorem ev_mono {n m : Nat} (h : n ≤ m) : (ev E n).le (ev E m) := by
  induction m with
  | zero =>
    have : n = 0 := by omega
    subst this
    exact ⟨fun _ _ _ _ _ h => h, fun _ _ _ _ _ h => h⟩
  | succ m ih =>
    rcases Nat.lt_or_ge m n with hl | hl
    · have : n = m + 1 := by omega
      subst this
      exact ⟨fun _ _ _ _ _ h => h, fun _ _ _ _ _ h => h⟩
    · exact ⟨fun _ _ _ _ _ h' => (ev_le m).call _ _ _ _ _ ((ih hl).call _ _ _ _ _ h'), fun _ _ _ _ _ h' => (ev_le m).items _ _ _ _ _ ((ih hl).items _ _ _ _ _ h')⟩

def Calls (E : Env) (f : V) (args : List V) (rc : Rc) (h : Heap) (x : FRes × Bool × Heap) : Prop := ∃ n, (ev E n).call f args rc h = some x
def Its (E : Env) (fid : FuncId) (its : List AItem) (fr : Fr) (h : Heap) (x : Ex × Fr × Heap) : Prop := ∃ n, (ev E n).items fid its fr h = some x
end
end Go.Abs
namespace Go.Abs

def evo (E : Env) (ov : V → List V → Rc → Heap → Option (FRes × Bool × Heap)) : Nat → Ev
  | 0 => ⟨fun _ _ _ _ => none, fun _ _ _ _ => none⟩
  | n + 1 => ⟨fun f a rc h => match ov f a rc h with
      | some x => some x
      | none => aCall E (evo E ov n) f a rc h, aItems E (evo E ov n)⟩
theorem evo_ok {E : Env} {P : Program} (hE : RunOk E P) {ov : V → List V → Rc → Heap → Option (FRes × Bool × Heap)} (hov : CallsOk (okP E P) P ⟨ov, fun _ _ _ _ => none⟩) :
    ∀ n, CallsOk (okP E P) P (evo E ov n) ∧ ItemsOk E P (evo E ov n)
  | 0 => ⟨fun f args H res rec H' h => by simp [evo] at h, fun fid items fr H ex fr' H' h => by simp [evo] at h⟩
  | n + 1 => by
    obtain ⟨h1, h2⟩ := evo_ok hE hov n
    refine ⟨fun f args H res rec H' h => ?_, items_main hE h1 h2⟩
    simp only [evo] at h
    split at h
    · rename_i x hx
      simp only [Option.some.injEq] at h; subst h
      exact hov f args H res rec H' hx
    · exact calls_main hE h2 f args H res rec H' h

def Fn.ren (σ : Nat → Nat) : Fn → Fn
  | .yield l => .yield (σ l)
  | f => f
mutual
def V.ren (σ : Nat → Nat) : V → V
  | .cell id off => .cell (σ id) off
  | .sbuf id off len sz full => .sbuf (σ id) off len sz full
  | .mp id => .mp (σ id)
  | .fn f a c => .fn (Fn.ren σ f) (V.rens σ a) (V.rens σ c)
  | .iface t v => .iface t (V.ren σ v)
  | .agg cs => .agg (V.rens σ cs)
  | .tup vs => .tup (V.rens σ vs)
  | .bool b => .bool b
  | .int k n => .int k n
  | .str s => .str s
  | .nilp => .nilp
  | .loc t o => .loc t o
  | .rop r o => .rop (V.rens σ r) o
  | .nils => .nils
  | .sro a b c d => .sro (V.rens σ a) b c d
  | .nilm => .nilm
  | .nilf => .nilf
  | .nili => .nili
  | .junk => .junk
def V.rens (σ : Nat → Nat) : List V → List V
  | [] => []
  | v :: r => V.ren σ v :: V.rens σ r
end
theorem V.rens_length (σ : Nat → Nat) : ∀ l, (V.rens σ l).length = l.length
  | [] => rfl
  | v :: r => by simp only [V.rens, List.length_cons, V.rens_length σ r]
theorem V.ren_flat (σ : Nat → Nat) (v : V) : (v.ren σ).flat = v.flat := by cases v <;> simp only [V.ren, V.flat]
theorem V.rens_flats (σ : Nat → Nat) : ∀ l, flats (V.rens σ l) = flats l
  | [] => rfl
  | v :: r => by
    have := V.rens_flats σ r
    simp only [flats] at this ⊢
    simp only [V.rens, List.all_cons, V.ren_flat, this]
structure Om.Ren (σ : Nat → Nat) (ω ω' : Om) : Prop where
  φ : ∀ i bl, ω.φ i = some bl → ω'.φ (σ i) = some bl
  ro : ∀ b o, ω.ro b = some o → ω'.ro b = some o
mutual
theorem VR.ren {σ : Nat → Nat} {ω ω' : Om} (h : ω.Ren σ ω') : ∀ (v : V) (x : Value), VR ω v x → VR ω' (v.ren σ) x
  | .bool b, x, hx => by simpa only [VR, V.ren] using hx
  | .int k n, x, hx => by simpa only [VR, V.ren] using hx
  | .str s, x, hx => by simpa only [VR, V.ren] using hx
  | .nilp, x, hx => by simpa only [VR, V.ren] using hx
  | .loc _ _, x, hx => by simp only [VR] at hx
  | .cell id off, x, hx => by
    simp only [VR, V.ren] at hx ⊢
    obtain ⟨bl, h1, h2⟩ := hx
    exact ⟨bl, h.φ _ _ h1, h2⟩
  | .rop row off, x, hx => by
    simp only [VR, V.ren] at hx ⊢
    obtain ⟨b, base, cs, el, fz, h1, h2, h3, h4⟩ := hx
    exact ⟨b, base, cs, el, fz, h.ro _ _ h1, VRs.ren h row _ h2, by rw [V.rens_flats]; exact h3, h4⟩
  | .nils, x, hx => by simpa only [VR, V.ren] using hx
  | .sro row off len full, x, hx => by
    simp only [VR, V.ren] at hx ⊢
    obtain ⟨a, cap, h1, h2, h3, h4, h5, h6⟩ := hx
    refine ⟨a, cap, h1, h2, h3, h4, by rw [V.rens_flats]; exact h5, fun hc => ?_⟩
    obtain ⟨b, base, cs, el, fz, g1, g2, g3⟩ := h6 hc
    exact ⟨b, base, cs, el, fz, g1, h.ro _ _ g2, VRs.ren h row _ g3⟩
  | .sbuf id off len sz full, x, hx => by
    simp only [VR, V.ren] at hx ⊢
    obtain ⟨bl, o, cap, h1, h2⟩ := hx
    exact ⟨bl, o, cap, h.φ _ _ h1, h2⟩
  | .nilm, x, hx => by simpa only [VR, V.ren] using hx
  | .mp id, x, hx => by
    simp only [VR, V.ren] at hx ⊢
    obtain ⟨bl, h1, h2⟩ := hx
    exact ⟨bl, h.φ _ _ h1, h2⟩
  | .fn f a c, x, hx => by
    simp only [VR, V.ren] at hx ⊢
    obtain ⟨f', a', c', h1, h2, h3, h4, h5, h6⟩ := hx
    refine ⟨f', a', c', ?_, by rw [V.rens_length]; exact h2, VRs.ren h a _ h3, by rw [V.rens_length]; exact h4, VRs.ren h c _ h5, h6⟩
    cases f <;> simp only [FnR, Fn.ren] at h1 ⊢ <;> first | exact h1 | skip
    obtain ⟨bl, e1, e2⟩ := h1
    exact ⟨bl, h.φ _ _ e1, e2⟩
  | .nilf, x, hx => by simpa only [VR, V.ren] using hx
  | .iface t v, x, hx => by
    simp only [VR, V.ren] at hx ⊢
    obtain ⟨v', h1, h2⟩ := hx
    exact ⟨v', VR.ren h v _ h1, h2⟩
  | .nili, x, hx => by simpa only [VR, V.ren] using hx
  | .agg cs, x, hx => by
    simp only [VR, V.ren] at hx ⊢
    obtain ⟨cs', h1, h2, h3⟩ := hx
    exact ⟨cs', by rw [V.rens_length]; exact h1, VRs.ren h cs _ h2, h3⟩
  | .tup vs, x, hx => by
    simp only [VR, V.ren] at hx ⊢
    obtain ⟨cs', h1, h2, h3⟩ := hx
    exact ⟨cs', by rw [V.rens_length]; exact h1, VRs.ren h vs _ h2, h3⟩
  | .junk, x, hx => by simp only [VR, V.ren]
theorem VRs.ren {σ : Nat → Nat} {ω ω' : Om} (h : ω.Ren σ ω') : ∀ (vs : List V) (l : List Value), VRs ω vs l → VRs ω' (V.rens σ vs) l
  | [], l, _ => by simp only [V.rens, VRs]
  | v :: vs, l, hx => by
    simp only [VRs, V.rens] at hx ⊢
    obtain ⟨c, l', h1, h2, h3⟩ := hx
    exact ⟨c, l', h1, VR.ren h v _ h2, VRs.ren h vs _ h3⟩
end
end Go.Abs
namespace Go.Abs

def sig (id nx : Nat) (j : Nat) : Nat := if j = 0 then id else nx + j - 1
def impObj (σ : Nat → Nat) : Option AObj → AObj
  | some (.row cs) => .row (V.rens σ cs)
  | _ => .dead
def impAll (σ : Nat → Nat) (Hc : Heap) : Nat → Heap → Heap
  | 0, H => H
  | k + 1, H => (impAll σ Hc k H).alloc (impObj σ (Hc.get (k + 1)))
theorem impAll_next (σ : Nat → Nat) (Hc H : Heap) : ∀ k, (impAll σ Hc k H).next = H.next + k
  | 0 => rfl
  | k + 1 => by simp only [impAll, Heap.next_alloc, impAll_next σ Hc H k]; omega
theorem impAll_get (σ : Nat → Nat) (Hc H : Heap) : ∀ k i, (impAll σ Hc k H).get i = if i < H.next then H.get i else if i < H.next + k then some (impObj σ (Hc.get (i - H.next + 1))) else none
  | 0, i => by
    simp only [impAll]
    split
    · rfl
    · rename_i h
      rw [if_neg (by omega)]
      cases hg : H.get i with
      | none => rfl
      | some o => exact absurd (Heap.lt_of_get hg) h
  | k + 1, i => by
    simp only [impAll, Heap.get_alloc, impAll_next, impAll_get σ Hc H k i]
    by_cases h1 : i = H.next + k
    · subst h1
      rw [if_pos rfl, if_neg (by omega), if_pos (by omega)]
      rw [show H.next + k - H.next + 1 = k + 1 by omega]
    · rw [if_neg h1]
      split
      · rfl
      · by_cases h2 : i < H.next + k
        · rw [if_pos h2, if_pos (by omega)]
        · rw [if_neg h2, if_neg (by omega)]
def imp (id : Nat) (H Hc : Heap) : Heap := impAll (sig id H.next) Hc (Hc.next - 1) (H.set id (impObj (sig id H.next) (Hc.get 0)))
theorem imp_get {id : Nat} {H : Heap} (Hc : Heap) (hid : id < H.next) (i : Nat) : (imp id H Hc).get i = if i = id then some (impObj (sig id H.next) (Hc.get 0)) else if i < H.next then H.get i else if i < H.next + (Hc.next - 1) then some (impObj (sig id H.next) (Hc.get (i - H.next + 1))) else none := by
  simp only [imp, impAll_get, Heap.next_set, Heap.get_set _ _ _ _ hid]
  by_cases h : i = id
  · subst h; rw [if_pos hid, if_pos rfl, if_pos rfl]
  · rw [if_neg h, if_neg h]; rfl
theorem impObj_live {σ : Nat → Nat} {o : Option AObj} (h : (impObj σ o).live = true) : ∃ cs, o = some (.row cs) ∧ impObj σ o = .row (V.rens σ cs) := by
  unfold impObj at h ⊢
  split
  · exact ⟨_, rfl, rfl⟩
  · rename_i hn; split at h <;> simp_all [AObj.live]

def omImp (H : Heap) (ω ω0 : Om) : Om := ⟨fun i => if i < H.next then ω.φ i else ω0.φ (i - H.next + 1), ω0.ro⟩
variable {ok : FuncId → Nat → Code → Prop}
theorem imp_ok {ω ω0' : Om} {H Hc : Heap} {w w' : World} {id : Nat} {bl : Blk} {cs0 : List V} (hw : WR ok ω H w) (hid : H.get id = some (.row cs0)) (hbl : ω.φ id = some bl)
    {H0 : Heap} (h0 : ∀ i o, H0.get i = some o → i = 0) (h1 : 0 < H0.next)
    (hev : Evo (fun _ => False) ⟨fun i => if i = 0 then some bl else none, ω.ro⟩ H0 w ω0' Hc w') (hwc : WR ok ω0' Hc w') :
    Om.Ren (sig id H.next) ω0' (omImp H ω ω0') ∧ Evo (fun _ => False) ω H w (omImp H ω ω0') (imp id H Hc) w' ∧ WR ok (omImp H ω ω0') (imp id H Hc) w' := by
  have hlt := Heap.lt_of_get hid
  have hφ0 : ω0'.φ 0 = some bl := hev.le.φ 0 bl (by simp)
  have hnx : 0 < Hc.next := Nat.lt_of_lt_of_le h1 hev.next
  have hlive : (AObj.row cs0).live = true := rfl
  have hown : owns ω H bl.b := ⟨id, _, bl, hid, hlive, hbl, rfl⟩
  have hin : ∀ b, owns ⟨fun i => if i = 0 then some bl else none, ω.ro⟩ H0 b → b = bl.b := fun b hb => by
    obtain ⟨i, o, bl', g1, g2, g3, g4⟩ := hb
    have := h0 i o g1; subst this
    simp only [if_true, Option.some.injEq] at g3
    rw [← g4, ← g3]
  have hren : Om.Ren (sig id H.next) ω0' (omImp H ω ω0') := ⟨fun i b hi => by
    unfold sig omImp
    by_cases h : i = 0
    · subst h
      rw [hφ0] at hi
      simp only [if_true, if_pos hlt, hbl]; exact hi
    · simp only [if_neg h]
      rw [if_neg (by omega), show H.next + i - 1 - H.next + 1 = i by omega]; exact hi, fun b o h => h⟩
  have hle : ω.le (omImp H ω ω0') := ⟨fun i b hi => by
    unfold omImp
    simp only [if_pos (hw.dom i b hi)]; exact hi, fun b o h => hev.le.ro b o h⟩
  -- an object of the new heap: an old one, or one that the run has made
  have cases : ∀ i o, (imp id H Hc).get i = some o → o.live = true → (i < H.next ∧ i ≠ id ∧ H.get i = some o) ∨ (∃ j cs, i = sig id H.next j ∧ Hc.get j = some (.row cs) ∧ o = .row (V.rens (sig id H.next) cs)) := fun i o hg hl => by
    rw [imp_get Hc hlt] at hg
    split at hg
    · rename_i e
      simp only [Option.some.injEq] at hg; subst hg
      obtain ⟨cs, e1, e2⟩ := impObj_live hl
      exact .inr ⟨0, cs, by simp [sig, e], e1, e2⟩
    · rename_i hne
      split at hg
      · rename_i hi; exact .inl ⟨hi, hne, hg⟩
      · rename_i hi
        split at hg
        · simp only [Option.some.injEq] at hg; subst hg
          obtain ⟨cs, e1, e2⟩ := impObj_live hl
          refine .inr ⟨i - H.next + 1, cs, ?_, e1, e2⟩
          unfold sig; rw [if_neg (by omega)]; omega
        · cases hg
  have hold : ∀ i o, i ≠ id → H.get i = some o → o.live = true → ∃ bi, ω.φ i = some bi ∧ bi.b < w.heap.size ∧ bi.b ≠ bl.b ∧ ORel ok ω bi w o := fun i o hne hg hl => by
    obtain ⟨bi, g1, g2⟩ := hw.obj i o hg hl
    exact ⟨bi, g1, g2.lt hl, fun e => hne (hw.inj i id o _ bi bl hg hl hid hlive g1 hbl e), g2⟩
  have hnew : ∀ j o b, Hc.get j = some o → o.live = true → ω0'.φ j = some b → b.b < w.heap.size → b.b = bl.b := fun j o b hg hl hb hs => hin _ (hev.own b.b ⟨j, o, b, hg, hl, hb, rfl⟩ hs)
  have hsigφ : ∀ j b, ω0'.φ j = some b → (omImp H ω ω0').φ (sig id H.next j) = some b := fun j b h => hren.φ j b h
  refine ⟨hren, ⟨hle, ?_, hev.size, fun b hb hno _ => ?_, fun b hb hs => ?_, fun b o hr hs => hev.rob b o hr hs, hev.tape, hev.os, hev.out⟩, ⟨fun b o hr => hwc.ro b o hr, fun i o hg hl => ?_, fun i j oi oj bi bj gi li gj lj hi hj he => ?_, fun i o b hg hl hb => ?_, fun i b hi => ?_⟩⟩
  · unfold imp; rw [impAll_next, Heap.next_set]; omega
  · exact hev.keep b hb (fun ho => hno (by rw [hin b ho]; exact hown)) (fun h => h)
  · obtain ⟨i, o, b', g1, g2, g3, g4⟩ := hb
    rcases cases i o g1 g2 with ⟨e1, e2, e3⟩ | ⟨j, cs, e1, e2, e3⟩
    · exact ⟨i, o, b', e3, g2, by simpa only [omImp, if_pos e1] using g3, g4⟩
    · obtain ⟨bj, k1, _⟩ := hwc.obj j _ e2 rfl
      have := hsigφ j bj k1
      rw [← e1, g3, Option.some.injEq] at this
      subst this
      have := hnew j _ b' e2 rfl k1 (by rw [g4]; exact hs)
      rw [← g4, this]; exact hown
  · rcases cases i o hg hl with ⟨e1, e2, e3⟩ | ⟨j, cs, e1, e2, e3⟩
    · obtain ⟨bi, g1, g2, g3, g4⟩ := hold i o e2 e3 hl
      refine ⟨bi, hle.φ i bi g1, g4.mono hle (hev.keep _ g2 (fun ho => g3 (hin _ ho)) (fun h => h))⟩
    · obtain ⟨bj, k1, k2⟩ := hwc.obj j _ e2 rfl
      refine ⟨bj, by rw [e1]; exact hsigφ j bj k1, ?_⟩
      rw [e3]
      simp only [ORel] at k2 ⊢
      obtain ⟨cs', el, m1, m2, m3, m4, m5⟩ := k2
      exact ⟨cs', el, m1, m2, by rw [V.rens_length]; exact m3, VRs.ren hren cs _ m4, by rw [V.rens_flats]; exact m5⟩
  · rcases cases i oi gi li with ⟨e1, e2, e3⟩ | ⟨j1, cs1, e1, e2, e3⟩ <;> rcases cases j oj gj lj with ⟨f1, f2, f3⟩ | ⟨j2, cs2, f1, f2, f3⟩
    · simp only [omImp, if_pos e1] at hi
      simp only [omImp, if_pos f1] at hj
      exact hw.inj i j oi oj bi bj e3 li f3 lj hi hj he
    · exfalso
      obtain ⟨b1, g1, g2, g3, _⟩ := hold i oi e2 e3 li
      simp only [omImp, if_pos e1] at hi
      rw [g1, Option.some.injEq] at hi; subst hi
      obtain ⟨b2, k1, _⟩ := hwc.obj j2 _ f2 rfl
      have := hsigφ j2 b2 k1
      rw [← f1, hj, Option.some.injEq] at this; subst this
      exact g3 (by rw [he]; exact hnew j2 _ bj f2 rfl k1 (by rw [← he]; exact g2))
    · exfalso
      obtain ⟨b1, g1, g2, g3, _⟩ := hold j oj f2 f3 lj
      simp only [omImp, if_pos f1] at hj
      rw [g1, Option.some.injEq] at hj; subst hj
      obtain ⟨b2, k1, _⟩ := hwc.obj j1 _ e2 rfl
      have := hsigφ j1 b2 k1
      rw [← e1, hi, Option.some.injEq] at this; subst this
      exact g3 (by rw [← he]; exact hnew j1 _ bi e2 rfl k1 (by rw [he]; exact g2))
    · obtain ⟨b1, k1, _⟩ := hwc.obj j1 _ e2 rfl
      obtain ⟨b2, k2, _⟩ := hwc.obj j2 _ f2 rfl
      have m1 := hsigφ j1 b1 k1
      have m2 := hsigφ j2 b2 k2
      rw [← e1, hi, Option.some.injEq] at m1; subst m1
      rw [← f1, hj, Option.some.injEq] at m2; subst m2
      rw [e1, f1, hwc.inj j1 j2 _ _ bi bj e2 rfl f2 rfl k1 k2 he]
  · rcases cases i o hg hl with ⟨e1, e2, e3⟩ | ⟨j, cs, e1, e2, e3⟩
    · simp only [omImp, if_pos e1] at hb
      have hr := hw.sep i o b e3 hl hb
      obtain ⟨bi, g1, g2, _, _⟩ := hold i o e2 e3 hl
      rw [g1, Option.some.injEq] at hb; subst hb
      cases hro : ω0'.ro bi.b with
      | none => exact hro
      | some x =>
        have := hev.rob bi.b x hro g2
        simp only at this
        rw [hr] at this; cases this
    · obtain ⟨bj, k1, _⟩ := hwc.obj j _ e2 rfl
      have := hsigφ j bj k1
      rw [← e1, hb, Option.some.injEq] at this; subst this
      exact hwc.sep j _ b e2 rfl k1
  · unfold imp; rw [impAll_next, Heap.next_set]
    unfold omImp at hi
    simp only at hi
    split at hi
    · omega
    · have := hwc.dom _ _ hi; omega
end Go.Abs
namespace Go.Abs

mutual
def V.noId : V → Bool
  | .cell .. | .sbuf .. | .mp _ | .loc .. => false
  | .fn f a c => !isYield f && V.noIds a && V.noIds c
  | .iface _ v => V.noId v
  | .agg cs | .tup cs => V.noIds cs
  | .rop row _ | .sro row _ _ _ => V.noIds row
  | _ => true
def V.noIds : List V → Bool
  | [] => true
  | v :: r => V.noId v && V.noIds r
end
mutual
theorem VR.free {ω ω' : Om} (h : ∀ b o, ω.ro b = some o → ω'.ro b = some o) : ∀ (v : V) (x : Value), v.noId = true → VR ω v x → VR ω' v x
  | .bool b, x, _, hx => by simpa only [VR] using hx
  | .int k n, x, _, hx => by simpa only [VR] using hx
  | .str s, x, _, hx => by simpa only [VR] using hx
  | .nilp, x, _, hx => by simpa only [VR] using hx
  | .loc _ _, x, hn, _ => by simp [V.noId] at hn
  | .cell id off, x, hn, _ => by simp [V.noId] at hn
  | .rop row off, x, hn, hx => by
    simp only [V.noId] at hn
    simp only [VR] at hx ⊢
    obtain ⟨b, base, cs, el, fz, h1, h2, h3⟩ := hx
    exact ⟨b, base, cs, el, fz, h _ _ h1, VRs.free h row _ hn h2, h3⟩
  | .nils, x, _, hx => by simpa only [VR] using hx
  | .sro row off len full, x, hn, hx => by
    simp only [V.noId] at hn
    simp only [VR] at hx ⊢
    obtain ⟨a, cap, h1, h2, h3, h4, h5, h6⟩ := hx
    refine ⟨a, cap, h1, h2, h3, h4, h5, fun hc => ?_⟩
    obtain ⟨b, base, cs, el, fz, g1, g2, g3⟩ := h6 hc
    exact ⟨b, base, cs, el, fz, g1, h _ _ g2, VRs.free h row _ hn g3⟩
  | .sbuf .., x, hn, _ => by simp [V.noId] at hn
  | .nilm, x, _, hx => by simpa only [VR] using hx
  | .mp id, x, hn, _ => by simp [V.noId] at hn
  | .fn f a c, x, hn, hx => by
    simp only [V.noId, Bool.and_eq_true, Bool.not_eq_true'] at hn
    simp only [VR] at hx ⊢
    obtain ⟨f', a', c', h1, h2, h3, h4, h5, h6⟩ := hx
    refine ⟨f', a', c', ?_, h2, VRs.free h a _ hn.1.2 h3, h4, VRs.free h c _ hn.2 h5, h6⟩
    cases f <;> simp only [FnR] at h1 ⊢ <;> first | exact h1 | simp [isYield] at hn
  | .nilf, x, _, hx => by simpa only [VR] using hx
  | .iface t v, x, hn, hx => by
    simp only [V.noId] at hn
    simp only [VR] at hx ⊢
    obtain ⟨v', h1, h2⟩ := hx
    exact ⟨v', VR.free h v _ hn h1, h2⟩
  | .nili, x, _, hx => by simpa only [VR] using hx
  | .agg cs, x, hn, hx => by
    simp only [V.noId] at hn
    simp only [VR] at hx ⊢
    obtain ⟨cs', h1, h2, h3⟩ := hx
    exact ⟨cs', h1, VRs.free h cs _ hn h2, h3⟩
  | .tup cs, x, hn, hx => by
    simp only [V.noId] at hn
    simp only [VR] at hx ⊢
    obtain ⟨cs', h1, h2, h3⟩ := hx
    exact ⟨cs', h1, VRs.free h cs _ hn h2, h3⟩
  | .junk, x, _, _ => by simp only [VR]
theorem VRs.free {ω ω' : Om} (h : ∀ b o, ω.ro b = some o → ω'.ro b = some o) : ∀ (vs : List V) (l : List Value), V.noIds vs = true → VRs ω vs l → VRs ω' vs l
  | [], l, _, _ => by simp only [VRs]
  | v :: vs, l, hn, hx => by
    simp only [V.noIds, Bool.and_eq_true] at hn
    simp only [VRs] at hx ⊢
    obtain ⟨c, l', h1, h2, h3⟩ := hx
    exact ⟨c, l', h1, VR.free h v _ hn.1 h2, VRs.free h vs _ hn.2 h3⟩
end

def canH (cs : List V) : Heap := Heap.empty.alloc (.row cs)
def canon (E : Env) (n : Nat) (f : V) (args : List V) (h : Heap) : Option (FRes × Bool × Heap) :=
  match args with
  | [.cell id 0] => match h.get id with
    | some (.row cs) => if f.noId && V.noIds cs then
        match (ev E n).call f [.cell 0 0] .no (canH cs) with
        | some (.ret v, false, hc) => some (.ret (v.ren (sig id h.next)), false, imp id h hc)
        | _ => none
      else none
    | _ => none
  | _ => none
theorem canH_get (cs : List V) (i : Nat) : (canH cs).get i = if i = 0 then some (.row cs) else none := by
  simp only [canH, Heap.get_alloc]
  have : Heap.empty.next = 0 := rfl
  rw [this]
  split
  · rfl
  · simp [Heap.get, Heap.empty]
end Go.Abs
namespace Go.Abs
abbrev Ov := V → List V → Rc → Heap → Option (FRes × Bool × Heap)
def OvOk (E : Env) (P : Program) (ov : Ov) : Prop := CallsOk (okP E P) P ⟨ov, fun _ _ _ _ => none⟩
def ovIf (c : V → Bool) (a b : Ov) : Ov := fun f x rc h => if c f then a f x rc h else b f x rc h
end Go.Abs
namespace Go.Abs
theorem Calls.uniq {E : Env} {f : V} {args : List V} {rc : Rc} {h : Heap} {x y : FRes × Bool × Heap} (hx : Calls E f args rc h x) (hy : Calls E f args rc h y) : x = y := by
  obtain ⟨n, hn⟩ := hx
  obtain ⟨m, hm⟩ := hy
  have h1 := (ev_mono (Nat.le_max_left n m)).call _ _ _ _ _ hn
  have h2 := (ev_mono (Nat.le_max_right n m)).call _ _ _ _ _ hm
  rw [h1] at h2; exact Option.some.inj h2
open Classical in
noncomputable def evAny (E : Env) : Ov := fun f a rc h => if e : ∃ x, Calls E f a rc h x then some e.choose else none
theorem evAny_eq {E : Env} {f : V} {a : List V} {rc : Rc} {h : Heap} {x : FRes × Bool × Heap} (hx : Calls E f a rc h x) : evAny E f a rc h = some x := by
  have e : ∃ x, Calls E f a rc h x := ⟨x, hx⟩
  simp only [evAny, dif_pos e]
  rw [e.choose_spec.uniq hx]
theorem evAny_ok {E : Env} {P : Program} (hE : RunOk E P) : OvOk E P (evAny E) := by
  intro f args H res rec H' h
  simp only [evAny] at h
  split at h
  · rename_i e
    simp only [Option.some.injEq] at h
    obtain ⟨n, hn⟩ := e.choose_spec
    rw [h] at hn
    exact (ev_ok hE n).1 f args H res rec H' hn
  · cases h
open Classical in
noncomputable def evoAny (E : Env) (ov : Ov) : Ov := fun f a rc h => if e : ∃ n x, (evo E ov n).call f a rc h = some x then (evo E ov e.choose).call f a rc h else none
theorem evoAny_ok {E : Env} {P : Program} (hE : RunOk E P) {ov : Ov} (hov : OvOk E P ov) : OvOk E P (evoAny E ov) := by
  intro f args H res rec H' h
  simp only [evoAny] at h
  split at h
  · exact (evo_ok hE hov _).1 f args H res rec H' h
  · cases h

section
variable {E : Env} {ov : Ov}
theorem evo_le : ∀ n, (evo E ov n).le (evo E ov (n + 1))
  | 0 => ⟨fun _ _ _ _ _ h => by simp [evo] at h, fun _ _ _ _ _ h => by simp [evo] at h⟩
  | n + 1 => ⟨fun f a rc h x hx => by
      simp only [evo] at hx ⊢
      split at hx
      · rename_i y hy; exact hx
      · exact aCall_mono (evo_le n) hx, fun _ _ _ _ _ h => aItems_mono (evo_le n) h⟩
theorem evo_mono {n m : Nat} (h : n ≤ m) : (evo E ov n).le (evo E ov m) := by
  induction m with
  | zero =>
    have : n = 0 := by omega
    subst this
    exact ⟨fun _ _ _ _ _ h => h, fun _ _ _ _ _ h => h⟩
  | succ m ih =>
    rcases Nat.lt_or_ge m n with hl | hl
    · have : n = m + 1 := by omega
      subst this
      exact ⟨fun _ _ _ _ _ h => h, fun _ _ _ _ _ h => h⟩
    · exact ⟨fun _ _ _ _ _ h' => (evo_le m).call _ _ _ _ _ ((ih hl).call _ _ _ _ _ h'), fun _ _ _ _ _ h' => (evo_le m).items _ _ _ _ _ ((ih hl).items _ _ _ _ _ h')⟩
theorem evoAny_eq {f : V} {a : List V} {rc : Rc} {h : Heap} {x : FRes × Bool × Heap} {n : Nat} (hx : (evo E ov n).call f a rc h = some x) : evoAny E ov f a rc h = some x := by
  have e : ∃ n x, (evo E ov n).call f a rc h = some x := ⟨n, x, hx⟩
  simp only [evoAny, dif_pos e]
  obtain ⟨y, hy⟩ := e.choose_spec
  have h1 := (evo_mono (Nat.le_max_left n e.choose)).call _ _ _ _ _ hx
  have h2 := (evo_mono (Nat.le_max_right n e.choose)).call _ _ _ _ _ hy
  rw [hy, ← h2, h1]
end

open Classical in
noncomputable def canonW (c : Ov) (pre : List V) (f : V) (args : List V) (h : Heap) : Option (FRes × Bool × Heap) :=
  match args.drop pre.length with
  | [.cell id 0] => if args.take pre.length = pre then match h.get id with
    | some (.row cs) => if f.noId && V.noIds pre && V.noIds cs then
        match c f (pre ++ [.cell 0 0]) .no (canH cs) with
        | some (.ret v, false, hc) => some (.ret (v.ren (sig id h.next)), false, imp id h hc)
        | _ => none
      else none
    | _ => none
    else none
  | _ => none
theorem canonW_ok {E : Env} {P : Program} {c : Ov} (hc : OvOk E P c) (pre : List V) : OvOk E P (fun f a _ h => canonW c pre f a h) := by
  intro f args H res rec H' h
  simp only at h
  unfold canonW at h
  split at h
  · rename_i id hdrop
    split at h
    · rename_i htake
      have hsplit : args = pre ++ [.cell id 0] := by rw [← List.take_append_drop pre.length args, hdrop, htake]
      subst hsplit
      split at h
      · rename_i cs hid
        split at h
        · rename_i hno
          simp only [Bool.and_eq_true] at hno
          split at h
          · rename_i v hc' hcall
            simp only [Option.some.injEq, Prod.mk.injEq] at h
            obtain ⟨rfl, rfl, rfl⟩ := h
            obtain ⟨k1, k2, k3⟩ := hc f (pre ++ [.cell 0 0]) (canH cs) (.ret v) false hc' hcall
            refine ⟨k1, k2, fun ω w xf xargs c cs' hw hf hlen hargs => ?_⟩
            obtain ⟨bl, hbl, horel⟩ := hw.obj id _ hid rfl
            have hro : ∀ b o, ω.ro b = some o → (⟨fun i => if i = 0 then some bl else none, ω.ro⟩ : Om).ro b = some o := fun b o h => h
            have hw0 : WR (okP E P) ⟨fun i => if i = 0 then some bl else none, ω.ro⟩ (canH cs) w := by
              refine ⟨hw.ro, fun i o hg hl => ?_, fun i j oi oj bi bj gi li gj lj hi hj he => ?_, fun i o b hg hl hb => ?_, fun i b hi => ?_⟩
              · rw [canH_get] at hg
                split at hg
                · rename_i e; subst e
                  simp only [Option.some.injEq] at hg; subst hg
                  refine ⟨bl, by simp, ?_⟩
                  simp only [ORel] at horel ⊢
                  obtain ⟨cs2, el, m1, m2, m3, m4, m5⟩ := horel
                  exact ⟨cs2, el, m1, m2, m3, VRs.free hro cs _ hno.2 m4, m5⟩
                · cases hg
              · rw [canH_get] at gi gj
                split at gi
                · split at gj
                  · rename_i e1 e2; rw [e1, e2]
                  · cases gj
                · cases gi
              · simp only at hb
                split at hb
                · simp only [Option.some.injEq] at hb; subst hb
                  exact hw.sep id _ bl hid rfl hbl
                · cases hb
              · simp only at hi
                split at hi
                · rename_i e; subst e; exact Nat.zero_lt_one
                · cases hi
            have hargs0 : VRs ⟨fun i => if i = 0 then some bl else none, ω.ro⟩ (pre ++ [.cell 0 0]) xargs.toList := by
              refine VRs.of_get fun i v hv => ?_
              rcases Nat.lt_or_ge i pre.length with hi | hi
              · rw [List.getElem?_append_left hi] at hv
                obtain ⟨x, h1, h2⟩ := hargs.get i v (by rw [List.getElem?_append_left hi]; exact hv)
                refine ⟨x, h1, VR.free hro v x ?_ h2⟩
                have hn := hno.1.2
                clear hargs hdrop htake hcall k3 h1 h2 hlen
                induction pre generalizing i with
                | nil => simp at hi
                | cons p ps ih =>
                  simp only [V.noIds, Bool.and_eq_true] at hn
                  cases i with
                  | zero => simp only [List.getElem?_cons_zero, Option.some.injEq] at hv; subst hv; exact hn.1
                  | succ i => exact ih ⟨⟨hno.1.1, hn.2⟩, hno.2⟩ i (by simpa using hv) (by simpa using hi) hn.2
              · rw [List.getElem?_append_right hi] at hv
                obtain ⟨x, h1, h2⟩ := hargs.get pre.length (.cell id 0) (by rw [List.getElem?_append_right (Nat.le_refl _)]; simp)
                have : i = pre.length := by
                  have := (List.getElem?_eq_some_iff.1 hv).1
                  simp only [List.length_singleton] at this; omega
                subst this
                simp only [Nat.sub_self, List.getElem?_cons_zero, Option.some.injEq] at hv; subst hv
                simp only [VR] at h2 ⊢
                obtain ⟨b1, e2, e3⟩ := h2
                rw [hbl, Option.some.injEq] at e2; subst e2
                exact ⟨x, h1, bl, by simp, e3⟩
            obtain ⟨ω', w', nx, f0, f1, hev, hwc, h3, h4, h5, h6⟩ := k3 _ w xf xargs c cs' hw0 (VR.free hro f xf hno.1.1 hf) (by simpa using hlen) hargs0
            obtain ⟨r1, r2, r3⟩ := imp_ok hw hid hbl (H0 := canH cs) (fun i o hg => by
              rw [canH_get] at hg
              split at hg
              · assumption
              · cases hg) Nat.zero_lt_one hev hwc
            refine ⟨omImp H ω ω', w', nx, f0, f1, r2, r3, h3, h4, ?_, h6⟩
            obtain ⟨x, hx, e⟩ := h5
            exact ⟨x, VR.ren r1 v x hx, e⟩
          · cases h
        · cases h
      · cases h
    · cases h
  · cases h
def canonE (c : Ov) (f : V) (args : List V) (h : Heap) : Option (FRes × Bool × Heap) :=
  if f.noId && V.noIds args then
    match c f args .no Heap.empty with
    | some (.ret v, false, _) => match v with
      | .bool b => some (.ret (.bool b), false, h)
      | _ => none
    | _ => none
  else none
theorem canonE_ok {E : Env} {P : Program} {c : Ov} (hc : OvOk E P c) : OvOk E P (fun f a _ h => canonE c f a h) := by
  intro f args H res rec H' h
  simp only at h
  unfold canonE at h
  split at h
  · rename_i hno
    simp only [Bool.and_eq_true] at hno
    split at h
    · rename_i v hc' hcall
      split at h
      · rename_i b
        simp only [Option.some.injEq, Prod.mk.injEq] at h
        obtain ⟨rfl, rfl, rfl⟩ := h
        obtain ⟨k1, k2, k3⟩ := hc f args Heap.empty _ false hc' hcall
        refine ⟨k1, k2, fun ω w xf xargs c cs' hw hf hlen hargs => ?_⟩
        have hro : ∀ b o, ω.ro b = some o → (⟨fun _ => none, ω.ro⟩ : Om).ro b = some o := fun b o h => h
        have hg0 : ∀ i, Heap.empty.get i = none := fun i => by simp [Heap.get, Heap.empty]
        have hw0 : WR (okP E P) ⟨fun _ => none, ω.ro⟩ Heap.empty w :=
          ⟨hw.ro, fun i o hg => (by rw [hg0] at hg; cases hg), fun i j oi oj bi bj gi => (by rw [hg0] at gi; cases gi), fun i o b hg => (by rw [hg0] at hg; cases hg), fun i b hi => (by cases hi)⟩
        obtain ⟨ω', w', nx, f0, f1, hev, hwc, h3, h4, h5, h6⟩ := k3 _ w xf xargs c cs' hw0 (VR.free hro f xf hno.1 hf) hlen (VRs.free hro args _ hno.2 hargs)
        have hno0 : ∀ b, ¬ owns ⟨fun _ => none, ω.ro⟩ Heap.empty b := fun b ⟨i, o, bl, h1, _⟩ => by rw [hg0] at h1; cases h1
        have hkeep : ∀ b, b < w.heap.size → w'.heap[b]? = w.heap[b]? := fun b hb => hev.keep b hb (hno0 b) (fun h => h)
        have hle : ω.le ω := .refl ω
        have hsz : ∀ i o bl, H.get i = some o → o.live = true → ω.φ i = some bl → bl.b < w.heap.size := fun i o bl hg hl hb => by
          obtain ⟨bl', e1, e2⟩ := hw.obj i o hg hl
          rw [hb, Option.some.injEq] at e1; subst e1
          exact e2.lt hl
        have hwr : WR (okP E P) ω H w' := by
          refine ⟨fun b o hb => ?_, fun i o hg hl => ?_, hw.inj, hw.sep, hw.dom⟩
          · have h1 := hw.ro b o hb
            rw [hkeep b (Array.getElem?_eq_some_iff.1 h1).1]; exact h1
          · obtain ⟨bl, e1, e2⟩ := hw.obj i o hg hl
            exact ⟨bl, e1, e2.mono hle (hkeep _ (e2.lt hl))⟩
        refine ⟨ω, w', nx, f0, f1, ⟨hle, Nat.le_refl _, hev.size, fun b hb _ _ => hkeep b hb, fun b hb _ => hb, fun b o hb _ => hb, hev.tape, hev.os, hev.out⟩, hwr, h3, h4, ?_, h6⟩
        obtain ⟨x, hx, e⟩ := h5
        exact ⟨x, by simpa only [VR] using hx, e⟩
      · cases h
    · cases h
  · cases h

section
variable {E : Env} {ov : Ov} {fid : FuncId} {k : List AItem} {fr fr' : Fr} {h h' : Heap} {Q : Ex → Fr → Heap → Prop}
def RunO (E : Env) (ov : Ov) (fid : FuncId) (its : List AItem) (fr : Fr) (h : Heap) (Q : Ex → Fr → Heap → Prop) : Prop := ∃ n ex fr' h', (evo E ov n).items fid its fr h = some (ex, fr', h') ∧ Q ex fr' h'
theorem runO_of {its its' : List AItem} {fr fr' : Fr} {h h' : Heap} (hr : ∀ r : Ev, aItems E r fid its fr h = r.items fid its' fr' h') (hn : RunO E ov fid its' fr' h' Q) : RunO E ov fid its fr h Q := by
  obtain ⟨n, ex, f2, h2, hx, q⟩ := hn
  exact ⟨n + 1, ex, f2, h2, by simp only [evo]; rw [hr]; exact hx, q⟩
theorem runO_seq {a b : Code} (hn : RunO E ov fid (.code a :: .code b :: k) fr h Q) : RunO E ov fid (.code (.seq a b) :: k) fr h Q := runO_of (fun _ => rfl) hn
theorem runO_ret (q : Q (.jump .ret) fr h) : RunO E ov fid (.code .ret :: k) fr h Q := ⟨1, _, _, _, rfl, q⟩
theorem runO_region {id : Nat} {ops : Array Oper} {l : List Oper} (hl : ops.toList = l) (hn : RunO E ov fid (.ops ops l :: k) fr h Q) : RunO E ov fid (.code (.region id ops false) :: k) fr h Q := by
  subst hl; exact runO_of (fun _ => rfl) hn
theorem runO_end {all : Array Oper} {fr1 : Fr} (he : E.prune fid fr = fr1) (hn : RunO E ov fid k fr1 h Q) : RunO E ov fid (.ops all [] :: k) fr h Q := by
  subst he; exact runO_of (fun _ => rfl) hn
theorem runO_op {all : Array Oper} {o : Oper} {os : List Oper} {v : V} {fr1 : Fr} (hw : wants all fr o = some true) (hs : stepOp E fid fr h o = some (.val v fr' h')) (hp : fr'.put o.dst v = fr1) (hn : RunO E ov fid (.ops all os :: k) fr1 h' Q) : RunO E ov fid (.ops all (o :: os) :: k) fr h Q := by
  subst hp; exact runO_of (fun _ => by simp only [aItems, hw, hs]) hn
theorem runO_call {all : Array Oper} {o : Oper} {os : List Oper} {f : V} {args : List V} {v : V} {fr1 : Fr} (hw : wants all fr o = some true) (hs : stepOp E fid fr h o = some (.go f args)) (hc : ov f args .no h = some (.ret v, false, h'))
    (hp : fr.put o.dst v = fr1) (hn : RunO E ov fid (.ops all os :: k) fr1 h' Q) : RunO E ov fid (.ops all (o :: os) :: k) fr h Q := by
  subst hp
  obtain ⟨n, ex, f2, h2, hy, q⟩ := hn
  refine ⟨n + 1, ex, f2, h2, ?_, q⟩
  cases n with
  | zero => simp [evo] at hy
  | succ n =>
    have h1 : (evo E ov (n + 1)).call f args .no h = some (.ret v, false, h') := by simp only [evo, hc]
    have h3 : aItems E (evo E ov (n + 1)) fid (.ops all (o :: os) :: k) fr h = (evo E ov (n + 1)).items fid (.ops all os :: k) (fr.put o.dst v) h' := by
      simp only [aItems, hw, hs, h1]
    rw [← hy, ← h3]; rfl
end
end Go.Abs
namespace Go.Abs.Sx

inductive CT where
  | b | i (k : IntKind) | s (m : Nat) | sl (m : Nat) (es : List CT)
  deriving Inhabited
mutual
def CT.beq : CT → CT → Bool
  | .b, .b => true
  | .i k, .i l => k == l
  | .s m, .s n => m == n
  | .sl m x, .sl n y => m == n && CT.beqs x y
  | _, _ => false
def CT.beqs : List CT → List CT → Bool
  | [], [] => true
  | u :: x, v :: y => CT.beq u v && CT.beqs x y
  | _, _ => false
end
mutual
theorem CT.beq_eq : ∀ (u v : CT), CT.beq u v = true → u = v
  | .b, v, h => by cases v <;> simp_all [CT.beq]
  | .i k, v, h => by cases v <;> simp_all [CT.beq]
  | .s m, v, h => by cases v <;> simp_all [CT.beq]
  | .sl m x, v, h => by
    cases v with
    | sl n y => simp only [CT.beq, Bool.and_eq_true, beq_iff_eq] at h; rw [h.1, CT.beqs_eq x y h.2]
    | _ => simp [CT.beq] at h
theorem CT.beqs_eq : ∀ (u v : List CT), CT.beqs u v = true → u = v
  | [], v, h => by
    cases v with
    | nil => rfl
    | cons c y => exact absurd h (by simp [CT.beqs])
  | a :: x, v, h => by
    cases v with
    | nil => simp [CT.beqs] at h
    | cons c y =>
      have h : (CT.beq a c && CT.beqs x y) = true := h
      simp only [Bool.and_eq_true] at h; rw [CT.beq_eq a c h.1, CT.beqs_eq x y h.2]
end

mutual
def hasT : CT → V → Bool
  | .b, v => match v with | .bool _ => true | _ => false
  | .i k, v => match v with | .int k' n => k' == k && decide (k.min ≤ n) && decide (n ≤ k.max) | _ => false
  | .s m, v => match v with | .str s => decide (s.size ≤ m) | _ => false
  | .sl m es, v => match v with
    | .nils => true
    | .sro row off len _ => V.sames row row && decide (len ≤ m) && decide (off + len * es.length ≤ row.length) && (List.range len).all fun i => hasTs es ((row.drop (off + i * es.length)).take es.length)
    | _ => false
def hasTs : List CT → List V → Bool
  | [], [] => true
  | c :: cs, v :: vs => hasT c v && hasTs cs vs
  | _, _ => false
end
def CT.zero : CT → V
  | .b => .bool false
  | .i k => .int k 0
  | .s _ => .str .empty
  | .sl _ _ => .nils
theorem kmin_le (k : IntKind) : k.min ≤ 0 := by cases k <;> decide
theorem kmax_ge (k : IntKind) : 0 ≤ k.max := by cases k <;> decide
theorem hasT_zero (c : CT) : hasT c c.zero = true := by
  cases c with
  | b => rfl
  | i k => simp only [CT.zero, hasT, beq_self_eq_true, Bool.true_and, Bool.and_eq_true, decide_eq_true_eq]; exact ⟨kmin_le k, kmax_ge k⟩
  | s m => simp [CT.zero, hasT]
  | sl m es => simp [CT.zero, hasT]
def good (c : CT) (v : V) : V := if hasT c v then v else c.zero
theorem hasT_good (c : CT) (v : V) : hasT c (good c v) = true := by
  unfold good; split
  · assumption
  · exact hasT_zero c
theorem good_of {c : CT} {v : V} (h : hasT c v = true) : good c v = v := by simp [good, h]

mutual
inductive P where
  | x (n : Nat) (c : CT)
  | el (p : P) (t : Tm) (j : Nat)
  | z (c : CT)
  | ks (m : Nat) (s : ByteArray)
inductive Tm where
  | lit (z : Int)
  | iv (p : P)
  | len (p : P)
  | bd (n : Nat)
  | add (a b : Tm) | sub (a b : Tm) | mul (a b : Tm)
  | wrap (k : IntKind) (a : Tm)
  | mx (a b : Tm) | mn (a b : Tm)
end
instance : Inhabited P := ⟨.z .b⟩
instance : Inhabited Tm := ⟨.lit 0⟩
inductive Fm where
  | tt | ff
  | bv (p : P)
  | lt (a b : Tm) | le (a b : Tm) | eq (a b : Tm)
  | not (a : Fm) | and (a b : Fm) | or (a b : Fm) | imp (a b : Fm)
  | all (n : Nat) (u : Tm) (a : Fm)
  deriving Inhabited

structure LInfo where
  fn : FuncId
  vals : Al V
  ps : Array Tmp
  assign : Code
  body : Code
structure Rho where
  σ : Nat → V
  ι : Nat → Int
  Λ : Nat → Option LInfo
def Rho.bind (ρ : Rho) (n : Nat) (i : Int) : Rho := ⟨ρ.σ, fun m => if m = n then i else ρ.ι m, ρ.Λ⟩

def P.ct : P → CT
  | .x _ c => c
  | .el p _ j => match p.ct with | .sl _ es => es.getD j .b | _ => .b
  | .z c => c
  | .ks m _ => .s m
def CT.size : CT → Nat
  | .sl _ es => es.length
  | _ => 0
def elemAt (v : V) (sz : Nat) (i : Int) (j : Nat) : V :=
  match v with
  | .sro row off len _ => if 0 ≤ i ∧ i < len then row.getD (off + i.toNat * sz + j) .junk else .junk
  | _ => .junk
def vint : V → Int
  | .int _ n => n
  | _ => 0
def vbool : V → Bool
  | .bool b => b
  | _ => false
def vlen : V → Int
  | .sro _ _ len _ => len
  | .str s => s.size
  | _ => 0
mutual
def P.val (ρ : Rho) : P → V
  | .x n c => good c (ρ.σ n)
  | .el p t j => good (P.el p t j).ct (elemAt (p.val ρ) p.ct.size (t.val ρ) j)
  | .z c => c.zero
  | .ks m s => good (.s m) (.str s)
def Tm.val (ρ : Rho) : Tm → Int
  | .lit z => z
  | .iv p => vint (p.val ρ)
  | .len p => vlen (p.val ρ)
  | .bd n => ρ.ι n
  | .add a b => a.val ρ + b.val ρ
  | .sub a b => a.val ρ - b.val ρ
  | .mul a b => a.val ρ * b.val ρ
  | .wrap k a => k.wrap (a.val ρ)
  | .mx a b => max (a.val ρ) (b.val ρ)
  | .mn a b => min (a.val ρ) (b.val ρ)
end
def Fm.holds (ρ : Rho) : Fm → Prop
  | .tt => True
  | .ff => False
  | .bv p => vbool (p.val ρ) = true
  | .lt a b => a.val ρ < b.val ρ
  | .le a b => a.val ρ ≤ b.val ρ
  | .eq a b => a.val ρ = b.val ρ
  | .not a => ¬ a.holds ρ
  | .and a b => a.holds ρ ∧ b.holds ρ
  | .or a b => a.holds ρ ∨ b.holds ρ
  | .imp a b => a.holds ρ → b.holds ρ
  | .all n u a => ∀ i : Int, 0 ≤ i → i < u.val ρ → a.holds (ρ.bind n i)

theorem P.val_hasT (ρ : Rho) (p : P) : hasT p.ct (p.val ρ) = true := by
  cases p <;> simp only [P.val, P.ct] <;> first | exact hasT_good _ _ | exact hasT_zero _

mutual
def P.sc (n : Nat) : P → Bool
  | .x m _ => decide (m < n)
  | .el p t _ => p.sc n && t.sc n
  | .z _ => true
  | .ks _ _ => true
def Tm.sc (n : Nat) : Tm → Bool
  | .lit _ | .bd _ => true
  | .iv p | .len p => p.sc n
  | .add a b | .sub a b | .mul a b | .mx a b | .mn a b => a.sc n && b.sc n
  | .wrap _ a => a.sc n
end
def Fm.sc (n : Nat) : Fm → Bool
  | .tt | .ff => true
  | .bv p => p.sc n
  | .lt a b | .le a b | .eq a b => a.sc n && b.sc n
  | .not a => a.sc n
  | .and a b | .or a b | .imp a b => a.sc n && b.sc n
  | .all _ u a => u.sc n && a.sc n
def Agree (n : Nat) (ρ ρ' : Rho) : Prop := (∀ m, m < n → ρ'.σ m = ρ.σ m) ∧ ρ'.ι = ρ.ι ∧ ∀ m, m < n → ρ'.Λ m = ρ.Λ m
theorem Agree.refl (n : Nat) (ρ : Rho) : Agree n ρ ρ := ⟨fun _ _ => rfl, rfl, fun _ _ => rfl⟩
theorem Agree.trans {n m : Nat} {ρ ρ' ρ'' : Rho} (h : Agree n ρ ρ') (h' : Agree m ρ' ρ'') (hn : n ≤ m) : Agree n ρ ρ'' :=
  ⟨fun k hk => (h'.1 k (by omega)).trans (h.1 k hk), h'.2.1.trans h.2.1, fun k hk => (h'.2.2 k (by omega)).trans (h.2.2 k hk)⟩
theorem Agree.weaken {n m : Nat} {ρ ρ' : Rho} (h : Agree m ρ ρ') (hn : n ≤ m) : Agree n ρ ρ' := ⟨fun k hk => h.1 k (by omega), h.2.1, fun k hk => h.2.2 k (by omega)⟩
theorem Agree.bind {n : Nat} {ρ ρ' : Rho} (h : Agree n ρ ρ') (m : Nat) (i : Int) : Agree n (ρ.bind m i) (ρ'.bind m i) := ⟨h.1, by simp only [Rho.bind, h.2.1], h.2.2⟩
mutual
theorem P.val_agree {n : Nat} {ρ ρ' : Rho} (h : Agree n ρ ρ') : ∀ (p : P), p.sc n = true → p.val ρ' = p.val ρ
  | .x m c, hs => by simp only [P.sc, decide_eq_true_eq] at hs; simp only [P.val, h.1 m hs]
  | .el p t j, hs => by simp only [P.sc, Bool.and_eq_true] at hs; simp only [P.val, P.val_agree h p hs.1, Tm.val_agree h t hs.2]
  | .z c, _ => by simp only [P.val]
  | .ks m s, _ => by simp only [P.val]
theorem Tm.val_agree {n : Nat} {ρ ρ' : Rho} (h : Agree n ρ ρ') : ∀ (t : Tm), t.sc n = true → t.val ρ' = t.val ρ
  | .lit z, _ => by simp only [Tm.val]
  | .bd m, _ => by simp only [Tm.val, h.2.1]
  | .iv p, hs => by simp only [Tm.sc] at hs; simp only [Tm.val, P.val_agree h p hs]
  | .len p, hs => by simp only [Tm.sc] at hs; simp only [Tm.val, P.val_agree h p hs]
  | .add a b, hs | .sub a b, hs | .mul a b, hs | .mx a b, hs | .mn a b, hs => by
    simp only [Tm.sc, Bool.and_eq_true] at hs; simp only [Tm.val, Tm.val_agree h a hs.1, Tm.val_agree h b hs.2]
  | .wrap k a, hs => by simp only [Tm.sc] at hs; simp only [Tm.val, Tm.val_agree h a hs]
end
theorem Fm.holds_agree {n : Nat} : ∀ (f : Fm) {ρ ρ' : Rho}, Agree n ρ ρ' → f.sc n = true → (f.holds ρ' ↔ f.holds ρ)
  | .tt, _, _, _, _ => Iff.rfl
  | .ff, _, _, _, _ => Iff.rfl
  | .bv p, _, _, h, hs => by simp only [Fm.sc] at hs; simp only [Fm.holds, P.val_agree h p hs]
  | .lt a b, _, _, h, hs | .le a b, _, _, h, hs | .eq a b, _, _, h, hs => by
    simp only [Fm.sc, Bool.and_eq_true] at hs; simp only [Fm.holds, Tm.val_agree h a hs.1, Tm.val_agree h b hs.2]
  | .not a, _, _, h, hs => by simp only [Fm.sc] at hs; simp only [Fm.holds, Fm.holds_agree a h hs]
  | .and a b, _, _, h, hs | .or a b, _, _, h, hs | .imp a b, _, _, h, hs => by
    simp only [Fm.sc, Bool.and_eq_true] at hs; simp only [Fm.holds, Fm.holds_agree a h hs.1, Fm.holds_agree b h hs.2]
  | .all m u a, _, _, h, hs => by
    simp only [Fm.sc, Bool.and_eq_true] at hs; simp only [Fm.holds, Tm.val_agree h u hs.1]
    exact forall_congr' fun i => by rw [Fm.holds_agree a (h.bind m i) hs.2]

mutual
def P.beqS : P → P → Bool
  | .x n c, .x m d => n == m && CT.beq c d
  | .el p t j, .el q u l => j == l && Tm.beqS t u && P.beqS p q
  | .z c, .z d => CT.beq c d
  | .ks m s, .ks n t => m == n && s == t
  | _, _ => false
def Tm.beqS : Tm → Tm → Bool
  | .lit a, .lit b => a == b
  | .iv p, .iv q | .len p, .len q => P.beqS p q
  | .bd n, .bd m => n == m
  | .add a b, .add c d | .sub a b, .sub c d | .mul a b, .mul c d | .mx a b, .mx c d | .mn a b, .mn c d => Tm.beqS a c && Tm.beqS b d
  | .wrap k a, .wrap l b => k == l && Tm.beqS a b
  | _, _ => false
end
def Fm.beqS : Fm → Fm → Bool
  | .tt, .tt | .ff, .ff => true
  | .bv p, .bv q => P.beqS p q
  | .lt a b, .lt c d | .le a b, .le c d | .eq a b, .eq c d => Tm.beqS a c && Tm.beqS b d
  | .not a, .not b => Fm.beqS a b
  | .and a b, .and c d | .or a b, .or c d | .imp a b, .imp c d => Fm.beqS a c && Fm.beqS b d
  | .all n u a, .all m v b => n == m && Tm.beqS u v && Fm.beqS a b
  | _, _ => false
mutual
theorem P.beqS_eq : ∀ (a b : P), P.beqS a b = true → a = b
  | .x n c, b, h => by
    cases b <;> simp only [P.beqS, Bool.and_eq_true, beq_iff_eq, Bool.false_eq_true] at h
    rw [h.1, CT.beq_eq _ _ h.2]
  | .el p t j, b, h => by
    cases b <;> simp only [P.beqS, Bool.and_eq_true, beq_iff_eq, Bool.false_eq_true] at h
    rw [h.1.1, Tm.beqS_eq _ _ h.1.2, P.beqS_eq _ _ h.2]
  | .z c, b, h => by
    cases b <;> simp only [P.beqS, Bool.false_eq_true] at h
    rw [CT.beq_eq _ _ h]
  | .ks m s, b, h => by
    cases b <;> simp only [P.beqS, Bool.and_eq_true, beq_iff_eq, Bool.false_eq_true] at h
    rw [h.1, bytes_eq h.2]
theorem Tm.beqS_eq : ∀ (a b : Tm), Tm.beqS a b = true → a = b
  | .lit z, b, h => by cases b <;> simp_all [Tm.beqS]
  | .bd n, b, h => by cases b <;> simp_all [Tm.beqS]
  | .iv p, b, h => by
    cases b <;> simp only [Tm.beqS, Bool.false_eq_true] at h
    rw [P.beqS_eq _ _ h]
  | .len p, b, h => by
    cases b <;> simp only [Tm.beqS, Bool.false_eq_true] at h
    rw [P.beqS_eq _ _ h]
  | .add a c, b, h | .sub a c, b, h | .mul a c, b, h | .mx a c, b, h | .mn a c, b, h => by
    cases b <;> simp only [Tm.beqS, Bool.and_eq_true, Bool.false_eq_true] at h
    rw [Tm.beqS_eq _ _ h.1, Tm.beqS_eq _ _ h.2]
  | .wrap k a, b, h => by
    cases b <;> simp only [Tm.beqS, Bool.and_eq_true, beq_iff_eq, Bool.false_eq_true] at h
    rw [h.1, Tm.beqS_eq _ _ h.2]
end
theorem Fm.beqS_eq : ∀ (a b : Fm), Fm.beqS a b = true → a = b
  | .tt, b, h => by cases b <;> simp_all [Fm.beqS]
  | .ff, b, h => by cases b <;> simp_all [Fm.beqS]
  | .bv p, b, h => by
    cases b <;> simp only [Fm.beqS, Bool.false_eq_true] at h
    rw [P.beqS_eq _ _ h]
  | .lt a c, b, h | .le a c, b, h | .eq a c, b, h => by
    cases b <;> simp only [Fm.beqS, Bool.and_eq_true, Bool.false_eq_true] at h
    rw [Tm.beqS_eq _ _ h.1, Tm.beqS_eq _ _ h.2]
  | .not a, b, h => by
    cases b <;> simp only [Fm.beqS, Bool.false_eq_true] at h
    rw [Fm.beqS_eq _ _ h]
  | .and a c, b, h | .or a c, b, h | .imp a c, b, h => by
    cases b <;> simp only [Fm.beqS, Bool.and_eq_true, Bool.false_eq_true] at h
    rw [Fm.beqS_eq _ _ h.1, Fm.beqS_eq _ _ h.2]
  | .all n u a, b, h => by
    cases b <;> simp only [Fm.beqS, Bool.and_eq_true, beq_iff_eq, Bool.false_eq_true] at h
    rw [h.1.1, Tm.beqS_eq _ _ h.1.2, Fm.beqS_eq _ _ h.2]
def zHash : Int → Nat
  | .ofNat n => n * 2
  | .negSucc n => n * 2 + 1
mutual
def P.hash : P → Nat
  | .x n _ => n * 8 + 1
  | .el p t j => (P.hash p * 31 + Tm.hash t * 1009 + j * 7 + 2) % 2305843009213693951
  | .z _ => 3
  | .ks m s => m * 8 + s.size * 16 + 4
def Tm.hash : Tm → Nat
  | .lit z => zHash z * 8 + 5
  | .iv p => (P.hash p * 37 + 11) % 2305843009213693951
  | .len p => (P.hash p * 41 + 12) % 2305843009213693951
  | .bd n => n * 64 + 13
  | .add a b => (Tm.hash a * 43 + Tm.hash b * 47 + 14) % 2305843009213693951
  | .sub a b => (Tm.hash a * 53 + Tm.hash b * 59 + 15) % 2305843009213693951
  | .mul a b => (Tm.hash a * 61 + Tm.hash b * 67 + 16) % 2305843009213693951
  | .wrap _ a => (Tm.hash a * 71 + 17) % 2305843009213693951
  | .mx a b => (Tm.hash a * 73 + Tm.hash b * 79 + 18) % 2305843009213693951
  | .mn a b => (Tm.hash a * 83 + Tm.hash b * 89 + 19) % 2305843009213693951
end
def Fm.hash : Fm → Nat
  | .tt => 21
  | .ff => 22
  | .bv p => (P.hash p * 97 + 23) % 2305843009213693951
  | .lt a b => (Tm.hash a * 101 + Tm.hash b * 103 + 24) % 2305843009213693951
  | .le a b => (Tm.hash a * 107 + Tm.hash b * 109 + 25) % 2305843009213693951
  | .eq a b => (Tm.hash a * 113 + Tm.hash b * 127 + 26) % 2305843009213693951
  | .not a => (Fm.hash a * 131 + 27) % 2305843009213693951
  | .and a b => (Fm.hash a * 137 + Fm.hash b * 139 + 28) % 2305843009213693951
  | .or a b => (Fm.hash a * 149 + Fm.hash b * 151 + 29) % 2305843009213693951
  | .imp a b => (Fm.hash a * 157 + Fm.hash b * 163 + 30) % 2305843009213693951
  | .all n u a => (Tm.hash u * 167 + Fm.hash a * 173 + n * 179 + 31) % 2305843009213693951
def P.beq (a b : P) : Bool := Nat.beq a.hash b.hash && P.beqS a b
def Tm.beq (a b : Tm) : Bool := Nat.beq a.hash b.hash && Tm.beqS a b
def Fm.beq (a b : Fm) : Bool := Nat.beq a.hash b.hash && Fm.beqS a b
theorem P.beq_eq (a b : P) (h : P.beq a b = true) : a = b := P.beqS_eq a b ((Bool.and_eq_true _ _).mp h).2
theorem Tm.beq_eq (a b : Tm) (h : Tm.beq a b = true) : a = b := Tm.beqS_eq a b ((Bool.and_eq_true _ _).mp h).2
theorem Fm.beq_eq (a b : Fm) (h : Fm.beq a b = true) : a = b := Fm.beqS_eq a b ((Bool.and_eq_true _ _).mp h).2
end Go.Abs.Sx
