/- Symbolic values: what they mean. -/
import Derived.Test.YtpjhhplefafojaaGreatBb
import Derived.Lib.TrimU
import Derived.Lib.QuoteLoop
set_option linter.unusedVariables false
set_option linter.unusedSimpArgs false
namespace Go.Abs.Sx

inductive Off where
  | at (n : Nat)
  | ix (lo sz cnt : Nat) (t : Tm) (j : Nat)
  deriving Inhabited
inductive S where
  | pv (p : P)
  | bo (f : Fm)
  | it (k : IntKind) (t : Tm)
  | str (s : ByteArray)
  | nilp | nils | nilm | nilf | nili | junk
  | agg (cs : List S)
  | tup (cs : List S)
  | loc (t : Nat) (o : Off)
  | cell (x : Nat) (o : Off)
  | mp (x : Nat)
  | elp (p : P) (t : Tm) (j : Nat)
  | row (cs : List S) (off len : Nat) (full : Bool)
  | rowp (cs : List S) (o : Off)
  | buf (x : Nat) (off len : Tm) (sz : Nat) (full : Fm)
  | fn (f : FuncId) (first cap : List S)
  | yld (x : Nat)
  | iface (t : TypeId) (s : S)
  deriving Inhabited

def rid (ρ : Rho) (x : Nat) : Nat := match ρ.σ x with | .mp n => n | _ => 0
def Off.val (ρ : Rho) : Off → Nat
  | .at n => n
  | .ix lo sz _ t j => lo + (t.val ρ).toNat * sz + j
open Classical in
noncomputable def fmV (ρ : Rho) (f : Fm) : Bool := decide (f.holds ρ)
theorem fmV_true {ρ : Rho} {f : Fm} : fmV ρ f = true ↔ f.holds ρ := by simp [fmV]
theorem fmV_false {ρ : Rho} {f : Fm} : fmV ρ f = false ↔ ¬ f.holds ρ := by simp [fmV]
def elPtr (v : V) (i : Int) (sz j : Nat) : V := match v with | .sro l0 o0 _ _ => .rop l0 (o0 + i.toNat * sz + j) | _ => .rop [] 0
theorem elPtr_rop (v : V) (i : Int) (sz j : Nat) : ∃ r o, elPtr v i sz j = .rop r o := by unfold elPtr; split <;> exact ⟨_, _, rfl⟩
mutual
noncomputable def S.val (ρ : Rho) : S → V
  | .pv p => p.val ρ
  | .bo f => .bool (fmV ρ f)
  | .it k t => .int k (t.val ρ)
  | .str s => .str s
  | .nilp => .nilp
  | .nils => .nils
  | .nilm => .nilm
  | .nilf => .nilf
  | .nili => .nili
  | .junk => .junk
  | .agg cs => .agg (S.vals ρ cs)
  | .tup cs => .tup (S.vals ρ cs)
  | .loc t o => .loc t (o.val ρ)
  | .cell x o => .cell (rid ρ x) (o.val ρ)
  | .mp x => .mp (rid ρ x)
  | .elp p t j => elPtr (p.val ρ) (t.val ρ) p.ct.size j
  | .row cs off len full => .sro (S.vals ρ cs) off len full
  | .rowp cs o => .rop (S.vals ρ cs) (o.val ρ)
  | .buf x off len sz full => .sbuf (rid ρ x) ((off.val ρ).toNat * sz) (len.val ρ).toNat sz (fmV ρ full)
  | .fn f a c => .fn (.func f) (S.vals ρ a) (S.vals ρ c)
  | .yld x => .fn (.yield (rid ρ x)) [] []
  | .iface t s => .iface t (S.val ρ s)
noncomputable def S.vals (ρ : Rho) : List S → List V
  | [] => []
  | s :: r => S.val ρ s :: S.vals ρ r
end
theorem S.vals_eq (ρ : Rho) : ∀ l, S.vals ρ l = l.map (S.val ρ)
  | [] => rfl
  | s :: r => by simp only [S.vals, List.map_cons, S.vals_eq ρ r]

def Off.sc (n : Nat) : Off → Bool
  | .at _ => true
  | .ix _ _ _ t _ => t.sc n
mutual
def S.sc (n : Nat) : S → Bool
  | .pv p => p.sc n
  | .bo f => f.sc n
  | .it _ t => t.sc n
  | .agg cs | .tup cs | .row cs _ _ _ => S.scs n cs
  | .rowp cs o => S.scs n cs && o.sc n
  | .loc _ o => o.sc n
  | .cell x o => decide (x < n) && o.sc n
  | .mp x | .yld x => decide (x < n)
  | .elp p t _ => p.sc n && t.sc n
  | .buf x off len _ full => decide (x < n) && off.sc n && len.sc n && full.sc n
  | .fn _ a c => S.scs n a && S.scs n c
  | .iface _ s => S.sc n s
  | _ => true
def S.scs (n : Nat) : List S → Bool
  | [] => true
  | s :: r => S.sc n s && S.scs n r
end
theorem rid_agree {n : Nat} {ρ ρ' : Rho} (h : Agree n ρ ρ') {x : Nat} (hx : x < n) : rid ρ' x = rid ρ x := by simp only [rid, h.1 x hx]
theorem Off.val_agree {n : Nat} {ρ ρ' : Rho} (h : Agree n ρ ρ') : ∀ (o : Off), o.sc n = true → o.val ρ' = o.val ρ
  | .at _, _ => rfl
  | .ix lo sz _ t j, hs => by simp only [Off.sc] at hs; simp only [Off.val, Tm.val_agree h t hs]
theorem fmV_agree {n : Nat} {ρ ρ' : Rho} (h : Agree n ρ ρ') {f : Fm} (hs : f.sc n = true) : fmV ρ' f = fmV ρ f := by
  have := Fm.holds_agree f h hs
  unfold fmV; rw [decide_eq_decide]; exact this
mutual
theorem S.val_agree {n : Nat} {ρ ρ' : Rho} (h : Agree n ρ ρ') : ∀ (s : S), s.sc n = true → s.val ρ' = s.val ρ
  | .pv p, hs => by simp only [S.sc] at hs; simp only [S.val, P.val_agree h p hs]
  | .bo f, hs => by simp only [S.sc] at hs; simp only [S.val, fmV_agree h hs]
  | .it k t, hs => by simp only [S.sc] at hs; simp only [S.val, Tm.val_agree h t hs]
  | .str _, _ | .nilp, _ | .nils, _ | .nilm, _ | .nilf, _ | .nili, _ | .junk, _ => rfl
  | .agg cs, hs | .tup cs, hs | .row cs _ _ _, hs => by simp only [S.sc] at hs; simp only [S.val, S.vals_agree h cs hs]
  | .rowp cs o, hs => by simp only [S.sc, Bool.and_eq_true] at hs; simp only [S.val, S.vals_agree h cs hs.1, Off.val_agree h o hs.2]
  | .loc _ o, hs => by simp only [S.sc] at hs; simp only [S.val, Off.val_agree h o hs]
  | .cell x o, hs => by simp only [S.sc, Bool.and_eq_true, decide_eq_true_eq] at hs; simp only [S.val, rid_agree h hs.1, Off.val_agree h o hs.2]
  | .mp x, hs | .yld x, hs => by simp only [S.sc, decide_eq_true_eq] at hs; simp only [S.val, rid_agree h hs]
  | .elp p t j, hs => by simp only [S.sc, Bool.and_eq_true] at hs; simp only [S.val, P.val_agree h p hs.1, Tm.val_agree h t hs.2]
  | .buf x off len sz full, hs => by
    simp only [S.sc, Bool.and_eq_true, decide_eq_true_eq] at hs
    simp only [S.val, rid_agree h hs.1.1.1, Tm.val_agree h off hs.1.1.2, Tm.val_agree h len hs.1.2, fmV_agree h hs.2]
  | .fn _ a c, hs => by simp only [S.sc, Bool.and_eq_true] at hs; simp only [S.val, S.vals_agree h a hs.1, S.vals_agree h c hs.2]
  | .iface _ s, hs => by simp only [S.sc] at hs; simp only [S.val, S.val_agree h s hs]
theorem S.vals_agree {n : Nat} {ρ ρ' : Rho} (h : Agree n ρ ρ') : ∀ (l : List S), S.scs n l = true → S.vals ρ' l = S.vals ρ l
  | [], _ => rfl
  | s :: r, hs => by simp only [S.scs, Bool.and_eq_true] at hs; simp only [S.vals, S.val_agree h s hs.1, S.vals_agree h r hs.2]
end
theorem S.scs_all (n : Nat) : ∀ (l : List S), S.scs n l = true ↔ ∀ s ∈ l, s.sc n = true
  | [] => by simp [S.scs]
  | s :: r => by simp only [S.scs, Bool.and_eq_true, S.scs_all n r, List.forall_mem_cons]

mutual
theorem P.sc_mono {n m : Nat} (hn : n ≤ m) : ∀ p : P, p.sc n = true → p.sc m = true
  | .x k c, h => by simp only [P.sc, decide_eq_true_eq] at h ⊢; omega
  | .el p t j, h => by simp only [P.sc, Bool.and_eq_true] at h ⊢; exact ⟨P.sc_mono hn p h.1, Tm.sc_mono hn t h.2⟩
  | .z _, _ | .ks _ _, _ => by simp only [P.sc]
theorem Tm.sc_mono {n m : Nat} (hn : n ≤ m) : ∀ t : Tm, t.sc n = true → t.sc m = true
  | .lit _, _ | .bd _, _ => by simp only [Tm.sc]
  | .iv p, h | .len p, h => by simp only [Tm.sc] at h ⊢; exact P.sc_mono hn p h
  | .add a b, h | .sub a b, h | .mul a b, h | .mx a b, h | .mn a b, h => by
    simp only [Tm.sc, Bool.and_eq_true] at h ⊢; exact ⟨Tm.sc_mono hn a h.1, Tm.sc_mono hn b h.2⟩
  | .wrap _ a, h => by simp only [Tm.sc] at h ⊢; exact Tm.sc_mono hn a h
end
theorem Fm.sc_mono {n m : Nat} (hn : n ≤ m) : ∀ f : Fm, f.sc n = true → f.sc m = true
  | .tt, _ | .ff, _ => by simp only [Fm.sc]
  | .bv p, h => by simp only [Fm.sc] at h ⊢; exact P.sc_mono hn p h
  | .lt a b, h | .le a b, h | .eq a b, h => by
    simp only [Fm.sc, Bool.and_eq_true] at h ⊢; exact ⟨Tm.sc_mono hn a h.1, Tm.sc_mono hn b h.2⟩
  | .not a, h => by simp only [Fm.sc] at h ⊢; exact Fm.sc_mono hn a h
  | .and a b, h | .or a b, h | .imp a b, h => by
    simp only [Fm.sc, Bool.and_eq_true] at h ⊢; exact ⟨Fm.sc_mono hn a h.1, Fm.sc_mono hn b h.2⟩
  | .all _ u a, h => by simp only [Fm.sc, Bool.and_eq_true] at h ⊢; exact ⟨Tm.sc_mono hn u h.1, Fm.sc_mono hn a h.2⟩
theorem Off.sc_mono {n m : Nat} (hn : n ≤ m) : ∀ o : Off, o.sc n = true → o.sc m = true
  | .at _, _ => rfl
  | .ix _ _ _ t _, h => by simp only [Off.sc] at h ⊢; exact Tm.sc_mono hn t h
mutual
theorem S.sc_mono {n m : Nat} (hn : n ≤ m) : ∀ s : S, s.sc n = true → s.sc m = true
  | .pv p, h => by simp only [S.sc] at h ⊢; exact P.sc_mono hn p h
  | .bo f, h => by simp only [S.sc] at h ⊢; exact Fm.sc_mono hn f h
  | .it _ t, h => by simp only [S.sc] at h ⊢; exact Tm.sc_mono hn t h
  | .str _, _ | .nilp, _ | .nils, _ | .nilm, _ | .nilf, _ | .nili, _ | .junk, _ => by simp only [S.sc]
  | .agg cs, h | .tup cs, h | .row cs _ _ _, h => by simp only [S.sc] at h ⊢; exact S.scs_mono hn cs h
  | .rowp cs o, h => by simp only [S.sc, Bool.and_eq_true] at h ⊢; exact ⟨S.scs_mono hn cs h.1, Off.sc_mono hn o h.2⟩
  | .loc _ o, h => by simp only [S.sc] at h ⊢; exact Off.sc_mono hn o h
  | .cell x o, h => by simp only [S.sc, Bool.and_eq_true, decide_eq_true_eq] at h ⊢; exact ⟨by omega, Off.sc_mono hn o h.2⟩
  | .mp x, h | .yld x, h => by simp only [S.sc, decide_eq_true_eq] at h ⊢; omega
  | .elp p t j, h => by simp only [S.sc, Bool.and_eq_true] at h ⊢; exact ⟨P.sc_mono hn p h.1, Tm.sc_mono hn t h.2⟩
  | .buf x off len sz full, h => by
    simp only [S.sc, Bool.and_eq_true, decide_eq_true_eq] at h ⊢
    exact ⟨⟨⟨by omega, Tm.sc_mono hn off h.1.1.2⟩, Tm.sc_mono hn len h.1.2⟩, Fm.sc_mono hn full h.2⟩
  | .fn _ a c, h => by simp only [S.sc, Bool.and_eq_true] at h ⊢; exact ⟨S.scs_mono hn a h.1, S.scs_mono hn c h.2⟩
  | .iface _ s, h => by simp only [S.sc] at h ⊢; exact S.sc_mono hn s h
theorem S.scs_mono {n m : Nat} (hn : n ≤ m) : ∀ l : List S, S.scs n l = true → S.scs m l = true
  | [], _ => by simp only [S.scs]
  | s :: r, h => by simp only [S.scs, Bool.and_eq_true] at h ⊢; exact ⟨S.sc_mono hn s h.1, S.scs_mono hn r h.2⟩
end

def ofP (p : P) : S :=
  match p.ct with
  | .b => .bo (.bv p)
  | .i k => .it k (.iv p)
  | _ => .pv p
theorem ofP_val (ρ : Rho) (p : P) : (ofP p).val ρ = p.val ρ := by
  have h := P.val_hasT ρ p
  unfold ofP
  split
  · rename_i hc
    rw [hc] at h
    simp only [hasT] at h
    split at h
    · rename_i v b hv
      simp only [S.val, hv]
      congr 1
      cases b
      · rw [fmV_false]; simp [Fm.holds, hv, vbool]
      · rw [fmV_true]; simp [Fm.holds, hv, vbool]
    · cases h
  · rename_i k hc
    rw [hc] at h
    simp only [hasT] at h
    split at h
    · rename_i v k' n hv
      simp only [Bool.and_eq_true, beq_iff_eq] at h
      simp only [S.val, Tm.val, hv, vint, h.1.1]
    · cases h
  · rfl

def S.isLoc : S → Bool
  | .loc .. => true
  | _ => false
theorem hasT_notLoc {c : CT} {v : V} (h : hasT c v = true) : v.isLoc = false := by
  cases c <;> cases v <;> simp_all [hasT, V.isLoc]
theorem hasT_flat {c : CT} {v : V} (h : hasT c v = true) : v.flat = true := by
  cases c <;> cases v <;> simp_all [hasT, V.flat]
theorem hasT_cells {c : CT} {v : V} (h : hasT c v = true) : v.cells = [v] := by
  cases c <;> cases v <;> simp_all [hasT, V.cells]
theorem S.isLoc_val (ρ : Rho) (s : S) : (s.val ρ).isLoc = s.isLoc := by
  cases s <;> simp only [S.val, V.isLoc, S.isLoc]
  · exact hasT_notLoc (P.val_hasT ρ _)
  · rename_i p t j; obtain ⟨r, o, e⟩ := elPtr_rop (P.val ρ p) (Tm.val ρ t) p.ct.size j; rw [e]
def S.flat : S → Bool
  | .agg _ | .tup _ | .loc .. | .junk => false
  | _ => true
theorem S.flat_val (ρ : Rho) (s : S) (h : s.flat = true) : (s.val ρ).flat = true := by
  cases s <;> simp only [S.val, V.flat, S.flat, Bool.false_eq_true] at h ⊢
  · exact hasT_flat (P.val_hasT ρ _)
  · rename_i p t j; obtain ⟨r, o, e⟩ := elPtr_rop (P.val ρ p) (Tm.val ρ t) p.ct.size j; rw [e]
def S.flats (l : List S) : Bool := l.all S.flat
theorem S.flats_val (ρ : Rho) (l : List S) (h : S.flats l = true) : Abs.flats (S.vals ρ l) = true := by
  rw [S.vals_eq]
  simp only [S.flats, List.all_eq_true] at h
  simp only [Abs.flats, List.all_map, List.all_eq_true, Function.comp]
  exact fun s hs => S.flat_val ρ s (h s hs)
def S.cells : S → List S
  | .agg cs => cs
  | s => [s]
theorem S.cells_val (ρ : Rho) (s : S) : (s.val ρ).cells = S.vals ρ s.cells := by
  cases s <;> simp only [S.val, V.cells, S.cells, S.vals]
  · exact hasT_cells (P.val_hasT ρ _)
  · rename_i p t j; obtain ⟨r, o, e⟩ := elPtr_rop (P.val ρ p) (Tm.val ρ t) p.ct.size j; rw [e]
def S.whole (s : S) : Bool := S.flats s.cells
theorem S.whole_val (ρ : Rho) (s : S) (h : s.whole = true) : (s.val ρ).whole = true := by
  unfold V.whole; rw [S.cells_val]; exact S.flats_val ρ _ h
theorem S.vals_length (ρ : Rho) (l : List S) : (S.vals ρ l).length = l.length := by rw [S.vals_eq, List.length_map]

def ofScalarV : V → Option S
  | .bool b => some (.bo (if b then .tt else .ff))
  | .int k n => some (.it k (.lit n))
  | .str s => some (.str s)
  | .nilp => some .nilp
  | .nils => some .nils
  | .nilm => some .nilm
  | .nilf => some .nilf
  | .nili => some .nili
  | _ => none
def ofScalarsV : List V → Option (List S)
  | [] => some []
  | v :: r => match ofScalarV v, ofScalarsV r with
    | some s, some l => some (s :: l)
    | _, _ => none
def ofV : V → Option S
  | .agg cs => (ofScalarsV cs).map .agg
  | v => ofScalarV v
theorem ofScalarV_val (ρ : Rho) {v : V} {s : S} (h : ofScalarV v = some s) : s.val ρ = v := by
  cases v <;> simp only [ofScalarV, Option.some.injEq, reduceCtorEq] at h <;> subst h <;> simp only [S.val, Tm.val]
  rename_i b
  cases b
  · simp only [Bool.false_eq_true, if_false]; congr 1; rw [fmV_false]; simp [Fm.holds]
  · simp only [if_true]; congr 1; rw [fmV_true]; simp [Fm.holds]
theorem ofScalarsV_val (ρ : Rho) : ∀ {l : List V} {r : List S}, ofScalarsV l = some r → S.vals ρ r = l
  | [], r, h => by simp only [ofScalarsV, Option.some.injEq] at h; subst h; rfl
  | v :: l, r, h => by
    simp only [ofScalarsV] at h
    split at h
    · rename_i s r' h1 h2
      simp only [Option.some.injEq] at h; subst h
      simp only [S.vals, ofScalarV_val ρ h1, ofScalarsV_val ρ h2]
    · cases h
theorem ofV_val (ρ : Rho) {v : V} {s : S} (h : ofV v = some s) : s.val ρ = v := by
  unfold ofV at h
  split at h
  · rename_i cs
    cases hc : ofScalarsV cs with
    | none => simp [hc] at h
    | some r => simp only [hc, Option.map_some, Option.some.injEq] at h; subst h; simp only [S.val, ofScalarsV_val ρ hc]
  · exact ofScalarV_val ρ h
end Go.Abs.Sx
namespace Go.Abs.Sx

def mapAl {α β : Type} (f : α → β) (m : Al α) : Al β := m.map fun p => (p.1, f p.2)
theorem mapAl_get {α β : Type} (f : α → β) : ∀ (m : Al α) (k : Nat), (mapAl f m).get k = (m.get k).map f
  | [], _ => rfl
  | (j, v) :: r, k => by
    simp only [mapAl, List.map_cons, Al.get]
    split
    · rfl
    · exact mapAl_get f r k
theorem Al.mem_of_get {α : Type} : ∀ {m : Al α} {k : Nat} {v : α}, m.get k = some v → (k, v) ∈ m
  | [], _, _, h => by simp [Al.get] at h
  | (j, u) :: r, k, v, h => by
    simp only [Al.get] at h
    split at h
    · rename_i e; simp only [Option.some.injEq] at h; subst h; subst e; exact List.mem_cons_self
    · exact List.mem_cons_of_mem _ (Al.mem_of_get h)
theorem Al.mem_put {α : Type} : ∀ {m : Al α} {k : Nat} {v : α} {p : Nat × α}, p ∈ m.put k v → p = (k, v) ∨ p ∈ m
  | [], k, v, p, h => by simp only [Al.put, List.mem_singleton] at h; exact .inl h
  | (j, u) :: r, k, v, p, h => by
    simp only [Al.put] at h
    split at h
    · rcases List.mem_cons.1 h with h | h
      · exact .inl h
      · exact .inr (List.mem_cons_of_mem _ h)
    · split at h
      · rcases List.mem_cons.1 h with h | h
        · exact .inl h
        · exact .inr h
      · rcases List.mem_cons.1 h with h | h
        · exact .inr (h ▸ List.mem_cons_self)
        · rcases Al.mem_put h with h | h
          · exact .inl h
          · exact .inr (List.mem_cons_of_mem _ h)

def typed (a : Bool) (cs : List CT) (v : V) : Bool :=
  if a then (match v with | .agg l => hasTs cs l | _ => false) else (match cs with | [c] => hasT c v | _ => false)
inductive Chunk where
  | row (cs : List S)
  | buf (p : P)
  | siter (p : P) (t : Tm)
  | map (ka : Bool) (ks : List CT) (va : Bool) (vs : List CT)
  | loop (k : Nat) (state : LoopState) (pending : Option (Option Nat))
  | dead
  deriving Inhabited
def cellsOf (sz : Nat) : V → List V
  | .sro l0 o0 len _ => (l0.drop o0).take (len * sz)
  | _ => []
def pendCode : Option Nat → Code
  | some id => .exit id
  | none => .ret
def Chunk.holds (ρ : Rho) : Chunk → AObj → Prop
  | .row cs, o => o = .row (S.vals ρ cs)
  | .buf p, o => o = .row (cellsOf p.ct.size (p.val ρ))
  | .siter p t, o => ∃ s, p.val ρ = .str s ∧ o = .siter s (t.val ρ).toNat
  | .map ka ks va vs, o => ∃ es c, o = .mapo es c ∧ ∀ e ∈ es, typed ka ks e.1 = true ∧ typed va vs e.2.1 = true
  | .loop k s p, o => ∃ i, ρ.Λ k = some i ∧ o = .loop ⟨s, p.map pendCode, i.fn, i.vals, i.ps, i.assign, i.body⟩
  | .dead, _ => True
def Chunk.sc (n : Nat) : Chunk → Bool
  | .row cs => S.scs n cs
  | .buf p => p.sc n
  | .siter p t => p.sc n && t.sc n
  | .loop k _ _ => decide (k < n)
  | _ => true
theorem Chunk.holds_agree {n : Nat} {ρ ρ' : Rho} (h : Agree n ρ ρ') {c : Chunk} (hs : c.sc n = true) {o : AObj} (hh : c.holds ρ o) : c.holds ρ' o := by
  cases c <;> simp only [Chunk.holds, Chunk.sc] at hs hh ⊢
  · rw [S.vals_agree h _ hs]; exact hh
  · rw [P.val_agree h _ hs]; exact hh
  · simp only [Bool.and_eq_true] at hs
    rw [P.val_agree h _ hs.1, Tm.val_agree h _ hs.2]; exact hh
  · exact hh
  · simp only [decide_eq_true_eq] at hs
    obtain ⟨i, h1, h2⟩ := hh
    exact ⟨i, by rw [h.2.2 _ hs]; exact h1, h2⟩
theorem Chunk.sc_mono {n m : Nat} (hn : n ≤ m) {c : Chunk} (hs : c.sc n = true) : c.sc m = true := by
  cases c <;> simp only [Chunk.sc] at hs ⊢
  · exact S.scs_mono hn _ hs
  · exact P.sc_mono hn _ hs
  · simp only [Bool.and_eq_true] at hs ⊢; exact ⟨P.sc_mono hn _ hs.1, Tm.sc_mono hn _ hs.2⟩
  · simp only [decide_eq_true_eq] at hs ⊢; omega

structure Mem where
  chunks : List (Nat × Chunk)
  facts : List Fm
  nv : Nat
  deriving Inhabited
inductive SRc where
  | no | ban (x : Nat)
  deriving Inhabited
def SRc.val (ρ : Rho) : SRc → Rc
  | .no => .no
  | .ban x => .ban (rid ρ x)
def SRc.sc (n : Nat) : SRc → Bool
  | .no => true
  | .ban x => decide (x < n)
structure St where
  vals : Al S
  boxes : Al (List S)
  rc : SRc
  m : Mem
  deriving Inhabited

structure MDen (h0 : Heap) (F : Nat → Prop) (ρ : Rho) (m : Mem) (h : Heap) : Prop where
  chunk : ∀ q ∈ m.chunks, ∃ o, h.get (rid ρ q.1) = some o ∧ q.2.holds ρ o
  dist : m.chunks.Pairwise fun a b => rid ρ a.1 ≠ rid ρ b.1
  facts : ∀ f ∈ m.facts, f.holds ρ
  next : h0.next ≤ h.next
  frame : ∀ id, id < h0.next → ¬ F id → h.get id = h0.get id
  own : ∀ q ∈ m.chunks, F (rid ρ q.1) ∨ h0.next ≤ rid ρ q.1
structure FDen (ρ : Rho) (st : St) (fr : Fr) : Prop where
  vals : ∀ k s, st.vals.get k = some s → fr.vals.get k = some (s.val ρ)
  boxes : ∀ k cs, st.boxes.get k = some cs → fr.boxes.get k = some (S.vals ρ cs)
  defers : fr.defers = []
  rc : fr.rc = st.rc.val ρ
structure Mem.Sc (m : Mem) : Prop where
  chunk : ∀ q ∈ m.chunks, q.1 < m.nv ∧ q.2.sc m.nv = true
  facts : ∀ f ∈ m.facts, f.sc m.nv = true
structure St.FSc (st : St) (n : Nat) : Prop where
  vals : ∀ q ∈ st.vals, q.2.sc n = true
  boxes : ∀ q ∈ st.boxes, S.scs n q.2 = true
  rc : st.rc.sc n = true
def St.Sc (st : St) : Prop := st.FSc st.m.nv ∧ st.m.Sc
def Den (h0 : Heap) (F : Nat → Prop) (ρ : Rho) (st : St) (fr : Fr) (h : Heap) : Prop := FDen ρ st fr ∧ MDen h0 F ρ st.m h

theorem St.FSc.mono {st : St} {n m : Nat} (hs : st.FSc n) (hn : n ≤ m) : st.FSc m :=
  ⟨fun q hq => S.sc_mono hn _ (hs.vals q hq), fun q hq => S.scs_mono hn _ (hs.boxes q hq), by
    have := hs.rc; cases hr : st.rc <;> simp only [hr, SRc.sc, decide_eq_true_eq] at this ⊢; omega⟩
theorem FDen.agree {ρ ρ' : Rho} {st : St} {fr : Fr} {n : Nat} (hd : FDen ρ st fr) (hs : st.FSc n) (ha : Agree n ρ ρ') : FDen ρ' st fr where
  vals := fun k s hk => by rw [S.val_agree ha s (hs.vals _ (Al.mem_of_get hk))]; exact hd.vals k s hk
  boxes := fun k cs hk => by rw [S.vals_agree ha cs (hs.boxes _ (Al.mem_of_get hk))]; exact hd.boxes k cs hk
  defers := hd.defers
  rc := by
    rw [hd.rc]
    have := hs.rc
    cases hr : st.rc <;> simp only [hr, SRc.sc, decide_eq_true_eq] at this
    · rfl
    · simp only [SRc.val, rid_agree ha this]
theorem MDen.agree {h0 : Heap} {F : Nat → Prop} {ρ ρ' : Rho} {m : Mem} {h : Heap} (hd : MDen h0 F ρ m h) (hs : m.Sc) (ha : Agree m.nv ρ ρ') : MDen h0 F ρ' m h where
  chunk := fun q hq => by
    obtain ⟨o, h1, h2⟩ := hd.chunk q hq
    exact ⟨o, by rw [rid_agree ha (hs.chunk q hq).1]; exact h1, Chunk.holds_agree ha (hs.chunk q hq).2 h2⟩
  dist := hd.dist.imp_of_mem fun ha' hb' hab => by rw [rid_agree ha (hs.chunk _ ha').1, rid_agree ha (hs.chunk _ hb').1]; exact hab
  facts := fun f hf => (Fm.holds_agree f ha (hs.facts f hf)).2 (hd.facts f hf)
  next := hd.next
  frame := hd.frame
  own := fun q hq => by rw [rid_agree ha (hs.chunk q hq).1]; exact hd.own q hq
theorem Den.agree {h0 : Heap} {F : Nat → Prop} {ρ ρ' : Rho} {st : St} {fr : Fr} {h : Heap} (hd : Den h0 F ρ st fr h) (hs : st.Sc) (ha : Agree st.m.nv ρ ρ') : Den h0 F ρ' st fr h :=
  ⟨hd.1.agree hs.1 ha, hd.2.agree hs.2 ha⟩

def Rho.set (ρ : Rho) (n : Nat) (v : V) : Rho := ⟨fun m => if m = n then v else ρ.σ m, ρ.ι, ρ.Λ⟩
theorem agree_set (ρ : Rho) (n : Nat) (v : V) : Agree n ρ (ρ.set n v) := ⟨fun m hm => by simp only [Rho.set]; rw [if_neg (by omega)], rfl, fun _ _ => rfl⟩
@[simp] theorem Rho.set_self (ρ : Rho) (n : Nat) (v : V) : (ρ.set n v).σ n = v := by simp [Rho.set]

theorem Mem.Sc.mono {m : Mem} (hs : m.Sc) {n : Nat} (hn : m.nv ≤ n) : ({ m with nv := n } : Mem).Sc :=
  ⟨fun q hq => ⟨Nat.lt_of_lt_of_le (hs.chunk q hq).1 hn, Chunk.sc_mono hn (hs.chunk q hq).2⟩, fun f hf => Fm.sc_mono hn f (hs.facts f hf)⟩

def Mem.fresh (m : Mem) : Mem := { m with nv := m.nv + 1 }
def Mem.fact (m : Mem) (f : Fm) : Option Mem := if f.sc m.nv then some { m with facts := f :: m.facts } else none
theorem MDen.fresh {h0 : Heap} {F : Nat → Prop} {ρ : Rho} {m : Mem} {h : Heap} (hd : MDen h0 F ρ m h) (hs : m.Sc) (v : V) : MDen h0 F (ρ.set m.nv v) m.fresh h ∧ m.fresh.Sc := by
  have := hd.agree hs (agree_set ρ m.nv v)
  exact ⟨⟨this.chunk, this.dist, this.facts, this.next, this.frame, this.own⟩, hs.mono (Nat.le_succ _)⟩
theorem MDen.fact {h0 : Heap} {F : Nat → Prop} {ρ : Rho} {m m' : Mem} {h : Heap} {f : Fm} (hd : MDen h0 F ρ m h) (hs : m.Sc) (hm : m.fact f = some m') (hf : f.holds ρ) : MDen h0 F ρ m' h ∧ m'.Sc ∧ m'.nv = m.nv := by
  unfold Mem.fact at hm
  split at hm
  · rename_i h1
    simp only [Option.some.injEq] at hm; subst hm
    refine ⟨⟨hd.chunk, hd.dist, fun g hg => ?_, hd.next, hd.frame, hd.own⟩, ⟨hs.chunk, fun g hg => ?_⟩, rfl⟩
    · rcases List.mem_cons.1 hg with rfl | hg
      · exact hf
      · exact hd.facts g hg
    · rcases List.mem_cons.1 hg with rfl | hg
      · exact h1
      · exact hs.facts g hg
  · cases hm
def Mem.facts? (m : Mem) : List Fm → Option Mem
  | [] => some m
  | f :: r => (m.fact f).bind fun m => m.facts? r
theorem MDen.factsOk {h0 : Heap} {F : Nat → Prop} {ρ : Rho} {h : Heap} : ∀ {l : List Fm} {m m' : Mem} (_ : MDen h0 F ρ m h) (_ : m.Sc) (_ : m.facts? l = some m') (_ : ∀ f ∈ l, f.holds ρ), MDen h0 F ρ m' h ∧ m'.Sc ∧ m'.nv = m.nv
  | [], m, m', hd, hs, hm, _ => by simp only [Mem.facts?, Option.some.injEq] at hm; subst hm; exact ⟨hd, hs, rfl⟩
  | f :: r, m, m', hd, hs, hm, hf => by
    simp only [Mem.facts?, Option.bind_eq_some_iff] at hm
    obtain ⟨m1, h1, h2⟩ := hm
    obtain ⟨a, b, c⟩ := hd.fact hs h1 (hf f List.mem_cons_self)
    obtain ⟨a', b', c'⟩ := MDen.factsOk a b h2 fun g hg => hf g (List.mem_cons_of_mem _ hg)
    exact ⟨a', b', c'.trans c⟩

def getC : List (Nat × Chunk) → Nat → Option Chunk
  | [], _ => none
  | (y, c) :: r, x => if y = x then some c else getC r x
def setC : List (Nat × Chunk) → Nat → Chunk → List (Nat × Chunk)
  | [], _, _ => []
  | (y, c) :: r, x, d => if y = x then (y, d) :: r else (y, c) :: setC r x d
theorem getC_mem : ∀ {l : List (Nat × Chunk)} {x : Nat} {c : Chunk}, getC l x = some c → (x, c) ∈ l
  | [], _, _, h => by simp [getC] at h
  | (y, d) :: r, x, c, h => by
    simp only [getC] at h
    split at h
    · rename_i e; simp only [Option.some.injEq] at h; subst h; subst e; exact List.mem_cons_self
    · exact List.mem_cons_of_mem _ (getC_mem h)
theorem setC_keys : ∀ (l : List (Nat × Chunk)) (x : Nat) (d : Chunk), (setC l x d).map (·.1) = l.map (·.1)
  | [], _, _ => rfl
  | (y, c) :: r, x, d => by
    simp only [setC]; split
    · rfl
    · simp only [List.map_cons, setC_keys r x d]
theorem setC_mem : ∀ {l : List (Nat × Chunk)} {x : Nat} {d : Chunk} {q : Nat × Chunk}, q ∈ setC l x d → (q = (x, d)) ∨ q ∈ l
  | [], _, _, _, h => by simp [setC] at h
  | (y, c) :: r, x, d, q, h => by
    simp only [setC] at h
    split at h
    · rename_i e; subst e
      rcases List.mem_cons.1 h with h | h
      · exact .inl h
      · exact .inr (List.mem_cons_of_mem _ h)
    · rcases List.mem_cons.1 h with h | h
      · exact .inr (h ▸ List.mem_cons_self)
      · rcases setC_mem h with h | h
        · exact .inl h
        · exact .inr (List.mem_cons_of_mem _ h)
theorem setC_other {ρ : Rho} : ∀ {l : List (Nat × Chunk)} {x : Nat} {d : Chunk} (_ : l.Pairwise fun a b => rid ρ a.1 ≠ rid ρ b.1) {c : Chunk} (_ : getC l x = some c) {q : Nat × Chunk}, q ∈ setC l x d → q = (x, d) ∨ (q ∈ l ∧ rid ρ q.1 ≠ rid ρ x)
  | [], _, _, _, _, h, _, _ => by simp [getC] at h
  | (y, e) :: r, x, d, hp, c, hg, q, h => by
    simp only [getC] at hg
    simp only [setC] at h
    rw [List.pairwise_cons] at hp
    split at h
    · rename_i ey; subst ey
      rcases List.mem_cons.1 h with h | h
      · exact .inl h
      · exact .inr ⟨List.mem_cons_of_mem _ h, fun e => hp.1 q h e.symm⟩
    · rename_i ey
      rw [if_neg ey] at hg
      rcases List.mem_cons.1 h with h | h
      · exact .inr ⟨h ▸ List.mem_cons_self, by subst h; exact hp.1 _ (getC_mem hg)⟩
      · rcases setC_other hp.2 hg h with h | ⟨h, h'⟩
        · exact .inl h
        · exact .inr ⟨List.mem_cons_of_mem _ h, h'⟩
def Mem.set (m : Mem) (x : Nat) (c : Chunk) : Option Mem := if c.sc m.nv then some { m with chunks := setC m.chunks x c } else none
theorem MDen.set {h0 : Heap} {F : Nat → Prop} {ρ : Rho} {m m' : Mem} {h : Heap} {x : Nat} {c c' : Chunk} {o : AObj} (hd : MDen h0 F ρ m h) (hs : m.Sc) (hg : getC m.chunks x = some c) (hm : m.set x c' = some m') (ho : c'.holds ρ o) :
    MDen h0 F ρ m' (h.set (rid ρ x) o) ∧ m'.Sc ∧ m'.nv = m.nv := by
  unfold Mem.set at hm
  split at hm
  · rename_i h1
    simp only [Option.some.injEq] at hm; subst hm
    obtain ⟨o1, hx, _⟩ := hd.chunk (x, c) (getC_mem hg)
    have hlt := Heap.lt_of_get hx
    refine ⟨⟨fun q hq => ?_, ?_, hd.facts, hd.next, fun id hid hF => ?_, fun q hq => ?_⟩, ⟨fun q hq => ?_, hs.facts⟩, rfl⟩
    · rcases setC_other hd.dist hg hq with rfl | ⟨hq, hne⟩
      · exact ⟨o, by rw [Heap.get_set _ _ _ _ hlt]; simp, ho⟩
      · obtain ⟨o2, h2, h3⟩ := hd.chunk q hq
        exact ⟨o2, by rw [Heap.get_set _ _ _ _ hlt, if_neg hne]; exact h2, h3⟩
    · have hk := hd.dist
      have e1 : ∀ l : List (Nat × Chunk), (l.Pairwise fun a b => rid ρ a.1 ≠ rid ρ b.1) ↔ ((l.map (·.1)).Pairwise fun a b => rid ρ a ≠ rid ρ b) := fun l => by rw [List.pairwise_map]
      rw [e1] at hk ⊢
      simp only [setC_keys]; exact hk
    · have : id ≠ rid ρ x := fun e => by
        rcases hd.own (x, c) (getC_mem hg) with hF' | hle
        · exact hF (e ▸ hF')
        · simp only at hle; omega
      rw [Heap.get_set _ _ _ _ hlt, if_neg this]; exact hd.frame id hid hF
    · rcases setC_mem hq with rfl | hq
      · exact hd.own (x, c) (getC_mem hg)
      · exact hd.own q hq
    · rcases setC_mem hq with rfl | hq
      · exact ⟨(hs.chunk (x, c) (getC_mem hg)).1, h1⟩
      · exact hs.chunk q hq
  · cases hm
def Mem.new (m : Mem) (c : Chunk) : Option Mem := if c.sc m.nv then some { m with chunks := (m.nv, c) :: m.chunks, nv := m.nv + 1 } else none
theorem MDen.new {h0 : Heap} {F : Nat → Prop} {ρ : Rho} {m m' : Mem} {h : Heap} {c : Chunk} {o : AObj} (hd : MDen h0 F ρ m h) (hs : m.Sc) (hm : m.new c = some m') (ho : c.holds ρ o) :
    MDen h0 F (ρ.set m.nv (.mp h.next)) m' (h.alloc o) ∧ m'.Sc ∧ m'.nv = m.nv + 1 ∧ rid (ρ.set m.nv (.mp h.next)) m.nv = h.next := by
  unfold Mem.new at hm
  split at hm
  · rename_i h1
    simp only [Option.some.injEq] at hm; subst hm
    have ha := agree_set ρ m.nv (.mp h.next)
    have hd' := hd.agree hs ha
    have hr : rid (ρ.set m.nv (.mp h.next)) m.nv = h.next := by simp [rid]
    have hne : ∀ q ∈ m.chunks, rid (ρ.set m.nv (.mp h.next)) q.1 ≠ h.next := fun q hq => by
      obtain ⟨o1, hx, _⟩ := hd'.chunk q hq
      have := Heap.lt_of_get hx; omega
    refine ⟨⟨fun q hq => ?_, ?_, hd'.facts, by simp only [Heap.next_alloc]; exact Nat.le_succ_of_le hd.next, fun id hid hF => ?_, fun q hq => ?_⟩, ⟨fun q hq => ?_, fun f hf => Fm.sc_mono (Nat.le_succ _) f (hs.facts f hf)⟩, rfl, hr⟩
    · rcases List.mem_cons.1 hq with rfl | hq
      · exact ⟨o, by rw [hr, Heap.get_alloc]; simp, Chunk.holds_agree ha h1 ho⟩
      · obtain ⟨o2, h2, h3⟩ := hd'.chunk q hq
        exact ⟨o2, by rw [Heap.get_alloc, if_neg (hne q hq)]; exact h2, h3⟩
    · exact List.pairwise_cons.2 ⟨fun q hq => by rw [hr]; exact fun e => hne q hq e.symm, hd'.dist⟩
    · have : id ≠ h.next := by have := hd.next; omega
      rw [Heap.get_alloc, if_neg this]; exact hd.frame id hid hF
    · rcases List.mem_cons.1 hq with rfl | hq
      · exact .inr (by rw [hr]; exact hd.next)
      · exact hd'.own q hq
    · rcases List.mem_cons.1 hq with rfl | hq
      · exact ⟨Nat.lt_succ_self _, Chunk.sc_mono (Nat.le_succ _) h1⟩
      · exact ⟨Nat.lt_succ_of_lt (hs.chunk q hq).1, Chunk.sc_mono (Nat.le_succ _) (hs.chunk q hq).2⟩
  · cases hm

def St.eval (st : St) : Operand → Option S
  | .tmp t => st.vals.get t
  | .const v => (ofValue v).bind ofV
  | .global _ => none
  | .func f => some (.fn f [] [])
def St.evals (st : St) : List Operand → Option (List S)
  | [] => some []
  | x :: r => match st.eval x, st.evals r with
    | some v, some vs => some (v :: vs)
    | _, _ => none
theorem FDen.eval {ρ : Rho} {st : St} {fr : Fr} (hd : FDen ρ st fr) {x : Operand} {s : S} (h : st.eval x = some s) : fr.eval x = some (s.val ρ) := by
  cases x <;> simp only [St.eval, Fr.eval] at h ⊢
  · exact hd.vals _ _ h
  · rw [Option.bind_eq_some_iff] at h
    obtain ⟨v, h1, h2⟩ := h
    rw [h1, ofV_val ρ h2]
  · cases h
  · simp only [Option.some.injEq] at h; subst h; rfl
theorem FDen.evals {ρ : Rho} {st : St} {fr : Fr} (hd : FDen ρ st fr) : ∀ {l : List Operand} {ss : List S}, st.evals l = some ss → fr.evals l = some (S.vals ρ ss)
  | [], ss, h => by simp only [St.evals, Option.some.injEq] at h; subst h; rfl
  | x :: r, ss, h => by
    simp only [St.evals] at h
    split at h
    · rename_i v vs h1 h2
      simp only [Option.some.injEq] at h; subst h
      simp only [Fr.evals, hd.eval h1, hd.evals h2, S.vals]
    · cases h
def St.put (st : St) (d : Option Tmp) (s : S) : Option St :=
  match d with
  | none => some st
  | some t => if s.sc st.m.nv then some { st with vals := st.vals.put t s } else none
theorem FDen.put {ρ : Rho} {st st' : St} {fr : Fr} (hd : FDen ρ st fr) {d : Option Tmp} {s : S} (h : st.put d s = some st') : FDen ρ st' (fr.put d (s.val ρ)) := by
  unfold St.put at h
  cases d with
  | none => simp only [Option.some.injEq] at h; subst h; exact hd
  | some t =>
    simp only at h
    split at h
    · simp only [Option.some.injEq] at h; subst h
      refine ⟨fun k x hk => ?_, hd.boxes, hd.defers, hd.rc⟩
      simp only [Fr.put, Al.get_put] at hk ⊢
      split at hk
      · rename_i e; rw [if_pos e]; simp only [Option.some.injEq] at hk; rw [hk]
      · rename_i e; rw [if_neg e]; exact hd.vals k x hk
    · cases h
theorem St.put_sc {st st' : St} {d : Option Tmp} {s : S} (hs : st.Sc) (h : st.put d s = some st') : st'.Sc ∧ st'.m = st.m := by
  unfold St.put at h
  cases d with
  | none => simp only [Option.some.injEq] at h; subst h; exact ⟨hs, rfl⟩
  | some t =>
    simp only at h
    split at h
    · rename_i h1
      simp only [Option.some.injEq] at h; subst h
      refine ⟨⟨⟨fun q hq => ?_, hs.1.boxes, hs.1.rc⟩, hs.2⟩, rfl⟩
      rcases Al.mem_put hq with rfl | hq
      · exact h1
      · exact hs.1.vals q hq
    · cases h
end Go.Abs.Sx
namespace Go.Abs.Sx

abbrev Prover := Bool → List Fm → Fm → Bool
def PrOk (pr : Prover) : Prop := ∀ b facts g, pr b facts g = true → ∀ ρ, (∀ f ∈ facts, f.holds ρ) → g.holds ρ

def OpOk (E : Env) (fid : FuncId) (o : Oper) (h0 : Heap) (F : Nat → Prop) (ρ : Rho) (st : St) (fr : Fr) (h : Heap) (st' : St) (s : S) : Prop :=
  ∃ ρ' fr' h', Agree st.m.nv ρ ρ' ∧ st.m.nv ≤ st'.m.nv ∧ stepOp E fid fr h o = some (.val (s.val ρ') fr' h') ∧ Den h0 F ρ' st' fr' h' ∧ st'.Sc

variable {E : Env} {fid : FuncId} {o : Oper} {h0 : Heap} {F : Nat → Prop} {ρ : Rho} {st st' : St} {fr : Fr} {h : Heap} {s : S} {pr : Prover}

theorem ok_pure (hd : Den h0 F ρ st fr h) (hs : st.Sc) (hstep : stepOp E fid fr h o = some (.val (s.val ρ) fr h)) : OpOk E fid o h0 F ρ st fr h st s :=
  ⟨ρ, fr, h, Agree.refl _ _, Nat.le_refl _, hstep, hd, hs⟩

def St.fresh (st : St) (c : CT) (fs : P → List Fm) : Option (St × S) :=
  (st.m.fresh.facts? (fs (.x st.m.nv c))).map fun m => ({ st with m := m }, ofP (.x st.m.nv c))
theorem fresh_ok {c : CT} {fs : P → List Fm} {v : V} (hf : st.fresh c fs = some (st', s)) (hd : Den h0 F ρ st fr h) (hs : st.Sc) (hv : hasT c v = true)
    (hfs : ∀ ρ', Agree st.m.nv ρ ρ' → (P.x st.m.nv c).val ρ' = v → ∀ f ∈ fs (.x st.m.nv c), f.holds ρ') :
    ∃ ρ', Agree st.m.nv ρ ρ' ∧ st'.m.nv = st.m.nv + 1 ∧ s.val ρ' = v ∧ Den h0 F ρ' st' fr h ∧ st'.Sc := by
  simp only [St.fresh, Option.map_eq_some_iff, Prod.mk.injEq] at hf
  obtain ⟨m, hm, rfl, rfl⟩ := hf
  have ha := agree_set ρ st.m.nv v
  have hx : (P.x st.m.nv c).val (ρ.set st.m.nv v) = v := by simp only [P.val, Rho.set_self, good_of hv]
  obtain ⟨hd1, hs1⟩ := hd.2.fresh hs.2 v
  obtain ⟨hd2, hs2, hn⟩ := MDen.factsOk hd1 hs1 hm (hfs _ ha hx)
  have hn' : m.nv = st.m.nv + 1 := hn
  refine ⟨_, ha, hn', by rw [ofP_val, hx], ⟨?_, hd2⟩, ⟨?_, hs2⟩⟩
  · have := hd.1.agree hs.1 ha
    exact ⟨this.vals, this.boxes, this.defers, this.rc⟩
  · have : st.FSc m.nv := hs.1.mono (by omega)
    exact ⟨this.vals, this.boxes, this.rc⟩
def tAdd : Tm → Tm → Tm
  | .lit a, .lit b => .lit (a + b)
  | a, .lit b => if b = 0 then a else match a with | .add c (.lit d) => if d + b = 0 then c else .add c (.lit (d + b)) | a => .add a (.lit b)
  | .lit a, b => .add b (.lit a)
  | a, b => .add a b
theorem tAdd_val (ρ : Rho) (a b : Tm) : (tAdd a b).val ρ = a.val ρ + b.val ρ := by
  unfold tAdd
  split
  · simp only [Tm.val]
  · split
    · rename_i h; simp only [Tm.val, h]; omega
    · split
      · split
        · simp only [Tm.val]; omega
        · simp only [Tm.val]; omega
      · simp only [Tm.val]
  · simp only [Tm.val]; omega
  · simp only [Tm.val]
def tSub : Tm → Tm → Tm
  | a, .lit b => tAdd a (.lit (-b))
  | a, b => .sub a b
theorem tSub_val (ρ : Rho) (a b : Tm) : (tSub a b).val ρ = a.val ρ - b.val ρ := by
  unfold tSub
  split
  · rw [tAdd_val]; simp only [Tm.val]; omega
  · simp only [Tm.val]
def tMul : Tm → Tm → Tm
  | .lit a, .lit b => .lit (a * b)
  | a, b => .mul a b
theorem tMul_val (ρ : Rho) (a b : Tm) : (tMul a b).val ρ = a.val ρ * b.val ρ := by
  unfold tMul; split <;> simp only [Tm.val]
def inRange (k : IntKind) (t : Tm) : Fm := .and (.le (.lit k.min) t) (.le t (.lit k.max))
theorem inRange_holds {k : IntKind} {t : Tm} : (inRange k t).holds ρ ↔ k.min ≤ t.val ρ ∧ t.val ρ ≤ k.max := by simp only [inRange, Fm.holds, Tm.val]
theorem wrap_id {k : IntKind} {n : Int} (h : k.min ≤ n ∧ n ≤ k.max) : k.wrap n = n := by
  obtain ⟨h1, h2⟩ := h
  cases k <;> simp only [IntKind.min, IntKind.max, IntKind.signed, IntKind.bits, if_true, Bool.false_eq_true, if_false] at h1 h2 <;> simp only [IntKind.wrap, IntKind.signed, IntKind.bits, Bool.true_and, Bool.false_and, Bool.false_eq_true, if_false] <;> (try split) <;> simp_all <;> omega
theorem wrap_range (k : IntKind) (n : Int) : k.min ≤ k.wrap n ∧ k.wrap n ≤ k.max := by
  cases k <;> simp only [IntKind.min, IntKind.max, IntKind.wrap, IntKind.signed, IntKind.bits, if_true, Bool.true_and, Bool.false_and, Bool.false_eq_true, if_false] <;> (try split) <;> simp_all <;> omega
def tWrap (pr : Prover) (facts : List Fm) (k : IntKind) (t : Tm) : Tm :=
  match t with
  | .lit z => .lit (k.wrap z)
  | t => if pr false facts (inRange k t) then t else .wrap k t
theorem tWrap_val (hp : PrOk pr) {facts : List Fm} (hf : ∀ f ∈ facts, f.holds ρ) (k : IntKind) (t : Tm) : (tWrap pr facts k t).val ρ = k.wrap (t.val ρ) := by
  unfold tWrap
  split
  · simp only [Tm.val]
  · split
    · rename_i h
      rw [wrap_id (inRange_holds.1 (hp _ _ _ h ρ hf))]
    · simp only [Tm.val]

def maskF : List Fm → Nat
  | [] => 0
  | f :: r => Nat.lor (maskF r) (Nat.shiftLeft 1 (Nat.mod f.hash 2039))
def hasFN (facts : List Fm) (f : Fm) : Bool := facts.any (Fm.beqS f)
def hasF (facts : List Fm) (f : Fm) : Bool := Nat.beq (Nat.land (Nat.shiftRight (maskF facts) (Nat.mod f.hash 2039)) 1) 1 && facts.any (Fm.beq f)
theorem hasF_ok {facts : List Fm} {f : Fm} (h : hasF facts f = true) : f ∈ facts := by
  obtain ⟨g, hg, hb⟩ := List.any_eq_true.1 ((Bool.and_eq_true _ _).mp h).2
  rw [Fm.beq_eq _ _ hb]; exact hg
def known (facts : List Fm) (f : Fm) : Option Bool :=
  match f with
  | .tt => some true
  | .ff => some false
  | f => if hasF facts f then some true else if hasF facts (.not f) then some false else
    match f with | .not g => if hasF facts g then some false else none | _ => none
theorem known_true {facts : List Fm} (hf : ∀ f ∈ facts, f.holds ρ) {f : Fm} (h : known facts f = some true) : f.holds ρ := by
  unfold known at h
  split at h
  · trivial
  · cases h
  · split at h
    · rename_i h1
      exact hf f (hasF_ok h1)
    · split at h
      · cases h
      · split at h
        · split at h <;> cases h
        · cases h
theorem known_false {facts : List Fm} (hf : ∀ f ∈ facts, f.holds ρ) {f : Fm} (h : known facts f = some false) : ¬ f.holds ρ := by
  unfold known at h
  split at h
  · cases h
  · simp [Fm.holds]
  · split at h
    · cases h
    · split at h
      · rename_i h1
        exact hf _ (hasF_ok h1)
      · split at h
        · split at h
          · rename_i h1
            exact fun hn => hn (hf _ (hasF_ok h1))
          · cases h
        · cases h

def fNot : Fm → Fm
  | .tt => .ff
  | .ff => .tt
  | .not f => f
  | f => .not f
theorem fNot_holds (f : Fm) : (fNot f).holds ρ ↔ ¬ f.holds ρ := by
  unfold fNot; split <;> simp [Fm.holds]
def fCmp (op : BinOp) (a b : Tm) : Option Fm :=
  match op with
  | .eql => some (match a, b with | .lit x, .lit y => if x = y then .tt else .ff | _, _ => .eq a b)
  | .neq => some (match a, b with | .lit x, .lit y => if x = y then .ff else .tt | _, _ => .not (.eq a b))
  | .lss => some (match a, b with | .lit x, .lit y => if x < y then .tt else .ff | _, _ => .lt a b)
  | .leq => some (match a, b with | .lit x, .lit y => if x ≤ y then .tt else .ff | _, _ => .le a b)
  | .gtr => some (match a, b with | .lit x, .lit y => if y < x then .tt else .ff | _, _ => .lt b a)
  | .geq => some (match a, b with | .lit x, .lit y => if y ≤ x then .tt else .ff | _, _ => .le b a)
  | _ => none
theorem fCmp_ok {op : BinOp} {a b : Tm} {f : Fm} (h : fCmp op a b = some f) (k : IntKind) : intBin op k (a.val ρ) (b.val ρ) = some (.bool (fmV ρ f)) := by
  have key : ∀ (x : Bool) (p : Prop), (x = true ↔ p) → (f.holds ρ ↔ p) → some (V.bool x) = some (V.bool (fmV ρ f)) := fun x p h1 h2 => by
    congr 2
    rw [Bool.eq_iff_iff, h1, fmV_true, h2]
  cases op <;> simp only [fCmp, Option.some.injEq, reduceCtorEq] at h <;> simp only [intBin] <;> subst h
  · exact key _ (a.val ρ = b.val ρ) (by simp) (by split <;> (try split) <;> simp_all [Fm.holds, Tm.val] <;> omega)
  · exact key _ (¬ a.val ρ = b.val ρ) (by simp) (by split <;> (try split) <;> simp_all [Fm.holds, Tm.val] <;> omega)
  · exact key _ (a.val ρ < b.val ρ) (by simp) (by split <;> (try split) <;> simp_all [Fm.holds, Tm.val] <;> omega)
  · exact key _ (a.val ρ ≤ b.val ρ) (by simp) (by split <;> (try split) <;> simp_all [Fm.holds, Tm.val] <;> omega)
  · exact key _ (b.val ρ < a.val ρ) (by simp) (by split <;> (try split) <;> simp_all [Fm.holds, Tm.val] <;> omega)
  · exact key _ (b.val ρ ≤ a.val ρ) (by simp) (by split <;> (try split) <;> simp_all [Fm.holds, Tm.val] <;> omega)
end Go.Abs.Sx
namespace Go.Abs.Sx
variable {E : Env} {fid : FuncId} {o : Oper} {h0 : Heap} {F : Nat → Prop} {ρ : Rho} {st st' : St} {fr : Fr} {h : Heap} {s : S} {pr : Prover}

def CT.max? : CT → Nat
  | .s m | .sl m _ => m
  | _ => 0
def rng (k : IntKind) (t : Tm) : Bool :=
  match t with
  | .lit z => decide (k.min ≤ z) && decide (z ≤ k.max)
  | .iv p => match p.ct with | .i l => l == k | _ => false
  | .wrap l _ => l == k
  | .len p => match p.ct with | .s m | .sl m _ => decide ((m : Int) ≤ k.max) | _ => false
  | _ => false
theorem vlen_range {c : CT} {v : V} (h : hasT c v = true) : 0 ≤ vlen v ∧ vlen v ≤ c.max? := by
  cases c <;> cases v <;> simp_all [hasT, vlen, CT.max?] <;> omega
theorem rng_ok {k : IntKind} {t : Tm} (h : rng k t = true) (ρ : Rho) : k.min ≤ t.val ρ ∧ t.val ρ ≤ k.max := by
  unfold rng at h
  split at h
  · simpa [Tm.val] using h
  · rename_i p
    split at h
    · rename_i l hc
      have := P.val_hasT ρ p
      rw [hc] at this
      simp only [hasT] at this
      split at this
      · rename_i k' n hv
        simp only [beq_iff_eq] at h
        simp only [Bool.and_eq_true, beq_iff_eq, decide_eq_true_eq] at this
        subst h
        simp only [Tm.val, hv, vint]
        exact ⟨this.1.2, this.2⟩
      · cases this
    · cases h
  · simp only [beq_iff_eq] at h; subst h
    simp only [Tm.val]; exact wrap_range _ _
  · rename_i p
    have := vlen_range (P.val_hasT ρ p)
    split at h
    · rename_i m hc
      simp only [decide_eq_true_eq] at h
      simp only [hc, CT.max?] at this
      simp only [Tm.val]; exact ⟨Int.le_trans (kmin_le k) this.1, Int.le_trans this.2 h⟩
    · rename_i m _ hc
      simp only [decide_eq_true_eq] at h
      simp only [hc, CT.max?] at this
      simp only [Tm.val]; exact ⟨Int.le_trans (kmin_le k) this.1, Int.le_trans this.2 h⟩
    · cases h
  · cases h
def rngP (pr : Prover) (facts : List Fm) (k : IntKind) (t : Tm) : Bool := rng k t || pr true facts (inRange k t)
theorem rngP_ok (hp : PrOk pr) {facts : List Fm} (hf : ∀ f ∈ facts, f.holds ρ) {k : IntKind} {t : Tm} (h : rngP pr facts k t = true) : k.min ≤ t.val ρ ∧ t.val ρ ≤ k.max := by
  simp only [rngP, Bool.or_eq_true] at h
  rcases h with h | h
  · exact rng_ok h ρ
  · exact inRange_holds.1 (hp _ _ _ h ρ hf)
theorem hasT_int {k : IntKind} {n : Int} (h : k.min ≤ n ∧ n ≤ k.max) : hasT (.i k) (.int k n) = true := by
  simp [hasT, h.1, h.2]

def fAnd : List Fm → Fm
  | [] => .tt
  | [f] => f
  | f :: r => .and f (fAnd r)
theorem fAnd_holds : ∀ (l : List Fm), (fAnd l).holds ρ ↔ ∀ f ∈ l, f.holds ρ
  | [] => by simp [fAnd, Fm.holds]
  | [f] => by simp [fAnd]
  | f :: g :: r => by simp only [fAnd, Fm.holds, fAnd_holds (g :: r), List.forall_mem_cons]

def quoFacts (pr : Prover) (facts : List Fm) (k : IntKind) (x y : Tm) (p : P) : List Fm :=
  if pr false facts (fAnd [inRange k x, .le (.lit 0) x, .le (.lit 1) y]) then
    [.le (.lit 0) (.iv p), .le (.iv p) x] ++ (match y with | .lit c => [.le (.mul (.lit c) (.iv p)) x, .lt x (.add (.mul (.lit c) (.iv p)) (.lit c))] | _ => [])
  else []
theorem quo_facts {k : IntKind} {x y : Int} (hr : k.min ≤ x ∧ x ≤ k.max) (hx : 0 ≤ x) (hy : 1 ≤ y) : k.wrap (x.tdiv y) = x / y ∧ 0 ≤ x / y ∧ x / y ≤ x ∧ y * (x / y) ≤ x ∧ x < y * (x / y) + y := by
  have e : x.tdiv y = x / y := Int.tdiv_eq_ediv_of_nonneg hx
  have h1 : 0 ≤ x / y := Int.ediv_nonneg hx (by omega)
  have h2 : x / y ≤ x := Int.ediv_le_self _ hx
  have h3 := Int.mul_ediv_add_emod x y
  have h4 := Int.emod_nonneg x (show y ≠ 0 by omega)
  have h5 := Int.emod_lt_of_pos x (show 0 < y by omega)
  refine ⟨by rw [e]; exact wrap_id ⟨by have := kmin_le k; omega, by omega⟩, h1, h2, by omega, by omega⟩
def remFacts (pr : Prover) (facts : List Fm) (x y : Tm) (p : P) : List Fm :=
  if pr false facts (fAnd [.le (.lit 0) x, .le (.lit 1) y]) then [.le (.lit 0) (.iv p), .lt (.iv p) y, .le (.iv p) x]
  else if pr false facts (.le (.lit 1) y) then [.lt (.iv p) y, .lt (.sub (.lit 0) y) (.iv p)] else []
theorem tmod_range {x y : Int} (hy : y ≠ 0) : (0 ≤ x → 0 ≤ x.tmod y ∧ x.tmod y ≤ x) ∧ (x ≤ 0 → x ≤ x.tmod y ∧ x.tmod y ≤ 0) := by
  have key : ∀ (a b : Int), 0 ≤ a → 0 ≤ a.tmod b ∧ a.tmod b ≤ a := fun a b ha => by
    refine ⟨Int.tmod_nonneg b ha, ?_⟩
    by_cases hb : b = 0
    · subst hb; simp
    · have h1 : a.tmod b = a.tmod (b.natAbs : Int) := by
        rcases Int.le_total 0 b with hb' | hb'
        · rw [Int.natAbs_of_nonneg hb']
        · rw [Int.ofNat_natAbs_of_nonpos hb', Int.tmod_neg]
      rw [h1, Int.tmod_eq_emod_of_nonneg ha]
      have := Int.emod_nonneg a (show ((b.natAbs : Nat) : Int) ≠ 0 by omega)
      have h3 := Int.mul_ediv_add_emod a (b.natAbs : Int)
      have h4 : 0 ≤ a / (b.natAbs : Int) := Int.ediv_nonneg ha (by omega)
      have h5 : 0 ≤ (b.natAbs : Int) * (a / (b.natAbs : Int)) := Int.mul_nonneg (by omega) h4
      omega
  refine ⟨key x y, fun hx => ?_⟩
  have := key (-x) y (by omega)
  rw [Int.neg_tmod] at this
  omega
theorem tmod_lt {x y : Int} (hy : 1 ≤ y) : x.tmod y < y ∧ -y < x.tmod y := by
  have h1 := Int.tmod_lt_of_pos x (show 0 < y by omega)
  have h2 := Int.lt_tmod_of_pos x (show 0 < y by omega)
  exact ⟨h1, h2⟩

def sInt (pr : Prover) (st : St) (op : BinOp) (k : IntKind) (a b : Tm) : Option (St × S) :=
  match op with
  | .add => some (st, .it k (tWrap pr st.m.facts k (tAdd a b)))
  | .sub => some (st, .it k (tWrap pr st.m.facts k (tSub a b)))
  | .mul => some (st, .it k (tWrap pr st.m.facts k (tMul a b)))
  | .quo => match a, b with
    | .lit x, .lit y => if y = 0 then none else some (st, .it k (.lit (k.wrap (x.tdiv y))))
    | _, _ => if pr true st.m.facts (.not (.eq b (.lit 0))) then st.fresh (.i k) (quoFacts pr st.m.facts k a b) else none
  | .rem => match a, b with
    | .lit x, .lit y => if y = 0 then none else some (st, .it k (.lit (x.tmod y)))
    | _, _ => if pr true st.m.facts (.not (.eq b (.lit 0))) && rngP pr st.m.facts k a then st.fresh (.i k) (remFacts pr st.m.facts a b) else none
  | .and | .or | .xor | .andNot => st.fresh (.i k) fun _ => []
  | op => (fCmp op a b).map fun f => (st, .bo f)

theorem bitRange (k : IntKind) (n : Int) : hasT (.i k) (.int k (k.wrap n)) = true := hasT_int (wrap_range k n)

def ValOk (h0 : Heap) (F : Nat → Prop) (ρ : Rho) (st : St) (fr : Fr) (h : Heap) (v : V) (st' : St) (s : S) : Prop :=
  ∃ ρ', Agree st.m.nv ρ ρ' ∧ st.m.nv ≤ st'.m.nv ∧ s.val ρ' = v ∧ Den h0 F ρ' st' fr h ∧ st'.Sc
theorem val_pure (hd : Den h0 F ρ st fr h) (hs : st.Sc) : ValOk h0 F ρ st fr h (s.val ρ) st s := ⟨ρ, Agree.refl _ _, Nat.le_refl _, rfl, hd, hs⟩
theorem val_fresh {c : CT} {fs : P → List Fm} {v : V} (hf : st.fresh c fs = some (st', s)) (hd : Den h0 F ρ st fr h) (hs : st.Sc) (hv : hasT c v = true)
    (hfs : ∀ ρ', Agree st.m.nv ρ ρ' → (P.x st.m.nv c).val ρ' = v → (∀ f ∈ st.m.facts, f.holds ρ') → ∀ f ∈ fs (.x st.m.nv c), f.holds ρ') : ValOk h0 F ρ st fr h v st' s := by
  obtain ⟨ρ', ha, hn, hsv, hd', hs'⟩ := fresh_ok hf hd hs hv fun ρ' ha hx => hfs ρ' ha hx (hd.2.agree hs.2 ha).facts
  exact ⟨ρ', ha, by omega, hsv, hd', hs'⟩
theorem ValOk.op {v : V} (hv : ValOk h0 F ρ st fr h v st' s) (hstep : stepOp E fid fr h o = some (.val v fr h)) : OpOk E fid o h0 F ρ st fr h st' s := by
  obtain ⟨ρ', ha, hn, hsv, hd, hs⟩ := hv
  exact ⟨ρ', fr, h, ha, hn, by rw [hsv]; exact hstep, hd, hs⟩

theorem sInt_ok (hp : PrOk pr) {op : BinOp} {k : IntKind} {a b : Tm} (hr : sInt pr st op k a b = some (st', s)) (hd : Den h0 F ρ st fr h) (hs : st.Sc)
    (ha : a.sc st.m.nv = true) (hb : b.sc st.m.nv = true) :
    ∃ v, intBin op k (a.val ρ) (b.val ρ) = some v ∧ ValOk h0 F ρ st fr h v st' s := by
  have hf := hd.2.facts
  cases op <;> simp only [sInt] at hr
  · simp only [Option.some.injEq, Prod.mk.injEq] at hr; obtain ⟨rfl, rfl⟩ := hr
    refine ⟨_, rfl, ?_⟩
    have := val_pure (s := .it k (tWrap pr st.m.facts k (tAdd a b))) hd hs
    simp only [S.val, tWrap_val hp hf, tAdd_val] at this; exact this
  · simp only [Option.some.injEq, Prod.mk.injEq] at hr; obtain ⟨rfl, rfl⟩ := hr
    refine ⟨_, rfl, ?_⟩
    have := val_pure (s := .it k (tWrap pr st.m.facts k (tSub a b))) hd hs
    simp only [S.val, tWrap_val hp hf, tSub_val] at this; exact this
  · simp only [Option.some.injEq, Prod.mk.injEq] at hr; obtain ⟨rfl, rfl⟩ := hr
    refine ⟨_, rfl, ?_⟩
    have := val_pure (s := .it k (tWrap pr st.m.facts k (tMul a b))) hd hs
    simp only [S.val, tWrap_val hp hf, tMul_val] at this; exact this
  · split at hr
    · split at hr
      · cases hr
      · rename_i hy
        simp only [Option.some.injEq, Prod.mk.injEq] at hr; obtain ⟨rfl, rfl⟩ := hr
        refine ⟨_, by simp only [intBin, Tm.val]; exact if_neg hy, ?_⟩
        exact val_pure (s := .it k (.lit _)) hd hs
    · split at hr
      · rename_i h1
        have hy := hp _ _ _ h1 ρ hf
        simp only [Fm.holds, Tm.val] at hy
        refine ⟨_, by simp only [intBin, if_neg hy]; rfl, ?_⟩
        refine val_fresh hr hd hs (bitRange k _) fun ρ' hag hx hfacts => ?_
        have ea := Tm.val_agree hag a ha
        have eb := Tm.val_agree hag b hb
        unfold quoFacts
        split
        · rename_i h2
          have h3 := hp _ _ _ h2 ρ' hfacts
          simp only [fAnd_holds, List.forall_mem_cons, inRange_holds, Fm.holds, Tm.val] at h3
          have q := quo_facts h3.1 h3.2.1 h3.2.2.1
          have e2 : vint ((P.x st.m.nv (.i k)).val ρ') = a.val ρ' / b.val ρ' := by rw [hx, vint, ← ea, ← eb]; exact q.1
          intro f hfm
          simp only [List.mem_append, List.mem_cons, List.not_mem_nil, or_false] at hfm
          rcases hfm with (rfl | rfl) | hfm
          · simp only [Fm.holds, Tm.val, e2]; exact q.2.1
          · simp only [Fm.holds, Tm.val, e2]; exact q.2.2.1
          · split at hfm
            · rename_i c
              simp only [Tm.val] at q
              simp only [List.mem_cons, List.not_mem_nil, or_false] at hfm
              rcases hfm with rfl | rfl
              · simp only [Fm.holds, Tm.val, e2]; exact q.2.2.2.1
              · simp only [Fm.holds, Tm.val, e2]; exact q.2.2.2.2
            · simp at hfm
        · intro f hfm; simp at hfm
      · cases hr
  · split at hr
    · split at hr
      · cases hr
      · rename_i hy
        simp only [Option.some.injEq, Prod.mk.injEq] at hr; obtain ⟨rfl, rfl⟩ := hr
        refine ⟨_, by simp only [intBin, Tm.val]; exact if_neg hy, ?_⟩
        exact val_pure (s := .it k (.lit _)) hd hs
    · split at hr
      · rename_i h1
        simp only [Bool.and_eq_true] at h1
        have hy := hp _ _ _ h1.1 ρ hf
        simp only [Fm.holds, Tm.val] at hy
        have hra := rngP_ok hp hf h1.2
        have hm := tmod_range (x := a.val ρ) hy
        refine ⟨_, by simp only [intBin, if_neg hy]; rfl, ?_⟩
        refine val_fresh hr hd hs (hasT_int ?_) fun ρ' hag hx hfacts => ?_
        · have := kmin_le k; have := kmax_ge k
          rcases Int.le_total 0 (a.val ρ) with hl | hl
          · have := hm.1 hl; omega
          · have := hm.2 hl; omega
        have ea := Tm.val_agree hag a ha
        have eb := Tm.val_agree hag b hb
        have e2 : vint ((P.x st.m.nv (.i k)).val ρ') = (a.val ρ').tmod (b.val ρ') := by rw [hx, vint, ea, eb]
        unfold remFacts
        split
        · rename_i h2
          have h3 := hp _ _ _ h2 ρ' hfacts
          simp only [fAnd_holds, List.forall_mem_cons, Fm.holds, Tm.val] at h3
          have hm' := tmod_range (x := a.val ρ') (y := b.val ρ') (by omega)
          have hl := tmod_lt (x := a.val ρ') h3.2.1
          intro f hfm
          simp only [List.mem_cons, List.not_mem_nil, or_false] at hfm
          rcases hfm with rfl | rfl | rfl <;> simp only [Fm.holds, Tm.val, e2]
          · exact (hm'.1 h3.1).1
          · exact hl.1
          · exact (hm'.1 h3.1).2
        · split
          · rename_i h2
            have h3 := hp _ _ _ h2 ρ' hfacts
            simp only [Fm.holds, Tm.val] at h3
            have hl := tmod_lt (x := a.val ρ') h3
            intro f hfm
            simp only [List.mem_cons, List.not_mem_nil, or_false] at hfm
            rcases hfm with rfl | rfl <;> simp only [Fm.holds, Tm.val, e2]
            · exact hl.1
            · omega
          · intro f hfm; simp at hfm
      · cases hr
  · exact ⟨_, rfl, val_fresh hr hd hs (bitRange k _) fun _ _ _ _ f hf => by simp at hf⟩
  · exact ⟨_, rfl, val_fresh hr hd hs (bitRange k _) fun _ _ _ _ f hf => by simp at hf⟩
  · exact ⟨_, rfl, val_fresh hr hd hs (bitRange k _) fun _ _ _ _ f hf => by simp at hf⟩
  all_goals first
    | exact ⟨_, rfl, val_fresh hr hd hs (bitRange k _) fun _ _ _ _ f hf => by simp at hf⟩
    | (simp only [Option.map_eq_some_iff, Prod.mk.injEq] at hr
       obtain ⟨f, hf', rfl, rfl⟩ := hr
       exact ⟨_, fCmp_ok hf' k, val_pure (s := .bo f) hd hs⟩)
end Go.Abs.Sx
namespace Go.Abs.Sx
variable {E : Env} {fid : FuncId} {o : Oper} {h0 : Heap} {F : Nat → Prop} {ρ : Rho} {st st' : St} {fr : Fr} {h : Heap} {s : S} {pr : Prover}

theorem ofScalarV_sc {v : V} {s : S} (n : Nat) (h : ofScalarV v = some s) : s.sc n = true := by
  cases v <;> simp only [ofScalarV, Option.some.injEq, reduceCtorEq] at h <;> subst h <;> simp only [S.sc, Tm.sc]
  split <;> simp [Fm.sc]
theorem ofScalarsV_sc (n : Nat) : ∀ {l : List V} {r : List S}, ofScalarsV l = some r → S.scs n r = true
  | [], r, h => by simp only [ofScalarsV, Option.some.injEq] at h; subst h; simp only [S.scs]
  | v :: l, r, h => by
    simp only [ofScalarsV] at h
    split at h
    · rename_i s r' h1 h2
      simp only [Option.some.injEq] at h; subst h
      simp only [S.scs, ofScalarV_sc n h1, ofScalarsV_sc n h2, Bool.and_self]
    · cases h
theorem ofV_sc {v : V} {s : S} (n : Nat) (h : ofV v = some s) : s.sc n = true := by
  unfold ofV at h
  split at h
  · rename_i cs
    cases hc : ofScalarsV cs with
    | none => simp [hc] at h
    | some r => simp only [hc, Option.map_some, Option.some.injEq] at h; subst h; simp only [S.sc, ofScalarsV_sc n hc]
  · exact ofScalarV_sc n h
theorem St.eval_sc (hs : st.Sc) {x : Operand} (he : st.eval x = some s) : s.sc st.m.nv = true := by
  cases x <;> simp only [St.eval] at he
  · exact hs.1.vals _ (Al.mem_of_get he)
  · rw [Option.bind_eq_some_iff] at he
    obtain ⟨v, h1, h2⟩ := he
    exact ofV_sc _ h2
  · cases he
  · simp only [Option.some.injEq] at he; subst he; simp only [S.sc, S.scs, Bool.and_self]

def PureOk (E : Env) (fid : FuncId) (o : Oper) (h0 : Heap) (F : Nat → Prop) (ρ : Rho) (st : St) (fr : Fr) (h : Heap) (st' : St) (s : S) : Prop :=
  ∃ v, stepOp E fid fr h o = some (.val v fr h) ∧ ValOk h0 F ρ st fr h v st' s
theorem PureOk.op (hr : PureOk E fid o h0 F ρ st fr h st' s) : OpOk E fid o h0 F ρ st fr h st' s := hr.choose_spec.2.op hr.choose_spec.1

def S.strP : S → Option P
  | .str s => some (.ks s.size s)
  | .pv p => match p.ct with | .s _ => some p | _ => none
  | _ => none
theorem strP_ok {p : P} (h : s.strP = some p) (ρ : Rho) : ∃ b m, s.val ρ = .str b ∧ p.val ρ = .str b ∧ p.ct = .s m ∧ b.size ≤ m ∧ (∀ n, p.sc n = s.sc n) := by
  cases s <;> simp only [S.strP, reduceCtorEq] at h
  · rename_i q
    split at h
    · rename_i m hc
      simp only [Option.some.injEq] at h; subst h
      have := P.val_hasT ρ q
      rw [hc] at this
      simp only [hasT] at this
      split at this
      · rename_i b hb
        simp only [decide_eq_true_eq] at this
        exact ⟨b, m, hb, hb, hc, this, fun n => by simp only [S.sc]⟩
      · cases this
    · cases h
  · rename_i b
    simp only [Option.some.injEq] at h; subst h
    exact ⟨b, b.size, rfl, by simp [P.val, good, hasT], rfl, Nat.le_refl _, fun n => by simp only [P.sc, S.sc]⟩

def eqOne : Kd → S → S → Option (Option Fm)
  | .b, .bo f, .bo g => some (some (match g with | .tt => f | .ff => fNot f | g => .and (.imp f g) (.imp g f)))
  | .i, .it j a, .it k b => if j = k then (fCmp .eql a b).map some else none
  | .s, x, y => match x.strP, y.strP with
    | some _, some _ => some none
    | _, _ => none
  | _, _, _ => none
def eqMany : List Kd → List S → List S → Option (List (Option Fm))
  | [], [], [] => some []
  | k :: ks, a :: x, b :: y => match eqOne k a b, eqMany ks x y with
    | some p, some q => some (p :: q)
    | _, _ => none
  | _, _, _ => none
theorem eqOne_ok {k : Kd} {a b : S} {r : Option Fm} (h : eqOne k a b = some r) (ρ : Rho) : ∃ t, eqScalar k (a.val ρ) (b.val ρ) = some t ∧ ∀ f, r = some f → (t = true ↔ f.holds ρ) := by
  unfold eqOne at h
  split at h
  · rename_i f g
    simp only [Option.some.injEq] at h; subst h
    refine ⟨fmV ρ f == fmV ρ g, rfl, fun f' hf' => ?_⟩
    simp only [Option.some.injEq] at hf'; subst hf'
    have e : ∀ x y : Bool, (x == y) = true ↔ ((x = true → y = true) ∧ (y = true → x = true)) := by decide
    rw [e, fmV_true, fmV_true]
    split
    · simp [Fm.holds]
    · rw [fNot_holds]; simp [Fm.holds]
    · simp only [Fm.holds]
  · rename_i j x k y
    split at h
    · rename_i e; subst e
      simp only [fCmp, Option.map_some, Option.some.injEq] at h; subst h
      refine ⟨x.val ρ == y.val ρ, by simp only [S.val, eqScalar, if_true], fun f hf => ?_⟩
      simp only [Option.some.injEq] at hf; subst hf
      split
      · split <;> simp_all [Fm.holds, Tm.val]
      · simp [Fm.holds]
    · cases h
  · split at h
    · rename_i p q h1 h2
      simp only [Option.some.injEq] at h; subst h
      obtain ⟨b1, _, e1, _⟩ := strP_ok h1 ρ
      obtain ⟨b2, _, e2, _⟩ := strP_ok h2 ρ
      exact ⟨b1 == b2, by rw [e1, e2]; rfl, fun f hf => by cases hf⟩
    · cases h
  · cases h
theorem eqMany_ok (ρ : Rho) : ∀ {ks : List Kd} {x y : List S} {r : List (Option Fm)}, eqMany ks x y = some r →
    ∃ t, eqCells ks (S.vals ρ x) (S.vals ρ y) = some t ∧ (t = true → ∀ f, some f ∈ r → f.holds ρ) ∧ ((∀ q ∈ r, q.isSome = true) → (∀ f, some f ∈ r → f.holds ρ) → t = true)
  | [], [], [], r, h => by simp only [eqMany, Option.some.injEq] at h; subst h; exact ⟨true, rfl, fun _ f hf => by simp at hf, fun _ _ => rfl⟩
  | k :: ks, a :: x, b :: y, r, h => by
    simp only [eqMany] at h
    split at h
    · rename_i p q h1 h2
      simp only [Option.some.injEq] at h; subst h
      obtain ⟨t1, e1, i1⟩ := eqOne_ok h1 ρ
      obtain ⟨t2, e2, i2, i3⟩ := eqMany_ok ρ h2
      refine ⟨t1 && t2, by simp only [S.vals, eqCells, e1, e2], fun ht f hf => ?_, fun hall hf => ?_⟩
      · simp only [Bool.and_eq_true] at ht
        rcases List.mem_cons.1 hf with hf | hf
        · exact (i1 f hf.symm).1 ht.1
        · exact i2 ht.2 f hf
      · simp only [Bool.and_eq_true]
        refine ⟨?_, i3 (fun q hq => hall q (List.mem_cons_of_mem _ hq)) fun f h' => hf f (List.mem_cons_of_mem _ h')⟩
        have := hall p List.mem_cons_self
        obtain ⟨f, rfl⟩ := Option.isSome_iff_exists.1 this
        exact (i1 f rfl).2 (hf f List.mem_cons_self)
    · cases h
  | [], [], _ :: _, _, h | [], _ :: _, _, _, h | _ :: _, [], _, _, h | _ :: _, _ :: _, [], _, h => by simp [eqMany] at h

def someFs : List (Option Fm) → List Fm
  | [] => []
  | some f :: r => f :: someFs r
  | none :: r => someFs r
theorem mem_someFs : ∀ {l : List (Option Fm)} {f : Fm}, f ∈ someFs l ↔ some f ∈ l
  | [], f => by simp [someFs]
  | some g :: r, f => by simp only [someFs, List.mem_cons, mem_someFs (l := r), Option.some.injEq]
  | none :: r, f => by simp only [someFs, List.mem_cons, mem_someFs (l := r), reduceCtorEq, false_or]
def eqRes (st : St) (neg : Bool) (r : List (Option Fm)) : Option (St × S) :=
  if r.all (·.isSome) then some (st, .bo (if neg then fNot (fAnd (someFs r)) else fAnd (someFs r)))
  else st.fresh .b fun p => (someFs r).map fun f => .imp (if neg then .not (.bv p) else .bv p) f
theorem eqRes_ok {neg : Bool} {r : List (Option Fm)} (hr : eqRes st neg r = some (st', s)) (hd : Den h0 F ρ st fr h) (hs : st.Sc) {t : Bool}
    (h1 : ∀ ρ', Agree st.m.nv ρ ρ' → t = true → ∀ f, some f ∈ r → f.holds ρ') (h2 : (∀ q ∈ r, q.isSome = true) → (∀ f, some f ∈ r → f.holds ρ) → t = true) :
    ValOk h0 F ρ st fr h (.bool (if neg then !t else t)) st' s := by
  unfold eqRes at hr
  split at hr
  · rename_i ha
    simp only [Option.some.injEq, Prod.mk.injEq] at hr; obtain ⟨rfl, rfl⟩ := hr
    simp only [List.all_eq_true] at ha
    have e : t = true ↔ (fAnd (someFs r)).holds ρ := by
      rw [fAnd_holds]
      exact ⟨fun ht f hf => h1 ρ (Agree.refl _ _) ht f (mem_someFs.1 hf), fun hf => h2 ha fun f hm => hf f (mem_someFs.2 hm)⟩
    have := val_pure (s := .bo (if neg then fNot (fAnd (someFs r)) else fAnd (someFs r))) hd hs
    have e2 : fmV ρ (if neg then fNot (fAnd (someFs r)) else fAnd (someFs r)) = (if neg then !t else t) := by
      cases neg
      · simp only [Bool.false_eq_true, if_false]; rw [Bool.eq_iff_iff, fmV_true, e]
      · simp only [if_true]; rw [Bool.eq_iff_iff, fmV_true, fNot_holds, ← e]; simp
    simp only [S.val, e2] at this
    exact this
  · refine val_fresh hr hd hs (by cases neg <;> rfl) fun ρ' ha hx _ f hf => ?_
    obtain ⟨g, hg, rfl⟩ := List.mem_map.1 hf
    intro hq
    refine h1 ρ' ha ?_ g (mem_someFs.1 hg)
    cases neg
    · simp only [Bool.false_eq_true, if_false, Fm.holds, hx, vbool] at hq; exact hq
    · simp only [if_true, Fm.holds, hx, vbool] at hq; simpa using hq

def S.isAgg : S → Bool
  | .agg _ => true
  | _ => false
theorem S.isAgg_val {s : S} (hs : s.isAgg = false) (ρ : Rho) : (s.val ρ).isAgg = false := by
  cases s <;> simp only [S.val, V.isAgg, S.isAgg, Bool.true_eq_false] at hs ⊢
  · have := P.val_hasT ρ ‹P›
    cases hc : (‹P› : P).ct <;> cases hv : (P.val ρ ‹P›) <;> simp_all [hasT]
  · rename_i p t j; obtain ⟨r, o, e⟩ := elPtr_rop (P.val ρ p) (Tm.val ρ t) p.ct.size j; rw [e]
def sEqPlain (E : Env) (t : TypeId) (x y : S) : Option (List (Option Fm)) :=
  match E.plain t, E.ti t with
  | some ks, some i =>
    match x, y with
    | .agg a, .agg b => if i.isAgg then eqMany ks a b else none
    | x, y => if x.isAgg || y.isAgg || i.isAgg then none else eqMany ks [x] [y]
  | _, _ => none
theorem sEqPlain_ok {t : TypeId} {x y : S} {r : List (Option Fm)} (hr : sEqPlain E t x y = some r) (ρ : Rho) :
    ∃ b, eqPlain E t (x.val ρ) (y.val ρ) = some b ∧ (b = true → ∀ f, some f ∈ r → f.holds ρ) ∧ ((∀ q ∈ r, q.isSome = true) → (∀ f, some f ∈ r → f.holds ρ) → b = true) := by
  unfold sEqPlain at hr
  split at hr
  · rename_i ks i h1 h2
    split at hr
    · rename_i a b
      split at hr
      · rename_i ha
        obtain ⟨t', e, q⟩ := eqMany_ok ρ hr
        exact ⟨t', by simp only [eqPlain, h1, h2, S.val, ha, if_true, e], q⟩
      · cases hr
    · split at hr
      · cases hr
      · rename_i hn
        simp only [Bool.or_eq_true, not_or, Bool.not_eq_true] at hn
        obtain ⟨t', e, q⟩ := eqMany_ok ρ hr
        refine ⟨t', ?_, q⟩
        have hx := S.isAgg_val hn.1.1 ρ
        simp only [S.vals] at e
        simp only [eqPlain, h1, h2]
        split
        · rename_i hv _; rw [hv] at hx; cases hx
        · simp only [hn.2, Bool.false_eq_true, if_false]; exact e
  · cases hr

def sNil : S → S → Option (Option Fm)
  | .nilp, .nilp => some (some .tt)
  | .nilp, .cell .. | .cell .., .nilp => some (some .ff)
  | .nils, .nils => some (some .tt)
  | .nils, .row .. | .row .., .nils | .nils, .buf .. | .buf .., .nils => some (some .ff)
  | .pv p, .nils | .nils, .pv p => match p.ct with | .sl _ _ => some none | _ => none
  | .nilm, .nilm => some (some .tt)
  | .nilm, .mp _ | .mp _, .nilm => some (some .ff)
  | .nilf, .nilf => some (some .tt)
  | .nilf, .fn .. | .fn .., .nilf => some (some .ff)
  | .nili, .iface .. | .iface .., .nili => some (some .ff)
  | _, _ => none
theorem sl_cases {p : P} {m : Nat} {es : List CT} (hc : p.ct = .sl m es) (ρ : Rho) : p.val ρ = .nils ∨ ∃ row off len full, p.val ρ = .sro row off len full := by
  have := P.val_hasT ρ p
  rw [hc] at this
  simp only [hasT] at this
  split at this
  · exact .inl (by assumption)
  · exact .inr ⟨_, _, _, _, by assumption⟩
  · cases this
theorem sNil_ok {x y : S} {r : Option Fm} (hr : sNil x y = some r) (ρ : Rho) : ∃ b, eqNil (x.val ρ) (y.val ρ) = some b ∧ ∀ f, r = some f → (b = true ↔ f.holds ρ) := by
  unfold sNil at hr
  split at hr <;> first
    | (simp only [Option.some.injEq] at hr; subst hr; refine ⟨_, rfl, fun f hf => ?_⟩; simp only [Option.some.injEq] at hf; subst hf; simp [Fm.holds])
    | (split at hr
       · rename_i m es hc
         simp only [Option.some.injEq] at hr; subst hr
         rcases sl_cases hc ρ with e | ⟨_, _, _, _, e⟩ <;> exact ⟨_, by simp only [S.val, e]; rfl, fun f hf => by cases hf⟩
       · cases hr)
    | cases hr
def nilS (d : TypeDesc) (a b : S) : Bool :=
  match d, a, b with
  | .pointer _, .nilp, _ | .pointer _, _, .nilp => true
  | .slice _, .nils, _ | .slice _, _, .nils => true
  | .map _ _, .nilm, _ | .map _ _, _, .nilm => true
  | .func _ _ _, .nilf, _ | .func _ _ _, _, .nilf => true
  | .interface _, .nili, _ | .interface _, _, .nili => true
  | _, _, _ => false
theorem nilS_ok {d : TypeDesc} {a b : S} (h : nilS d a b = true) (ρ : Rho) : nilT d (a.val ρ) (b.val ρ) = true := by
  unfold nilS at h
  split at h <;> first | (simp only [S.val]; unfold nilT; split <;> simp_all) | cases h
def nilLen : S → S → List (Option Fm)
  | .pv p, .nils | .nils, .pv p => [some (.eq (.len p) (.lit 0))]
  | _, _ => []
theorem nilLen_ok {x y : S} {r : Option Fm} (hr : sNil x y = some r) {ρ : Rho} (he : eqNil (x.val ρ) (y.val ρ) = some true) : ∀ f, some f ∈ nilLen x y → f.holds ρ := by
  intro f hf
  unfold nilLen at hf
  split at hf
  · rename_i p
    simp only [List.mem_singleton, Option.some.injEq] at hf; subst hf
    simp only [sNil] at hr
    split at hr
    · rename_i hc
      rcases sl_cases hc ρ with e | ⟨_, _, _, _, e⟩
      · simp only [Fm.holds, Tm.val, e, vlen]
      · simp only [S.val, e, eqNil, Option.some.injEq, Bool.false_eq_true] at he
    · cases hr
  · rename_i p
    simp only [List.mem_singleton, Option.some.injEq] at hf; subst hf
    simp only [sNil] at hr
    split at hr
    · rename_i hc
      rcases sl_cases hc ρ with e | ⟨_, _, _, _, e⟩
      · simp only [Fm.holds, Tm.val, e, vlen]
      · simp only [S.val, e, eqNil, Option.some.injEq, Bool.false_eq_true] at he
    · cases hr
  · simp at hf
def sEq (E : Env) (t : TypeId) (x y : S) : Option (List (Option Fm)) :=
  match sEqPlain E t x y with
  | some r => some r
  | none => if (E.plain t).isNone then
      match E.ti t with
      | some i => if nilS i.desc x y then (sNil x y).map fun r => r :: nilLen x y else none
      | none => none
    else none
theorem sEq_ok {t : TypeId} {x y : S} {r : List (Option Fm)} (hr : sEq E t x y = some r) (ρ : Rho) :
    ∃ b, eqVal E t (x.val ρ) (y.val ρ) = some b ∧ (b = true → ∀ f, some f ∈ r → f.holds ρ) ∧ ((∀ q ∈ r, q.isSome = true) → (∀ f, some f ∈ r → f.holds ρ) → b = true) := by
  unfold sEq at hr
  split at hr
  · rename_i r' h1
    simp only [Option.some.injEq] at hr; subst hr
    obtain ⟨b, e, q⟩ := sEqPlain_ok h1 ρ
    exact ⟨b, by simp only [eqVal, e], q⟩
  · split at hr
    · rename_i h1
      simp only [Option.isNone_iff_eq_none] at h1
      split at hr
      · rename_i i h2
        split at hr
        · rename_i h3
          simp only [Option.map_eq_some_iff] at hr
          obtain ⟨r', h4, rfl⟩ := hr
          obtain ⟨b, e, q⟩ := sNil_ok h4 ρ
          have hn : eqPlain E t (x.val ρ) (y.val ρ) = none := by simp only [eqPlain, h1]
          refine ⟨b, by simp only [eqVal, hn, h2, nilS_ok h3 ρ, if_true, e], fun hb f hf => ?_, fun ha hf => ?_⟩
          · rcases List.mem_cons.1 hf with hf | hf
            · exact (q f hf.symm).1 hb
            · rw [hb] at e; exact nilLen_ok h4 e f hf
          · have := ha r' (by simp)
            obtain ⟨f, rfl⟩ := Option.isSome_iff_exists.1 this
            exact (q f rfl).2 (hf f (by simp))
        · cases hr
      · cases hr
    · cases hr
end Go.Abs.Sx
namespace Go.Abs.Sx
variable {E : Env} {fid : FuncId} {o : Oper} {h0 : Heap} {F : Nat → Prop} {ρ : Rho} {st st' : St} {fr : Fr} {h : Heap} {s : S} {pr : Prover}

theorem val_pure' {v : V} (hd : Den h0 F ρ st fr h) (hs : st.Sc) (e : s.val ρ = v) : ValOk h0 F ρ st fr h v st s := e ▸ val_pure hd hs

def sShift (pr : Prover) (st : St) (left : Bool) (k : IntKind) (a b : Tm) : Option (St × S) :=
  match a, b with
  | .lit x, .lit y => if y < 0 then none else some (st, .it k (.lit (if left then k.wrap (x * 2 ^ (min y.toNat k.bits)) else x.fdiv (2 ^ (min y.toNat k.bits)))))
  | _, _ => if pr true st.m.facts (.le (.lit 0) b) then
      if left then st.fresh (.i k) fun _ => []
      else if rngP pr st.m.facts k a then st.fresh (.i k) fun p => if pr false st.m.facts (.le (.lit 0) a) then [.le (.lit 0) (.iv p), .le (.iv p) a] else [] else none
    else none
theorem fdiv_range {x : Int} {n : Nat} : (0 ≤ x → 0 ≤ x.fdiv (2 ^ n) ∧ x.fdiv (2 ^ n) ≤ x) ∧ (x ≤ 0 → x ≤ x.fdiv (2 ^ n) ∧ x.fdiv (2 ^ n) ≤ 0) := by
  have h2 : (0 : Int) < 2 ^ n := Int.pow_pos (by decide)
  have e : x.fdiv (2 ^ n) = x / 2 ^ n := Int.fdiv_eq_ediv_of_nonneg _ (by omega)
  rw [e]
  refine ⟨fun hx => ⟨Int.ediv_nonneg hx (by omega), Int.ediv_le_self _ hx⟩, fun hx => ⟨?_, ?_⟩⟩
  · rw [Int.le_ediv_iff_mul_le h2]
    have h3 : (1 : Int) ≤ 2 ^ n := h2
    calc x * 2 ^ n ≤ x * 1 := Int.mul_le_mul_of_nonpos_left hx h3
      _ = x := Int.mul_one x
  · have := Int.ediv_le_ediv h2 hx
    simpa using this
theorem sShift_ok (hp : PrOk pr) {left : Bool} {k : IntKind} {a b : Tm} (hr : sShift pr st left k a b = some (st', s)) (hd : Den h0 F ρ st fr h) (hs : st.Sc)
    (ha : a.sc st.m.nv = true) : ∃ v, shiftBin (if left then .shl else .shr) k (a.val ρ) (b.val ρ) = some v ∧ ValOk h0 F ρ st fr h v st' s := by
  unfold sShift at hr
  split at hr
  · split at hr
    · cases hr
    · rename_i x y hy
      simp only [Option.some.injEq, Prod.mk.injEq] at hr; obtain ⟨rfl, rfl⟩ := hr
      refine ⟨_, ?_, val_pure hd hs⟩
      have hz : ¬ (Tm.lit y).val ρ < 0 := by simp only [Tm.val]; exact hy
      simp only [shiftBin]
      rw [if_neg hz]
      cases left <;> simp only [S.val, Tm.val, Bool.false_eq_true, if_false, if_true]
  · split at hr
    · rename_i h1
      have hb := hp _ _ _ h1 ρ hd.2.facts
      simp only [Fm.holds, Tm.val] at hb
      split at hr
      · rename_i hl; subst hl
        exact ⟨_, by simp only [shiftBin, if_true]; rw [if_neg (by omega)], val_fresh hr hd hs (bitRange k _) fun _ _ _ _ f hf => by simp at hf⟩
      · rename_i hl
        simp only [Bool.not_eq_true] at hl; subst hl
        split at hr
        · rename_i h2
          have hra := rngP_ok hp hd.2.facts h2
          refine ⟨_, by simp only [shiftBin, Bool.false_eq_true, if_false]; rw [if_neg (by omega)], val_fresh hr hd hs (hasT_int ?_) fun ρ' hag hx hfacts f hf => ?_⟩
          · have := fdiv_range (x := a.val ρ) (n := min (b.val ρ).toNat k.bits)
            have := kmin_le k; have := kmax_ge k
            rcases Int.le_total 0 (a.val ρ) with hl | hl
            · have := (fdiv_range (x := a.val ρ) (n := min (b.val ρ).toNat k.bits)).1 hl; omega
            · have := (fdiv_range (x := a.val ρ) (n := min (b.val ρ).toNat k.bits)).2 hl; omega
          · split at hf
            · rename_i h3
              have h4 := hp _ _ _ h3 ρ hd.2.facts
              simp only [Fm.holds, Tm.val] at h4
              have q := (fdiv_range (x := a.val ρ) (n := min (b.val ρ).toNat k.bits)).1 h4
              have ea := Tm.val_agree hag a ha
              simp only [List.mem_cons, List.not_mem_nil, or_false] at hf
              rcases hf with rfl | rfl <;> simp only [Fm.holds, Tm.val, hx, vint, ea]
              · exact q.1
              · exact q.2
            · simp at hf
        · cases hr
    · cases hr

def sStr (st : St) (op : BinOp) (p q : P) : Option (St × S) :=
  match op with
  | .add => if p.ct.max? + q.ct.max? ≤ 9223372036854775807 then st.fresh (.s (p.ct.max? + q.ct.max?)) fun r => [.eq (.len r) (.add (.len p) (.len q))] else none
  | .eql => if P.beq p q then some (st, .bo .tt) else st.fresh .b fun _ => []
  | .neq => if P.beq p q then some (st, .bo .ff) else st.fresh .b fun _ => []
  | .lss | .leq | .gtr | .geq => st.fresh .b fun _ => []
  | _ => none
theorem sStr_ok {op : BinOp} {x y : S} {p q : P} (hx : x.strP = some p) (hy : y.strP = some q) (hr : sStr st op p q = some (st', s)) (hd : Den h0 F ρ st fr h) (hs : st.Sc)
    (hpx : x.sc st.m.nv = true) (hqy : y.sc st.m.nv = true) : ∃ a b v, x.val ρ = .str a ∧ y.val ρ = .str b ∧ strBin op a b = some v ∧ ValOk h0 F ρ st fr h v st' s := by
  obtain ⟨a, m, e1, e2, c1, l1, s1⟩ := strP_ok hx ρ
  obtain ⟨b, n, f1, f2, c2, l2, s2⟩ := strP_ok hy ρ
  have hl : ∀ ρ', Agree st.m.nv ρ ρ' → vlen (p.val ρ') = a.size ∧ vlen (q.val ρ') = b.size := fun ρ' hag => by
    rw [P.val_agree hag p (by rw [s1]; exact hpx), P.val_agree hag q (by rw [s2]; exact hqy), e2, f2]; exact ⟨rfl, rfl⟩
  refine ⟨a, b, ?_⟩
  cases op <;> simp only [sStr, reduceCtorEq] at hr
  · have em : p.ct.max? = m := by rw [c1]; rfl
    have en : q.ct.max? = n := by rw [c2]; rfl
    by_cases hm : p.ct.max? + q.ct.max? ≤ 9223372036854775807
    · rw [if_pos hm] at hr
      refine ⟨_, e1, f1, by simp only [strBin]; rw [if_pos (by omega)], val_fresh hr hd hs (by simp [hasT]; omega) fun ρ' hag hx _ f hf => ?_⟩
      simp only [List.mem_singleton] at hf; subst hf
      obtain ⟨l1, l2⟩ := hl ρ' hag
      simp only [Fm.holds, Tm.val, hx, l1, l2]
      simp [vlen]
    · rw [if_neg hm] at hr; cases hr
  · split at hr
    · rename_i hb
      have := P.beq_eq _ _ hb; subst this
      rw [e2, V.str.injEq] at f2; subst f2
      simp only [Option.some.injEq, Prod.mk.injEq] at hr; obtain ⟨rfl, rfl⟩ := hr
      refine ⟨.bool true, e1, f1, by simp only [strBin]; simp, ?_⟩
      have := val_pure (s := .bo .tt) hd hs
      have e : (S.bo .tt).val ρ = .bool true := by simp only [S.val]; rw [fmV_true.2 (by simp [Fm.holds])]
      rw [e] at this; exact this
    · exact ⟨_, e1, f1, rfl, val_fresh hr hd hs (by rfl) fun _ _ _ _ f hf => by simp at hf⟩
  · split at hr
    · rename_i hb
      have := P.beq_eq _ _ hb; subst this
      rw [e2, V.str.injEq] at f2; subst f2
      simp only [Option.some.injEq, Prod.mk.injEq] at hr; obtain ⟨rfl, rfl⟩ := hr
      refine ⟨.bool false, e1, f1, by simp only [strBin]; simp, ?_⟩
      have := val_pure (s := .bo .ff) hd hs
      have e : (S.bo .ff).val ρ = .bool false := by simp only [S.val]; rw [fmV_false.2 (by simp [Fm.holds])]
      rw [e] at this; exact this
    · exact ⟨_, e1, f1, rfl, val_fresh hr hd hs (by rfl) fun _ _ _ _ f hf => by simp at hf⟩
  all_goals exact ⟨_, e1, f1, rfl, val_fresh hr hd hs (by rfl) fun _ _ _ _ f hf => by simp at hf⟩

def S.odd : S → Bool
  | .pv p => match p.ct with | .i _ => true | _ => false
  | .it .. => true
  | _ => false
def sBin (E : Env) (pr : Prover) (st : St) (op : BinOp) (t : TypeId) (x y : S) : Option (St × S) :=
  match op, x, y with
  | .shl, .it k a, .it _ b => sShift pr st true k a b
  | .shr, .it k a, .it _ b => sShift pr st false k a b
  | op, .it k a, .it k' b => if k = k' then sInt pr st op k a b else none
  | op, x, y => match x.strP, y.strP with
    | some p, some q => sStr st op p q
    | none, none => if x.odd || y.odd then none else match op with
      | .eql => (sEq E t x y).bind (eqRes st false)
      | .neq => (sEq E t x y).bind (eqRes st true)
      | _ => none
    | _, _ => none
theorem strP_none_val {x : S} (h : x.strP = none) (hi : ∀ k t, x ≠ .it k t) (ρ : Rho) : (∀ b, x.val ρ ≠ .str b) ∧ (∀ k n, x.val ρ ≠ .int k n) ∨ (∃ p k, x = .pv p ∧ p.ct = .i k) := by
  cases x <;> simp only [S.strP, reduceCtorEq, ne_eq] at h hi <;> simp only [S.val, ne_eq, reduceCtorEq, not_false_eq_true, implies_true, and_self, true_or]
  · rename_i p
    have := P.val_hasT ρ p
    cases hc : p.ct with
    | i k => exact .inr ⟨p, k, rfl, hc⟩
    | s m => simp [hc] at h
    | b => left; cases hv : p.val ρ <;> simp_all [hasT]
    | sl m es => left; cases hv : p.val ρ <;> simp_all [hasT]
  · exact absurd rfl (hi _ _)
  · rename_i p t j; obtain ⟨r, o, e⟩ := elPtr_rop (P.val ρ p) (Tm.val ρ t) p.ct.size j; rw [e]; left; simp
theorem binVal_eql {t : TypeId} {a b : V} (ha : (∀ x, a ≠ .str x) ∧ ∀ k n, a ≠ .int k n) : binVal E .eql t a b = (eqVal E t a b).map .bool := by
  unfold binVal; split <;> simp_all
theorem binVal_neq {t : TypeId} {a b : V} (ha : (∀ x, a ≠ .str x) ∧ ∀ k n, a ≠ .int k n) : binVal E .neq t a b = (eqVal E t a b).map fun b => .bool !b := by
  unfold binVal; split <;> simp_all
theorem sBin_ok (hp : PrOk pr) {op : BinOp} {t : TypeId} {x y : S} (hr : sBin E pr st op t x y = some (st', s)) (hd : Den h0 F ρ st fr h) (hs : st.Sc)
    (hx : x.sc st.m.nv = true) (hy : y.sc st.m.nv = true) : ∃ v, binVal E op t (x.val ρ) (y.val ρ) = some v ∧ ValOk h0 F ρ st fr h v st' s := by
  unfold sBin at hr
  split at hr
  · simp only [S.sc] at hx
    obtain ⟨v, e, q⟩ := sShift_ok hp hr hd hs hx
    exact ⟨v, by simp only [S.val, binVal]; exact e, q⟩
  · simp only [S.sc] at hx
    obtain ⟨v, e, q⟩ := sShift_ok hp hr hd hs hx
    exact ⟨v, by simp only [S.val, binVal]; exact e, q⟩
  · rename_i k a k' b n1 n2
    split at hr
    · rename_i hk; subst hk
      simp only [S.sc] at hx hy
      obtain ⟨v, e, q⟩ := sInt_ok hp hr hd hs hx hy
      refine ⟨v, ?_, q⟩
      simp only [S.val]
      cases op <;> simp only [binVal, if_true] <;> first | exact e | exact absurd rfl (n1 _ _ _ rfl rfl) | exact absurd rfl (n2 _ _ _ rfl rfl) | (exfalso; simp_all)
    · cases hr
  · rename_i n1 n2 n3
    split at hr
    · rename_i p q h1 h2
      obtain ⟨a, b, v, e1, e2, e3, e4⟩ := sStr_ok h1 h2 hr hd hs hx hy
      refine ⟨v, ?_, e4⟩
      rw [e1, e2]
      cases op <;> simp only [binVal] <;> exact e3
    · rename_i h1 h2
      split at hr
      · cases hr
      rename_i ho
      simp only [Bool.or_eq_true, not_or, Bool.not_eq_true] at ho
      have hv : (∀ z, x.val ρ ≠ .str z) ∧ ∀ k n, x.val ρ ≠ .int k n := by
        rcases strP_none_val h1 (fun k t e => by subst e; simp [S.odd] at ho) ρ with hv | ⟨p, k, rfl, hc⟩
        · exact hv
        · simp [S.odd, hc] at ho
      split at hr
      · simp only [Option.bind_eq_some_iff] at hr
        obtain ⟨r, h3, h4⟩ := hr
        obtain ⟨b, e, q1, q2⟩ := sEq_ok h3 ρ
        refine ⟨.bool b, by rw [binVal_eql hv, e]; rfl, ?_⟩
        refine eqRes_ok h4 hd hs (fun ρ' hag hb f hf => ?_) q2
        obtain ⟨b', e', q1', _⟩ := sEq_ok h3 ρ'
        rw [S.val_agree hag x hx, S.val_agree hag y hy, e] at e'
        simp only [Option.some.injEq] at e'; subst e'
        exact q1' hb f hf
      · simp only [Option.bind_eq_some_iff] at hr
        obtain ⟨r, h3, h4⟩ := hr
        obtain ⟨b, e, q1, q2⟩ := sEq_ok h3 ρ
        refine ⟨.bool !b, by rw [binVal_neq hv, e]; rfl, ?_⟩
        refine eqRes_ok h4 hd hs (fun ρ' hag hb f hf => ?_) q2
        obtain ⟨b', e', q1', _⟩ := sEq_ok h3 ρ'
        rw [S.val_agree hag x hx, S.val_agree hag y hy, e] at e'
        simp only [Option.some.injEq] at e'; subst e'
        exact q1' hb f hf
      · cases hr
    · cases hr
end Go.Abs.Sx
namespace Go.Abs.Sx
variable {E : Env} {fid : FuncId} {o : Oper} {h0 : Heap} {F : Nat → Prop} {ρ : Rho} {st st' : St} {fr : Fr} {h : Heap} {s : S} {pr : Prover}

def sSub (cs : List S) (off n : Nat) : Option (List S) := if off + n ≤ cs.length then some ((cs.drop off).take n) else none
theorem sSub_ok {cs r : List S} {off n : Nat} (hr : sSub cs off n = some r) (ρ : Rho) : sub (S.vals ρ cs) off n = some (S.vals ρ r) := by
  unfold sSub at hr
  split at hr
  · rename_i hl
    simp only [Option.some.injEq] at hr; subst hr
    unfold sub
    rw [S.vals_length, if_pos hl, S.vals_eq, S.vals_eq, List.map_take, List.map_drop]
  · cases hr
def sPatch (cs : List S) (off : Nat) (new : List S) : Option (List S) :=
  if off + new.length ≤ cs.length then some (cs.take off ++ new ++ cs.drop (off + new.length)) else none
theorem sPatch_ok {cs r new : List S} {off : Nat} (hr : sPatch cs off new = some r) (ρ : Rho) : patch (S.vals ρ cs) off (S.vals ρ new) = some (S.vals ρ r) := by
  unfold sPatch at hr
  split at hr
  · rename_i hl
    simp only [Option.some.injEq] at hr; subst hr
    unfold patch
    rw [S.vals_length, S.vals_length, if_pos hl]
    simp only [S.vals_eq, List.map_append, List.map_take, List.map_drop]
  · cases hr
def sType (i : TInfo) (cs : List S) : Option S :=
  if i.isAgg then some (.agg cs) else match cs with | [x] => some x | _ => none
theorem sType_ok {i : TInfo} {cs : List S} (hr : sType i cs = some s) (ρ : Rho) : asType i (S.vals ρ cs) = some (s.val ρ) := by
  unfold sType at hr
  split at hr
  · rename_i hi
    simp only [Option.some.injEq] at hr; subst hr
    simp only [asType, hi, if_true, S.val]
  · rename_i hi
    split at hr
    · simp only [Option.some.injEq] at hr; subst hr
      simp only [asType, hi, Bool.false_eq_true, if_false, S.vals, oneOf]
    · cases hr
def sZero (i : TInfo) : Option S := ofV i.zero

def sParts (st : St) : List (Nat × Operand) → Option (List (Nat × S))
  | [] => some []
  | (i, x) :: r => match st.eval x, sParts st r with
    | some v, some vs => some ((i, v) :: vs)
    | _, _ => none
noncomputable def partVals (ρ : Rho) (l : List (Nat × S)) : List (Nat × V) := l.map fun q => (q.1, q.2.val ρ)
theorem sParts_ok (hd : FDen ρ st fr) : ∀ {l : List (Nat × Operand)} {r : List (Nat × S)}, sParts st l = some r → evalParts fr l = some (partVals ρ r)
  | [], r, h => by simp only [sParts, Option.some.injEq] at h; subst h; rfl
  | (i, x) :: l, r, h => by
    simp only [sParts] at h
    split at h
    · rename_i v vs h1 h2
      simp only [Option.some.injEq] at h; subst h
      simp only [evalParts, hd.eval h1, sParts_ok hd h2, partVals, List.map_cons]
    · cases h
def sFill (place : Nat → Option (Nat × Nat)) (cells : List S) : List (Nat × S) → Option (List S)
  | [] => some cells
  | (i, v) :: rest =>
    match place i with
    | none => none
    | some (off, size) =>
      if v.cells.length = size then
        match sPatch cells off v.cells with
        | some cs => sFill place cs rest
        | none => none
      else none
theorem sFill_ok (ρ : Rho) {place : Nat → Option (Nat × Nat)} : ∀ {l : List (Nat × S)} {cells r : List S}, sFill place cells l = some r → fillCells place (S.vals ρ cells) (partVals ρ l) = some (S.vals ρ r)
  | [], cells, r, h => by simp only [sFill, Option.some.injEq] at h; subst h; rfl
  | (i, v) :: l, cells, r, h => by
    simp only [sFill] at h
    split at h
    · cases h
    · rename_i off size hp
      split at h
      · rename_i hl
        split at h
        · rename_i cs hc
          have := sPatch_ok hc ρ
          simp only [partVals, List.map_cons, fillCells, hp, S.cells_val, S.vals_length, hl, if_true, this]
          exact sFill_ok ρ h
        · cases h
      · cases h
def sWholes (l : List (Nat × S)) : Bool := l.all fun q => q.2.whole
theorem sWholes_ok {l : List (Nat × S)} (h : sWholes l = true) (ρ : Rho) : wholes (partVals ρ l) = true := by
  simp only [sWholes, List.all_eq_true] at h
  simp only [wholes, partVals, List.all_map, List.all_eq_true, Function.comp]
  exact fun q hq => S.whole_val ρ q.2 (h q hq)
def sBuild (E : Env) (t : TypeId) (vs : List (Nat × S)) : Option S :=
  if sWholes vs then
    match E.ti t with
    | some i => if i.isAgg then (match sZero i with | some z => (sFill (place E t) z.cells vs).map .agg | none => none) else none
    | none => none
  else none
theorem sBuild_ok {t : TypeId} {vs : List (Nat × S)} (hr : sBuild E t vs = some s) (ρ : Rho) : buildV E t (partVals ρ vs) = some (s.val ρ) := by
  unfold sBuild at hr
  split at hr
  · rename_i hw
    split at hr
    · rename_i i hi
      split at hr
      · rename_i ha
        split at hr
        · rename_i z hz
          simp only [Option.map_eq_some_iff] at hr
          obtain ⟨cs, hc, rfl⟩ := hr
          have := sFill_ok ρ hc
          rw [← S.cells_val, ofV_val ρ hz] at this
          simp only [buildV, sWholes_ok hw ρ, if_true, hi, ha, this, S.val, Option.map_some]
        · cases hr
      · cases hr
    · cases hr
  · cases hr

def tMx (a b : Tm) : Tm := match a, b with | .lit x, .lit y => .lit (max x y) | a, b => .mx a b
def tMn (a b : Tm) : Tm := match a, b with | .lit x, .lit y => .lit (min x y) | a, b => .mn a b
theorem tMx_val (ρ : Rho) (a b : Tm) : (tMx a b).val ρ = max (a.val ρ) (b.val ρ) := by unfold tMx; split <;> simp only [Tm.val]
theorem tMn_val (ρ : Rho) (a b : Tm) : (tMn a b).val ρ = min (a.val ρ) (b.val ρ) := by unfold tMn; split <;> simp only [Tm.val]
def foldMx (f : Tm → Tm → Tm) (k : IntKind) (a : Tm) : List S → Option Tm
  | [] => some a
  | .it l b :: r => if k = l then foldMx f k (f a b) r else none
  | _ :: _ => none
def sMax (mx : Bool) : List S → Option S
  | .it k a :: r => (foldMx (if mx then tMx else tMn) k a r).map (.it k ·)
  | _ => none
theorem foldMx_ok (ρ : Rho) {f : Tm → Tm → Tm} {g : Int → Int → Int} (hfg : ∀ a b, (f a b).val ρ = g (a.val ρ) (b.val ρ)) {k : IntKind} : ∀ {l : List S} {a r : Tm}, foldMx f k a l = some r →
    (S.vals ρ l).foldlM (m := Option) (fun x v => match v with | .int k' b => if k = k' then some (g x b) else none | _ => none) (a.val ρ) = some (r.val ρ)
  | [], a, r, h => by simp only [foldMx, Option.some.injEq] at h; subst h; rfl
  | s :: l, a, r, h => by
    unfold foldMx at h
    split at h
    · rename_i e; cases e
    · rename_i k' b l' e
      obtain ⟨rfl, rfl⟩ := List.cons.inj e
      split at h
      · rename_i hk; subst hk
        simp only [S.vals, S.val, List.foldlM_cons, if_true, Option.bind_eq_bind, Option.bind_some]
        rw [← hfg]; exact foldMx_ok ρ hfg h
      · cases h
    · cases h
theorem sMax_ok {mx : Bool} {l : List S} (hr : sMax mx l = some s) (ρ : Rho) : maxInt (if mx then (fun x y => if y > x then y else x) else (fun x y => if y < x then y else x)) (S.vals ρ l) = some (s.val ρ) := by
  unfold sMax at hr
  split at hr
  · rename_i k a r
    simp only [Option.map_eq_some_iff] at hr
    obtain ⟨t, ht, rfl⟩ := hr
    have := foldMx_ok ρ (g := if mx then (fun x y => if y > x then y else x) else (fun x y => if y < x then y else x)) (fun a b => by
      cases mx
      · simp only [Bool.false_eq_true, if_false, tMn_val]; omega
      · simp only [if_true, tMx_val]; omega) ht
    simp only [S.vals, S.val, maxInt]
    exact congrArg (Option.map fun x => V.int k x) this
  · cases hr

def nn (t : Tm) : Bool :=
  match t with
  | .lit z => decide (0 ≤ z)
  | .len _ => true
  | _ => false
def tNN (pr : Prover) (facts : List Fm) (t : Tm) : Bool := nn t || pr true facts (.le (.lit 0) t)
theorem tNN_ok (hp : PrOk pr) {facts : List Fm} (hf : ∀ f ∈ facts, f.holds ρ) {t : Tm} (h : tNN pr facts t = true) : 0 ≤ t.val ρ := by
  simp only [tNN, Bool.or_eq_true] at h
  rcases h with h | h
  · unfold nn at h
    split at h
    · simpa [Tm.val] using h
    · simp only [Tm.val]; exact (vlen_range (P.val_hasT ρ _)).1
    · cases h
  · have := hp _ _ _ h ρ hf
    simpa [Fm.holds, Tm.val] using this
def sLen (E : Env) (pr : Prover) (facts : List Fm) (t : TypeId) (x : S) : Option S :=
  match E.desc t, x with
  | some .string, .str b => some (.it .i64 (.lit b.size))
  | some .string, .pv p => match p.ct with | .s _ => some (.it .i64 (.len p)) | _ => none
  | some (.array n _), _ => some (.it .i64 (.lit n))
  | some (.slice _), .nils => some (.it .i64 (.lit 0))
  | some (.slice _), .row _ _ len _ => some (.it .i64 (.lit len))
  | some (.slice _), .buf _ _ len _ _ => if tNN pr facts len then some (.it .i64 len) else none
  | some (.slice _), .pv p => match p.ct with | .sl _ _ => some (.it .i64 (.len p)) | _ => none
  | some (.map _ _), .nilm => some (.it .i64 (.lit 0))
  | _, _ => none
theorem sLen_ok (hp : PrOk pr) {facts : List Fm} (hf : ∀ f ∈ facts, f.holds ρ) {t : TypeId} {x : S} (hr : sLen E pr facts t x = some s) : lenV E h t (x.val ρ) = some (s.val ρ) := by
  unfold sLen at hr
  split at hr
  · rename_i hd; simp only [Option.some.injEq] at hr; subst hr; simp only [lenV, hd, S.val, Tm.val]
  · rename_i p hd
    split at hr
    · rename_i m hc
      simp only [Option.some.injEq] at hr; subst hr
      have := P.val_hasT ρ p
      rw [hc] at this
      simp only [hasT] at this
      split at this
      · rename_i b hb; simp only [lenV, hd, S.val, hb, Tm.val, vlen]
      · cases this
    · cases hr
  · rename_i hd; simp only [Option.some.injEq] at hr; subst hr; simp only [lenV, hd, S.val, Tm.val]
  · rename_i hd; simp only [Option.some.injEq] at hr; subst hr; simp only [lenV, hd, S.val, Tm.val, sliceLen, Option.map_some]; rfl
  · rename_i hd; simp only [Option.some.injEq] at hr; subst hr; simp only [lenV, hd, S.val, Tm.val, sliceLen, Option.map_some]
  · rename_i hd
    split at hr
    · rename_i hn
      simp only [Option.some.injEq] at hr; subst hr
      have := tNN_ok hp hf hn
      simp only [lenV, hd, S.val, sliceLen, Option.map_some]
      rw [Int.toNat_of_nonneg this]
    · cases hr
  · rename_i p hd
    split at hr
    · rename_i m es hc
      simp only [Option.some.injEq] at hr; subst hr
      rcases sl_cases hc ρ with e | ⟨_, _, _, _, e⟩ <;> simp only [lenV, hd, S.val, e, sliceLen, Option.map_some, Tm.val, vlen] <;> rfl
    · cases hr
  · rename_i hd; simp only [Option.some.injEq] at hr; subst hr; simp only [lenV, hd, S.val, Tm.val]
  · cases hr

def sUn (pr : Prover) (st : St) (op : UnOp) (x : S) : Option (St × S) :=
  match op, x with
  | .not, .bo f => some (st, .bo (fNot f))
  | .neg, .it k a => some (st, .it k (tWrap pr st.m.facts k (tSub (.lit 0) a)))
  | .xor, .it k _ => st.fresh (.i k) fun _ => []
  | _, _ => none
theorem sUn_ok (hp : PrOk pr) {op : UnOp} {x : S} (hr : sUn pr st op x = some (st', s)) (hd : Den h0 F ρ st fr h) (hs : st.Sc) : ∃ v, unVal op (x.val ρ) = some v ∧ ValOk h0 F ρ st fr h v st' s := by
  unfold sUn at hr
  split at hr
  · rename_i f
    simp only [Option.some.injEq, Prod.mk.injEq] at hr; obtain ⟨rfl, rfl⟩ := hr
    refine ⟨_, rfl, val_pure' hd hs ?_⟩
    simp only [S.val]; congr 1
    rw [Bool.eq_iff_iff, fmV_true, fNot_holds]
    simp [fmV_false]
  · simp only [Option.some.injEq, Prod.mk.injEq] at hr; obtain ⟨rfl, rfl⟩ := hr
    refine ⟨_, rfl, val_pure' hd hs ?_⟩
    simp only [S.val, tWrap_val hp hd.2.facts, tSub_val, Tm.val]
  · exact ⟨_, rfl, val_fresh hr hd hs (bitRange _ _) fun _ _ _ _ f hf => by simp at hf⟩
  · cases hr

def sConv (E : Env) (pr : Prover) (st : St) (a b : TypeId) (x : S) : Option (St × S) :=
  match E.desc a, E.desc b, x with
  | some (.int j), some (.int k), .it _ t => some (st, .it k (if rng k t then t else tWrap pr st.m.facts k t))
  | some .string, some .string, x => (x.strP).map fun _ => (st, x)
  | _, _, _ => none
theorem sConv_ok (hp : PrOk pr) {a b : TypeId} {x : S} (hr : sConv E pr st a b x = some (st', s)) (hd : Den h0 F ρ st fr h) (hs : st.Sc) : ∃ v, convV E a b (x.val ρ) = some v ∧ ValOk h0 F ρ st fr h v st' s := by
  unfold sConv at hr
  split at hr
  · rename_i h1 h2
    simp only [Option.some.injEq, Prod.mk.injEq] at hr; obtain ⟨rfl, rfl⟩ := hr
    refine ⟨_, by simp only [convV, h1, h2, S.val]; rfl, val_pure' hd hs ?_⟩
    simp only [S.val]
    split
    · rename_i hr; rw [wrap_id (rng_ok hr ρ)]
    · simp only [tWrap_val hp hd.2.facts]
  · rename_i h1 h2
    simp only [Option.map_eq_some_iff, Prod.mk.injEq] at hr
    obtain ⟨p, hp', rfl, rfl⟩ := hr
    obtain ⟨b, m, e, _⟩ := strP_ok hp' ρ
    exact ⟨_, by simp only [convV, h1, h2, e], val_pure' hd hs e⟩
  · cases hr

def sPick (pr : Prover) (st : St) (f : Fm) (a b : S) : Option (St × S) :=
  match known st.m.facts f with
  | some true => some (st, a)
  | some false => some (st, b)
  | none => match a, b with
    | .bo p, .bo q => some (st, .bo (.and (.imp f p) (.or f q)))
    | .it k x, .it l y => if k = l && rngP pr st.m.facts k x && rngP pr st.m.facts k y then st.fresh (.i k) fun r => [.imp f (.eq (.iv r) x), .or f (.eq (.iv r) y)] else none
    | _, _ => none
theorem sPick_ok (hp : PrOk pr) {f : Fm} {a b : S} (hr : sPick pr st f a b = some (st', s)) (hd : Den h0 F ρ st fr h) (hs : st.Sc) (hfs : f.sc st.m.nv = true)
    (ha : a.sc st.m.nv = true) (hb : b.sc st.m.nv = true) : ValOk h0 F ρ st fr h (if fmV ρ f then a.val ρ else b.val ρ) st' s := by
  unfold sPick at hr
  split at hr
  · rename_i hk
    simp only [Option.some.injEq, Prod.mk.injEq] at hr; obtain ⟨rfl, rfl⟩ := hr
    rw [fmV_true.2 (known_true hd.2.facts hk)]; exact val_pure hd hs
  · rename_i hk
    simp only [Option.some.injEq, Prod.mk.injEq] at hr; obtain ⟨rfl, rfl⟩ := hr
    rw [fmV_false.2 (known_false hd.2.facts hk)]; exact val_pure hd hs
  · split at hr
    · rename_i p q
      simp only [Option.some.injEq, Prod.mk.injEq] at hr; obtain ⟨rfl, rfl⟩ := hr
      refine val_pure' hd hs ?_
      cases hf : fmV ρ f
      · rw [fmV_false] at hf
        simp only [S.val, Bool.false_eq_true, if_false]; congr 1
        rw [Bool.eq_iff_iff, fmV_true, fmV_true]; simp [Fm.holds, hf]
      · rw [fmV_true] at hf
        simp only [S.val, if_true]; congr 1
        rw [Bool.eq_iff_iff, fmV_true, fmV_true]; simp [Fm.holds, hf]
    · rename_i k x l y
      split at hr
      · rename_i hc
        simp only [Bool.and_eq_true, decide_eq_true_eq] at hc
        obtain ⟨⟨rfl, h1⟩, h2⟩ := hc
        have r1 := rngP_ok hp hd.2.facts h1
        have r2 := rngP_ok hp hd.2.facts h2
        simp only [S.sc] at ha hb
        refine val_fresh hr hd hs (by split <;> simp only [S.val] <;> exact hasT_int (by assumption)) fun ρ' hag hx _ g hg => ?_
        simp only [List.mem_cons, List.not_mem_nil, or_false] at hg
        have e := Fm.holds_agree f hag hfs
        have e1 := Tm.val_agree hag x ha
        have e2 := Tm.val_agree hag y hb
        rcases hg with rfl | rfl
        · simp only [Fm.holds, Tm.val, hx, e, e1]
          intro hf; rw [fmV_true.2 hf]; rfl
        · simp only [Fm.holds, Tm.val, hx, e, e2]
          cases hf : fmV ρ f
          · right; rfl
          · left; exact fmV_true.1 hf
      · cases hr
    · cases hr
end Go.Abs.Sx
namespace Go.Abs.Sx
variable {E : Env} {fid : FuncId} {o : Oper} {h0 : Heap} {F : Nat → Prop} {ρ : Rho} {st st' : St} {fr : Fr} {h : Heap} {s : S} {pr : Prover}

def Off.add (n : Nat) : Off → Off
  | .at m => .at (m + n)
  | .ix lo sz cnt t j => .ix lo sz cnt t (j + n)
theorem Off.add_val (ρ : Rho) (n : Nat) (o : Off) : (o.add n).val ρ = o.val ρ + n := by
  cases o <;> simp only [Off.add, Off.val] <;> omega
def sOff (x : S) (n : Nat) : Option S :=
  match x with
  | .loc t o => some (.loc t (o.add n))
  | .cell y o => some (.cell y (o.add n))
  | .rowp cs o => some (.rowp cs (o.add n))
  | .elp p t j => some (.elp p t (j + n))
  | _ => none
theorem elPtr_add {v : V} {i : Int} {sz j n : Nat} : (∃ row off len full, v = .sro row off len full) → addOff (elPtr v i sz j) n = some (elPtr v i sz (j + n)) := by
  rintro ⟨row, off, len, full, rfl⟩
  simp only [elPtr, addOff]; congr 2; omega
def within (pr : Prover) (st : St) (i n : Tm) : Option St :=
  match i, n with
  | .lit a, .lit b => if 0 ≤ a ∧ a < b then some st else none
  | i, n => if tNN pr st.m.facts i && (known st.m.facts (.lt i n) == some true || pr true st.m.facts (.lt i n)) then
      (st.m.facts? [.le (.lit 0) i, .lt i n]).map fun m => { st with m := m } else none
theorem within_ok (hp : PrOk pr) {i n : Tm} (hw : within pr st i n = some st') (hd : Den h0 F ρ st fr h) (hs : st.Sc) :
    0 ≤ i.val ρ ∧ i.val ρ < n.val ρ ∧ Den h0 F ρ st' fr h ∧ st'.Sc ∧ st'.m.nv = st.m.nv := by
  unfold within at hw
  split at hw
  · split at hw
    · rename_i a b hab
      simp only [Option.some.injEq] at hw; subst hw
      exact ⟨hab.1, hab.2, hd, hs, rfl⟩
    · cases hw
  · split at hw
    · rename_i hc
      simp only [Bool.and_eq_true, Bool.or_eq_true, beq_iff_eq] at hc
      have h1 := tNN_ok hp hd.2.facts hc.1
      have h2 : (Fm.lt i n).holds ρ := by
        rcases hc.2 with h2 | h2
        · exact known_true hd.2.facts h2
        · exact hp _ _ _ h2 ρ hd.2.facts
      simp only [Option.map_eq_some_iff] at hw
      obtain ⟨m, hm, rfl⟩ := hw
      obtain ⟨a, b, c⟩ := MDen.factsOk hd.2 hs.2 hm fun f hf => by
        simp only [List.mem_cons, List.not_mem_nil, or_false] at hf
        rcases hf with rfl | rfl
        · simp only [Fm.holds, Tm.val]; exact h1
        · exact h2
      refine ⟨h1, h2, ⟨⟨hd.1.vals, hd.1.boxes, hd.1.defers, hd.1.rc⟩, a⟩, ⟨⟨fun q hq => by rw [c]; exact hs.1.vals q hq, fun q hq => by rw [c]; exact hs.1.boxes q hq, by rw [c]; exact hs.1.rc⟩, b⟩, c⟩
    · cases hw

def Off.at? : Off → Option Nat
  | .at n => some n
  | _ => none
def Off.lits : Tm → Option Nat
  | .lit z => if 0 ≤ z then some z.toNat else none
  | _ => none
theorem Off.lits_ok {t : Tm} {n : Nat} (h : Off.lits t = some n) (ρ : Rho) : t.val ρ = n := by
  unfold Off.lits at h
  split at h
  · split at h
    · simp only [Option.some.injEq] at h; subst h; simp only [Tm.val]; omega
    · cases h
  · cases h
def mkIx (lo sz cnt : Nat) (t : Tm) : Off :=
  match Off.lits t with
  | some n => .at (lo + n * sz)
  | none => .ix lo sz cnt t 0
theorem mkIx_val (ρ : Rho) (lo sz cnt : Nat) (t : Tm) : (mkIx lo sz cnt t).val ρ = lo + (t.val ρ).toNat * sz := by
  unfold mkIx
  split
  · rename_i n hn
    simp only [Off.val, Off.lits_ok hn ρ]
    rw [Int.toNat_natCast]
  · simp only [Off.val]; omega

def cntOf (st : St) (y sz : Nat) : Nat :=
  match getC st.m.chunks y with
  | some (.row cells) => cells.length / sz
  | _ => 0
def sIndexAddr (E : Env) (pr : Prover) (st : St) (t : TypeId) (x i : S) : Option (St × S) :=
  match E.desc t, i with
  | some (.array len e), .it _ n =>
    match E.ti e, within pr st n (.lit len) with
    | some j, some st' => match x with
      | .loc u (.at o) => some (st', .loc u (mkIx o j.size len n))
      | .cell u (.at o) => some (st', .cell u (mkIx o j.size len n))
      | .rowp cs (.at o) => some (st', .rowp cs (mkIx o j.size len n))
      | _ => none
    | _, _ => none
  | some (.slice e), .it _ n =>
    match E.ti e, x with
    | some j, .row cs off len _ => match within pr st n (.lit len) with
      | some st' => some (st', .rowp cs (mkIx off j.size len n))
      | none => none
    | some j, .pv p => if p.ct.size = j.size then (match p.ct with
      | .sl _ _ => match within pr st n (.len p) with
        | some st' => some (st', .elp p n 0)
        | none => none
      | _ => none) else none
    | some j, .buf y off len sz _ => if sz = j.size ∧ tNN pr st.m.facts off = true then (match within pr st n len with
      | some st' => some (st', .cell y (mkIx 0 sz (cntOf st y sz) (tAdd off n)))
      | none => none) else none
    | _, _ => none
  | _, _ => none
theorem sIndexAddr_ok (hp : PrOk pr) {t : TypeId} {x i : S} (hr : sIndexAddr E pr st t x i = some (st', s)) (hd : Den h0 F ρ st fr h) (hs : st.Sc) :
    ∃ v, indexAddrV E t (x.val ρ) (i.val ρ) = some v ∧ ValOk h0 F ρ st fr h v st' s := by
  have fin : ∀ {st1 : St} {s1 : S}, Den h0 F ρ st1 fr h → st1.Sc → st1.m.nv = st.m.nv → ValOk h0 F ρ st fr h (s1.val ρ) st1 s1 := fun hd1 hs1 hn => ⟨ρ, Agree.refl _ _, by omega, rfl, hd1, hs1⟩
  unfold sIndexAddr at hr
  split at hr
  · rename_i len e k n hde
    split at hr
    · rename_i j st1 hj hw
      obtain ⟨a, b, c, d, e2⟩ := within_ok hp hw hd hs
      simp only [Tm.val] at b
      split at hr <;> simp only [Option.some.injEq, Prod.mk.injEq, reduceCtorEq] at hr
      all_goals
        obtain ⟨rfl, rfl⟩ := hr
        refine ⟨_, ?_, fin c d e2⟩
        simp only [S.val, indexAddrV, hde, hj, mkIx_val, addOff]
        rw [if_pos ⟨a, b⟩]; rfl
    · cases hr
  · rename_i e k n hde
    split at hr
    · rename_i j cs off len full hj
      split at hr
      · rename_i st1 hw
        obtain ⟨a, b, c, d, e2⟩ := within_ok hp hw hd hs
        simp only [Tm.val] at b
        simp only [Option.some.injEq, Prod.mk.injEq] at hr; obtain ⟨rfl, rfl⟩ := hr
        refine ⟨_, ?_, fin c d e2⟩
        simp only [S.val, indexAddrV, hde, hj, mkIx_val]
        rw [if_pos ⟨a, b⟩]
      · cases hr
    · rename_i j p hj
      split at hr
      · rename_i hsz
        split at hr
        · rename_i m es hc
          split at hr
          · rename_i st1 hw
            obtain ⟨a, b, c, d, e2⟩ := within_ok hp hw hd hs
            simp only [Option.some.injEq, Prod.mk.injEq] at hr; obtain ⟨rfl, rfl⟩ := hr
            refine ⟨_, ?_, fin c d e2⟩
            simp only [Tm.val] at b
            rcases sl_cases hc ρ with e | ⟨row, off, len, full, e⟩
            · rw [e] at b; simp only [vlen] at b; omega
            · rw [e] at b; simp only [vlen] at b
              simp only [S.val, indexAddrV, hde, hj, e, elPtr, hsz]
              rw [if_pos ⟨a, b⟩]; rfl
          · cases hr
        · cases hr
      · cases hr
    · rename_i j y off len sz full hj
      split at hr
      · rename_i hsz
        split at hr
        · rename_i st1 hw
          obtain ⟨a, b, c, d, e2⟩ := within_ok hp hw hd hs
          have ho := tNN_ok hp hd.2.facts hsz.2
          simp only [Option.some.injEq, Prod.mk.injEq] at hr; obtain ⟨rfl, rfl⟩ := hr
          refine ⟨_, ?_, fin c d e2⟩
          simp only [S.val, indexAddrV, hde, hj, mkIx_val, tAdd_val]
          rw [if_pos ⟨hsz.1, a, by omega⟩]
          congr 2
          rw [← hsz.1, Int.toNat_add ho a, Nat.add_mul]; omega
        · cases hr
      · cases hr
    · cases hr
  · cases hr

def fits (pr : Prover) (facts : List Fm) (c : CT) (s : S) : Bool :=
  match c, s with
  | .b, .bo _ => true
  | .i k, .it l t => k == l && rngP pr facts k t
  | .s m, .str b => decide (b.size ≤ m)
  | .s m, .pv p => match p.ct with | .s n => decide (n ≤ m) | _ => false
  | .sl _ _, .nils => true
  | .sl m es, .pv p => match p.ct with | .sl n fs => decide (n ≤ m) && CT.beqs fs es | _ => false
  | _, _ => false
theorem hasT_s_mono {n m : Nat} (hn : n ≤ m) {v : V} (h : hasT (.s n) v = true) : hasT (.s m) v = true := by
  cases v <;> simp_all [hasT]; omega
theorem hasT_sl_mono {n m : Nat} {es : List CT} (hn : n ≤ m) {v : V} (h : hasT (.sl n es) v = true) : hasT (.sl m es) v = true := by
  cases v <;> simp only [hasT, Bool.and_eq_true, decide_eq_true_eq, Bool.false_eq_true] at h ⊢
  exact ⟨⟨⟨h.1.1.1, by omega⟩, h.1.2⟩, h.2⟩
theorem fits_ok (hp : PrOk pr) {facts : List Fm} (hfa : ∀ f ∈ facts, f.holds ρ) {c : CT} {s : S} (hf : fits pr facts c s = true) : hasT c (s.val ρ) = true := by
  unfold fits at hf
  split at hf
  · rfl
  · simp only [Bool.and_eq_true, beq_iff_eq] at hf
    obtain ⟨rfl, h1⟩ := hf
    simp only [S.val]; exact hasT_int (rngP_ok hp hfa h1)
  · simpa [S.val, hasT] using hf
  · rename_i m p
    have := P.val_hasT ρ p
    split at hf
    · rename_i n hc
      rw [hc] at this
      simp only [decide_eq_true_eq] at hf
      simp only [S.val]; exact hasT_s_mono hf this
    · cases hf
  · rfl
  · rename_i m es p
    have := P.val_hasT ρ p
    split at hf
    · rename_i n fs hc
      rw [hc] at this
      simp only [Bool.and_eq_true, decide_eq_true_eq] at hf
      obtain ⟨h1, h2⟩ := hf
      have e := CT.beqs_eq _ _ h2; subst e
      simp only [S.val]; exact hasT_sl_mono h1 this
    · cases hf
  · cases hf
def fitss (pr : Prover) (facts : List Fm) : List CT → List S → Bool
  | [], [] => true
  | c :: cs, s :: ss => fits pr facts c s && fitss pr facts cs ss
  | _, _ => false
theorem fitss_ok (hp : PrOk pr) {facts : List Fm} (hfa : ∀ f ∈ facts, f.holds ρ) : ∀ {cs : List CT} {ss : List S}, fitss pr facts cs ss = true → hasTs cs (S.vals ρ ss) = true
  | [], [], _ => rfl
  | c :: cs, s :: ss, h => by
    simp only [fitss, Bool.and_eq_true] at h
    simp only [S.vals, hasTs, Bool.and_eq_true]
    exact ⟨fits_ok hp hfa h.1, fitss_ok hp hfa h.2⟩
  | [], _ :: _, h | _ :: _, [], h => by simp [fitss] at h

def ctOf : S → Option CT
  | .bo _ => some .b
  | .it k _ => some (.i k)
  | .str b => some (.s b.size)
  | .pv p => some p.ct
  | _ => none

def freshs (st : St) : List CT → Option (St × List S)
  | [] => some (st, [])
  | c :: cs => match st.fresh c fun _ => [] with
    | some (st1, s) => match freshs st1 cs with
      | some (st2, ss) => some (st2, s :: ss)
      | none => none
    | none => none
theorem fresh_frame {c : CT} {fs : P → List Fm} (hf : st.fresh c fs = some (st', s)) : st'.vals = st.vals ∧ st'.boxes = st.boxes ∧ st'.rc = st.rc ∧ st'.m.chunks = st.m.chunks := by
  simp only [St.fresh, Option.map_eq_some_iff, Prod.mk.injEq] at hf
  obtain ⟨m, hm, rfl, rfl⟩ := hf
  refine ⟨rfl, rfl, rfl, ?_⟩
  have : ∀ (l : List Fm) (m m' : Mem), m.facts? l = some m' → m'.chunks = m.chunks := by
    intro l
    induction l with
    | nil => intro m m' h; simp only [Mem.facts?, Option.some.injEq] at h; subst h; rfl
    | cons f r ih =>
      intro m m' h
      simp only [Mem.facts?, Option.bind_eq_some_iff] at h
      obtain ⟨m1, h1, h2⟩ := h
      rw [ih m1 m' h2]
      unfold Mem.fact at h1
      split at h1
      · simp only [Option.some.injEq] at h1; subst h1; rfl
      · cases h1
  exact this _ st.m.fresh m hm
theorem freshs_ok : ∀ {cs : List CT} {vs : List V} {st st' : St} {ss : List S} {ρ : Rho}, freshs st cs = some (st', ss) → Den h0 F ρ st fr h → st.Sc → hasTs cs vs = true →
    ∃ ρ', Agree st.m.nv ρ ρ' ∧ st.m.nv ≤ st'.m.nv ∧ S.vals ρ' ss = vs ∧ Den h0 F ρ' st' fr h ∧ st'.Sc ∧ st'.boxes = st.boxes ∧ st'.m.chunks = st.m.chunks ∧ st'.vals = st.vals ∧ st'.rc = st.rc ∧ S.scs st'.m.nv ss = true
  | [], vs, st, st', ss, ρ, hf, hd, hs, ht => by
    simp only [freshs, Option.some.injEq, Prod.mk.injEq] at hf
    obtain ⟨rfl, rfl⟩ := hf
    cases vs with
    | nil => exact ⟨ρ, Agree.refl _ _, Nat.le_refl _, rfl, hd, hs, rfl, rfl, rfl, rfl, rfl⟩
    | cons _ _ => simp [hasTs] at ht
  | c :: cs, vs, st, st', ss, ρ, hf, hd, hs, ht => by
    simp only [freshs] at hf
    split at hf
    · rename_i st1 s1 h1
      split at hf
      · rename_i st2 ss2 h2
        simp only [Option.some.injEq, Prod.mk.injEq] at hf
        obtain ⟨rfl, rfl⟩ := hf
        cases vs with
        | nil => simp [hasTs] at ht
        | cons v vs =>
          simp only [hasTs, Bool.and_eq_true] at ht
          obtain ⟨ρ1, a1, n1, v1, d1, c1⟩ := fresh_ok h1 hd hs ht.1 fun _ _ _ f hf => by simp at hf
          obtain ⟨ρ2, a2, n2, v2, d2, c2, b2, k2, w2, r2, sc2⟩ := freshs_ok h2 d1 c1 ht.2
          obtain ⟨f1, f2, f3, f4⟩ := fresh_frame h1
          have hsc : s1.sc st1.m.nv = true := by
            simp only [St.fresh, Option.map_eq_some_iff, Prod.mk.injEq] at h1
            obtain ⟨m, hm, rfl, rfl⟩ := h1
            have : (P.x st.m.nv c).sc m.nv = true := by simp only [P.sc, decide_eq_true_eq]; simp only at n1; omega
            unfold ofP; split <;> simp only [S.sc, Fm.sc, Tm.sc, this]
          refine ⟨ρ2, a1.trans a2 (by omega), by omega, ?_, d2, c2, by rw [b2, f2], by rw [k2, f4], by rw [w2, f1], by rw [r2, f3], ?_⟩
          · simp only [S.vals, v2]; rw [S.val_agree a2 s1 hsc, v1]
          · simp only [S.scs, Bool.and_eq_true]; exact ⟨S.sc_mono n2 s1 hsc, sc2⟩
      · cases hf
    · cases hf
end Go.Abs.Sx
namespace Go.Abs.Sx
variable {E : Env} {fid : FuncId} {o : Oper} {h0 : Heap} {F : Nat → Prop} {ρ : Rho} {st st' : St} {fr : Fr} {h : Heap} {s : S} {pr : Prover}

theorem hasTs_len : ∀ {cs : List CT} {vs : List V}, hasTs cs vs = true → vs.length = cs.length
  | [], [], _ => rfl
  | c :: cs, v :: vs, h => by simp only [hasTs, Bool.and_eq_true] at h; simp only [List.length_cons, hasTs_len h.2]
  | [], _ :: _, h | _ :: _, [], h => by simp [hasTs] at h
theorem hasTs_get : ∀ {cs : List CT} {vs : List V}, hasTs cs vs = true → ∀ (j : Nat) (v : V), vs[j]? = some v → hasT (cs.getD j .b) v = true
  | [], [], _, j, v, hv => by simp at hv
  | c :: cs, w :: vs, h, j, v, hv => by
    simp only [hasTs, Bool.and_eq_true] at h
    cases j with
    | zero => simp only [List.getElem?_cons_zero, Option.some.injEq] at hv; subst hv; exact h.1
    | succ j => simp only [List.getElem?_cons_succ] at hv; exact hasTs_get h.2 j v hv
  | [], _ :: _, h, _, _, _ | _ :: _, [], h, _, _, _ => by simp [hasTs] at h
theorem hasTs_mk : ∀ {cs : List CT} {vs : List V}, vs.length = cs.length → (∀ j, j < cs.length → ∀ v, vs[j]? = some v → hasT (cs.getD j .b) v = true) → hasTs cs vs = true
  | [], [], _, _ => rfl
  | c :: cs, v :: vs, hl, h => by
    simp only [hasTs, Bool.and_eq_true]
    exact ⟨h 0 (by simp) v rfl, hasTs_mk (by simpa using hl) fun j hj w hw => h (j + 1) (by simp only [List.length_cons]; omega) w (by simpa using hw)⟩
  | [], _ :: _, hl, _ | _ :: _, [], hl, _ => by simp at hl

theorem sro_typed {m : Nat} {es : List CT} {row : List V} {off len : Nat} {full : Bool} (ht : hasT (.sl m es) (.sro row off len full) = true) :
    len ≤ m ∧ off + len * es.length ≤ row.length ∧ ∀ i, i < len → hasTs es ((row.drop (off + i * es.length)).take es.length) = true := by
  simp only [hasT, Bool.and_eq_true, decide_eq_true_eq, List.all_eq_true, List.mem_range] at ht
  exact ⟨ht.1.1.2, ht.1.2, ht.2⟩
theorem sro_clean {m : Nat} {es : List CT} {row : List V} {off len : Nat} {full : Bool} (ht : hasT (.sl m es) (.sro row off len full) = true) : V.sames row row = true := by
  simp only [hasT, Bool.and_eq_true] at ht; exact ht.1.1.1
theorem bytes_refl (b : ByteArray) : (b == b) = true := by
  rcases b with ⟨b⟩
  show (b == b) = true
  simp
theorem hasT_clean {c : CT} {v : V} (h : hasT c v = true) : V.same v v = true := by
  cases v <;> first
    | (cases c <;> simp [hasT] at h; done)
    | (simp [V.same]; done)
    | exact bytes_refl _
    | skip
  cases c <;> simp only [hasT, Bool.false_eq_true] at h
  simp only [Bool.and_eq_true] at h
  simp only [V.same, h.1.1.1, beq_self_eq_true, Bool.and_self]
theorem hasTs_clean : ∀ {cs : List CT} {vs : List V}, hasTs cs vs = true → ∀ v ∈ vs, V.same v v = true
  | [], [], _, v, hv => by simp at hv
  | c :: cs, w :: vs, h, v, hv => by
    simp only [hasTs, Bool.and_eq_true] at h
    rcases List.mem_cons.1 hv with rfl | hv
    · exact hasT_clean h.1
    · exact hasTs_clean h.2 v hv
  | [], _ :: _, h, _, _ | _ :: _, [], h, _, _ => by simp [hasTs] at h
theorem sames_all : ∀ {l : List V}, (∀ v ∈ l, V.same v v = true) → V.sames l l = true
  | [], _ => rfl
  | v :: l, h => by simp only [V.sames, Bool.and_eq_true]; exact ⟨h v List.mem_cons_self, sames_all fun w hw => h w (List.mem_cons_of_mem _ hw)⟩
theorem idx_lt {i len sz j : Nat} (hi : i < len) (hj : j < sz) : i * sz + j < len * sz := by
  have : (i + 1) * sz ≤ len * sz := Nat.mul_le_mul_right sz hi
  rw [Nat.add_mul] at this; omega
theorem el_val {p : P} {m : Nat} {es : List CT} (hc : p.ct = .sl m es) {row : List V} {off len : Nat} {full : Bool} (hv : p.val ρ = .sro row off len full) {t : Tm} {i : Nat} (hi : t.val ρ = i) (hlt : i < len) {j : Nat} (hj : j < es.length) :
    row[off + i * es.length + j]? = some ((P.el p t j).val ρ) := by
  have ht := P.val_hasT ρ p
  rw [hc, hv] at ht
  obtain ⟨h1, h2, h3⟩ := sro_typed ht
  have hb := idx_lt hlt hj
  have hl : off + i * es.length + j < row.length := by omega
  have hg : row[off + i * es.length + j]? = some row[off + i * es.length + j] := List.getElem?_eq_getElem hl
  rw [hg]; congr 1
  have h4 : ((row.drop (off + i * es.length)).take es.length)[j]? = some row[off + i * es.length + j] := by
    rw [List.getElem?_take_of_lt hj, List.getElem?_drop, hg]
  have h5 := hasTs_get (h3 i hlt) j _ h4
  have e1 : (P.el p t j).ct = es.getD j .b := by simp only [P.ct, hc]
  have e2 : elemAt (p.val ρ) p.ct.size (t.val ρ) j = row[off + i * es.length + j] := by
    rw [hv, hc, hi]
    simp only [elemAt, CT.size]
    rw [if_pos ⟨by omega, by omega⟩]
    simp only [Int.toNat_natCast, List.getD_eq_getElem?_getD, hg, Option.getD_some]
  simp only [P.val]
  rw [e1, e2, good_of h5]
def elS (p : P) (t : Tm) (j n : Nat) : List S := (List.range n).map fun k => ofP (.el p t (j + k))
theorem elS_vals (ρ : Rho) (p : P) (t : Tm) (j n : Nat) : S.vals ρ (elS p t j n) = (List.range n).map fun k => (P.el p t (j + k)).val ρ := by
  simp only [S.vals_eq, elS, List.map_map]; congr 1; funext k; simp only [Function.comp, ofP_val]
theorem sub_range {row : List V} {off n : Nat} {g : Nat → V} (hn : 0 < n) (hg : ∀ k, k < n → row[off + k]? = some (g k)) : sub row off n = some ((List.range n).map g) := by
  have hl : off + n ≤ row.length := by
    obtain ⟨hlt, _⟩ := List.getElem?_eq_some_iff.1 (hg (n - 1) (by omega))
    omega
  unfold sub
  rw [if_pos hl]; congr 1
  apply List.ext_getElem?
  intro k
  rw [List.getElem?_map]
  by_cases hk : k < n
  · rw [List.getElem?_take_of_lt hk, List.getElem?_drop, hg k hk, List.getElem?_range hk]; rfl
  · rw [List.getElem?_eq_none (by simp; omega), List.getElem?_eq_none (by simp; omega)]; rfl
theorem sub_el {p : P} {m : Nat} {es : List CT} (hc : p.ct = .sl m es) {row : List V} {off len : Nat} {full : Bool} (hv : p.val ρ = .sro row off len full) {t : Tm} {i : Nat} (hi : t.val ρ = i) (hlt : i < len) {j n : Nat} (hj : j + n ≤ es.length) (hn : 0 < n) :
    sub row (off + i * es.length + j) n = some (S.vals ρ (elS p t j n)) := by
  rw [elS_vals]
  exact sub_range hn fun k hk => by rw [Nat.add_assoc (off + i * es.length)]; exact el_val hc hv hi hlt (by omega)
theorem cellsOf_get {row : List V} {off len sz k : Nat} {full : Bool} (hk : k < len * sz) : (cellsOf sz (.sro row off len full))[k]? = row[off + k]? := by
  simp only [cellsOf]; rw [List.getElem?_take_of_lt hk, List.getElem?_drop]
theorem sub_cells {p : P} {m : Nat} {es : List CT} (hc : p.ct = .sl m es) {t : Tm} {i : Nat} (hi : t.val ρ = i) (hlt : (i : Int) < vlen (p.val ρ)) {j n : Nat} (hj : j + n ≤ es.length) (hn : 0 < n) :
    sub (cellsOf p.ct.size (p.val ρ)) (i * es.length + j) n = some (S.vals ρ (elS p t j n)) := by
  rcases sl_cases hc ρ with e | ⟨row, off, len, full, e⟩
  · rw [e] at hlt; simp only [vlen] at hlt; omega
  · have hlt' : i < len := by rw [e] at hlt; simp only [vlen] at hlt; omega
    rw [elS_vals]
    refine sub_range hn fun k hk => ?_
    rw [e, hc]
    simp only [CT.size]
    have := idx_lt hlt' (show j + k < es.length by omega)
    rw [cellsOf_get (by omega)]
    have := el_val hc e hi hlt' (show j + k < es.length by omega)
    rw [← this]; congr 1; omega

def colCT (pr : Prover) (facts : List Fm) (cells : List S) (lo sz cnt j k : Nat) : Option CT :=
  match (cells[lo + (j + k)]?).bind ctOf with
  | some c => if (List.range cnt).all fun q => match cells[lo + q * sz + (j + k)]? with | some s => fits pr facts c s | none => false then some c else none
  | none => none
def colCTs (pr : Prover) (facts : List Fm) (cells : List S) (lo sz cnt j : Nat) : Nat → Nat → Option (List CT)
  | _, 0 => some []
  | k, n + 1 => match colCT pr facts cells lo sz cnt j k, colCTs pr facts cells lo sz cnt j (k + 1) n with
    | some c, some cs => some (c :: cs)
    | _, _ => none
theorem colCT_ok {facts : List Fm} {cells : List S} {lo sz cnt j k : Nat} {c : CT} (hr : colCT pr facts cells lo sz cnt j k = some c) {i : Nat} (hi : i < cnt) : ∃ s, cells[lo + i * sz + (j + k)]? = some s ∧ fits pr facts c s = true := by
  unfold colCT at hr
  split at hr
  · split at hr
    · rename_i ha
      simp only [Option.some.injEq] at hr; subst hr
      simp only [List.all_eq_true, List.mem_range] at ha
      have := ha i hi
      split at this
      · rename_i s hs; exact ⟨s, hs, this⟩
      · cases this
    · cases hr
  · cases hr
theorem colCTs_ok {facts : List Fm} {cells : List S} {lo sz cnt j : Nat} {i : Nat} (hi : i < cnt) : ∀ {n k : Nat} {cs : List CT}, colCTs pr facts cells lo sz cnt j k n = some cs →
    cs.length = n ∧ ∀ q, q < n → ∃ s, cells[lo + i * sz + (j + (k + q))]? = some s ∧ fits pr facts (cs.getD q .b) s = true
  | 0, k, cs, hr => by simp only [colCTs, Option.some.injEq] at hr; subst hr; exact ⟨rfl, fun q hq => by omega⟩
  | n + 1, k, cs, hr => by
    simp only [colCTs] at hr
    split at hr
    · rename_i c cs' h1 h2
      simp only [Option.some.injEq] at hr; subst hr
      obtain ⟨a, b⟩ := colCTs_ok hi h2
      refine ⟨by simp only [List.length_cons, a], fun q hq => ?_⟩
      cases q with
      | zero => obtain ⟨s, h3, h4⟩ := colCT_ok h1 hi; exact ⟨s, by rw [Nat.add_zero]; exact h3, h4⟩
      | succ q =>
        obtain ⟨s, h3, h4⟩ := b q (by omega)
        exact ⟨s, by rw [show k + (q + 1) = k + 1 + q by omega]; exact h3, h4⟩
    · cases hr
theorem colSub (hp : PrOk pr) {facts : List Fm} {cells : List S} {lo sz cnt j n : Nat} {cs : List CT} (hr : colCTs pr facts cells lo sz cnt j 0 n = some cs) {i : Nat} (hi : i < cnt) (hn : 0 < n) (hfa : ∀ f ∈ facts, f.holds ρ) :
    ∃ vs, sub (S.vals ρ cells) (lo + i * sz + j) n = some vs ∧ hasTs cs vs = true := by
  obtain ⟨hl, hq⟩ := colCTs_ok hi hr
  have hg : ∀ q, q < n → (S.vals ρ cells)[lo + i * sz + j + q]? = some (((cells[lo + i * sz + (j + q)]?).getD .junk).val ρ) := fun q hqn => by
    obtain ⟨s, h1, h2⟩ := hq q hqn
    rw [Nat.zero_add] at h1
    rw [S.vals_eq, List.getElem?_map, Nat.add_assoc, h1]; rfl
  refine ⟨_, sub_range hn hg, hasTs_mk (by simp [hl]) fun q hqn v hv => ?_⟩
  rw [hl] at hqn
  obtain ⟨s, h1, h2⟩ := hq q hqn
  rw [Nat.zero_add] at h1
  rw [List.getElem?_map, List.getElem?_range hqn] at hv
  simp only [Option.map_some, Option.some.injEq, h1, Option.getD_some] at hv
  subst hv
  exact fits_ok hp hfa h2

def readTab (pr : Prover) (st : St) (cells : List S) (o : Off) (n : Nat) : Option (St × List S) :=
  match o with
  | .at k => (sSub cells k n).map fun cs => (st, cs)
  | .ix lo sz cnt t j => match within pr st t (.lit cnt), colCTs pr st.m.facts cells lo sz cnt j 0 n with
    | some st1, some cs => if 0 < n then freshs st1 cs else none
    | _, _ => none
def ReadOk (h0 : Heap) (F : Nat → Prop) (ρ : Rho) (st : St) (fr : Fr) (h : Heap) (vs : List V) (st' : St) (ss : List S) : Prop :=
  ∃ ρ', Agree st.m.nv ρ ρ' ∧ st.m.nv ≤ st'.m.nv ∧ S.vals ρ' ss = vs ∧ Den h0 F ρ' st' fr h ∧ st'.Sc
theorem readTab_ok (hp : PrOk pr) {cells ss : List S} {o : Off} {n : Nat} (hr : readTab pr st cells o n = some (st', ss)) (hd : Den h0 F ρ st fr h) (hs : st.Sc) :
    ∃ vs, sub (S.vals ρ cells) (o.val ρ) n = some vs ∧ ReadOk h0 F ρ st fr h vs st' ss := by
  unfold readTab at hr
  split at hr
  · simp only [Option.map_eq_some_iff, Prod.mk.injEq] at hr
    obtain ⟨cs, h1, rfl, rfl⟩ := hr
    exact ⟨_, sSub_ok h1 ρ, ρ, Agree.refl _ _, Nat.le_refl _, rfl, hd, hs⟩
  · rename_i lo sz cnt t j
    split at hr
    · rename_i st1 cs hw hc
      split at hr
      · rename_i hn
        obtain ⟨a, b, c, d, e⟩ := within_ok hp hw hd hs
        simp only [Tm.val] at b
        have hi : (t.val ρ).toNat < cnt := by omega
        obtain ⟨vs, h1, h2⟩ := colSub hp hc hi hn hd.2.facts
        obtain ⟨ρ', a2, n2, v2, d2, c2, _⟩ := freshs_ok hr c d h2
        exact ⟨vs, by simp only [Off.val]; exact h1, ρ', by rw [← e]; exact a2, by omega, v2, d2, c2⟩
      · cases hr
    · cases hr

def sRead (pr : Prover) (st : St) (x : S) (n : Nat) : Option (St × List S) :=
  match x with
  | .loc u o => match st.boxes.get u with
    | some cells => readTab pr st cells o n
    | none => none
  | .cell y o => match getC st.m.chunks y with
    | some (.row cells) => readTab pr st cells o n
    | some (.buf p) => match p.ct, o with
      | .sl _ es, .at k => if 0 < n ∧ 0 < es.length ∧ k % es.length + n ≤ es.length then
          (within pr st (.lit ((k / es.length : Nat) : Int)) (.len p)).map fun st1 => (st1, elS p (.lit ((k / es.length : Nat) : Int)) (k % es.length) n) else none
      | .sl _ es, .ix lo sz _ t j => if 0 < n ∧ lo = 0 ∧ sz = es.length ∧ j + n ≤ es.length then
          (within pr st t (.len p)).map fun st1 => (st1, elS p t j n) else none
      | _, _ => none
    | _ => none
  | .rowp cs o => readTab pr st cs o n
  | .elp p t j => match p.ct with
    | .sl _ es => if 0 < n ∧ j + n ≤ es.length then (within pr st t (.len p)).map fun st1 => (st1, elS p t j n) else none
    | _ => none
  | _ => none
theorem sRead_ok (hp : PrOk pr) {x : S} {n : Nat} {ss : List S} (hr : sRead pr st x n = some (st', ss)) (hd : Den h0 F ρ st fr h) (hs : st.Sc) :
    ∃ vs, readCells fr h (x.val ρ) n = some vs ∧ ReadOk h0 F ρ st fr h vs st' ss := by
  unfold sRead at hr
  split at hr
  · rename_i u o
    split at hr
    · rename_i cells hb
      obtain ⟨vs, h1, h2⟩ := readTab_ok hp hr hd hs
      refine ⟨vs, ?_, h2⟩
      simp only [S.val, readCells, hd.1.boxes _ _ hb, Option.bind_some, h1]
    · cases hr
  · rename_i y o
    split at hr
    · rename_i cells hg
      obtain ⟨ob, h1, h2⟩ := hd.2.chunk _ (getC_mem hg)
      simp only [Chunk.holds] at h2
      subst h2
      obtain ⟨vs, h3, h4⟩ := readTab_ok hp hr hd hs
      exact ⟨vs, by simp only [S.val, readCells, h1, h3], h4⟩
    · rename_i p hg
      obtain ⟨ob, h1, h2⟩ := hd.2.chunk _ (getC_mem hg)
      simp only [Chunk.holds] at h2
      subst h2
      split at hr
      · rename_i m es k hc
        split at hr
        · rename_i hk
          simp only [Option.map_eq_some_iff, Prod.mk.injEq] at hr
          obtain ⟨st1, hw, rfl, rfl⟩ := hr
          obtain ⟨a, b, c, d, e⟩ := within_ok hp hw hd hs
          refine ⟨_, ?_, ρ, Agree.refl _ _, by omega, rfl, c, d⟩
          have hsub := sub_cells (ρ := ρ) hc (t := .lit ((k / es.length : Nat) : Int)) (i := k / es.length) (by simp only [Tm.val]) (by simp only [Tm.val] at b; exact b) hk.2.2 hk.1
          simp only [S.val, readCells, h1, Off.val]
          rw [← hsub]; congr 1
          rw [Nat.mul_comm]; exact (Nat.div_add_mod k es.length).symm
        · cases hr
      · rename_i m es lo sz cnt t j hc
        split at hr
        · rename_i hk
          simp only [Option.map_eq_some_iff, Prod.mk.injEq] at hr
          obtain ⟨st1, hw, rfl, rfl⟩ := hr
          obtain ⟨a, b, c, d, e⟩ := within_ok hp hw hd hs
          refine ⟨_, ?_, ρ, Agree.refl _ _, by omega, rfl, c, d⟩
          have hti : t.val ρ = ((t.val ρ).toNat : Int) := (Int.toNat_of_nonneg a).symm
          have hsub := sub_cells (ρ := ρ) hc hti (by simp only [Tm.val] at b; omega) hk.2.2.2 hk.1
          simp only [S.val, readCells, h1, Off.val, hk.2.1, hk.2.2.1]
          rw [← hsub]; congr 1; omega
        · cases hr
      · cases hr
    · cases hr
  · rename_i cs o
    obtain ⟨vs, h3, h4⟩ := readTab_ok hp hr hd hs
    exact ⟨vs, by simp only [S.val, readCells, h3], h4⟩
  · rename_i p t j
    split at hr
    · rename_i m es hc
      split at hr
      · rename_i hk
        simp only [Option.map_eq_some_iff, Prod.mk.injEq] at hr
        obtain ⟨st1, hw, rfl, rfl⟩ := hr
        obtain ⟨a, b, c, d, e⟩ := within_ok hp hw hd hs
        refine ⟨_, ?_, ρ, Agree.refl _ _, by omega, rfl, c, d⟩
        have hti : t.val ρ = ((t.val ρ).toNat : Int) := (Int.toNat_of_nonneg a).symm
        simp only [Tm.val] at b
        rcases sl_cases hc ρ with e' | ⟨row, off, len, full, e'⟩
        · rw [e'] at b; simp only [vlen] at b; omega
        · have hlt : (t.val ρ).toNat < len := by rw [e'] at b; simp only [vlen] at b; omega
          have := sub_el hc e' hti hlt hk.2 hk.1
          simp only [S.val, e', elPtr, readCells]
          rw [← this]; simp only [hc, CT.size]
      · cases hr
    · cases hr
  · cases hr
def sLoad (E : Env) (pr : Prover) (st : St) (t : TypeId) (x : S) : Option (St × S) :=
  match E.ti t with
  | some i => match sRead pr st x (if i.isAgg then i.size else 1) with
    | some (st1, cs) => (sType i cs).map fun s => (st1, s)
    | none => none
  | none => none
theorem sLoad_ok (hp : PrOk pr) {t : TypeId} {x : S} (hr : sLoad E pr st t x = some (st', s)) (hd : Den h0 F ρ st fr h) (hs : st.Sc) :
    ∃ i v, E.ti t = some i ∧ readAt fr h i (x.val ρ) = some v ∧ ValOk h0 F ρ st fr h v st' s := by
  unfold sLoad at hr
  split at hr
  · rename_i i hi
    split at hr
    · rename_i st1 cs h1
      simp only [Option.map_eq_some_iff, Prod.mk.injEq] at hr
      obtain ⟨s1, h2, rfl, rfl⟩ := hr
      obtain ⟨vs, h3, ρ', a, n, v, d, c⟩ := sRead_ok hp h1 hd hs
      refine ⟨i, _, hi, ?_, ρ', a, n, rfl, d, c⟩
      simp only [readAt, h3, Option.bind_some]
      rw [← v]; exact sType_ok h2 ρ'
    · cases hr
  · cases hr
end Go.Abs.Sx
namespace Go.Abs.Sx
variable {E : Env} {fid : FuncId} {o : Oper} {h0 : Heap} {F : Nat → Prop} {ρ : Rho} {st st' : St} {fr : Fr} {h : Heap} {s : S} {pr : Prover}

theorem patch_get {cs new r : List V} {off : Nat} (hp : patch cs off new = some r) (a : Nat) : r[a]? = if off ≤ a ∧ a < off + new.length then new[a - off]? else cs[a]? := by
  unfold patch at hp
  split at hp
  · rename_i hl
    simp only [Option.some.injEq] at hp; subst hp
    split
    · rename_i ha
      rw [List.append_assoc, List.getElem?_append_right (by simp; omega), List.getElem?_append_left (by simp; omega)]
      congr 1; simp; omega
    · rename_i ha
      by_cases h1 : a < off
      · rw [List.append_assoc, List.getElem?_append_left (by simp; omega), List.getElem?_take_of_lt h1]
      · rw [List.getElem?_append_right (by simp; omega), List.getElem?_drop]
        congr 1; simp; omega
  · cases hp
theorem patch_some {cs new : List V} {off : Nat} (hl : off + new.length ≤ cs.length) : ∃ r, patch cs off new = some r ∧ r.length = cs.length := by
  refine ⟨_, by unfold patch; rw [if_pos hl], ?_⟩
  simp; omega

theorem fact_frame {m m' : Mem} {f : Fm} (hm : m.fact f = some m') : m'.chunks = m.chunks ∧ m'.nv = m.nv := by
  unfold Mem.fact at hm
  split at hm
  · simp only [Option.some.injEq] at hm; subst hm; exact ⟨rfl, rfl⟩
  · cases hm
theorem facts_frame : ∀ {l : List Fm} {m m' : Mem}, m.facts? l = some m' → m'.chunks = m.chunks ∧ m'.nv = m.nv
  | [], m, m', hm => by simp only [Mem.facts?, Option.some.injEq] at hm; subst hm; exact ⟨rfl, rfl⟩
  | f :: r, m, m', hm => by
    simp only [Mem.facts?, Option.bind_eq_some_iff] at hm
    obtain ⟨m1, h1, h2⟩ := hm
    have a := fact_frame h1
    have b := facts_frame h2
    exact ⟨b.1.trans a.1, b.2.trans a.2⟩
theorem within_frame {i n : Tm} (hw : within pr st i n = some st') : st'.boxes = st.boxes ∧ st'.m.chunks = st.m.chunks ∧ st'.vals = st.vals ∧ st'.rc = st.rc := by
  unfold within at hw
  split at hw
  · split at hw
    · simp only [Option.some.injEq] at hw; subst hw; exact ⟨rfl, rfl, rfl, rfl⟩
    · cases hw
  · split at hw
    · simp only [Option.map_eq_some_iff] at hw
      obtain ⟨m, hm, rfl⟩ := hw
      exact ⟨rfl, (facts_frame hm).1, rfl, rfl⟩
    · cases hw
def ctsOf : List S → Option (List CT)
  | [] => some []
  | s :: r => match ctOf s, ctsOf r with
    | some c, some cs => some (c :: cs)
    | _, _ => none
def suits (pr : Prover) (facts : List Fm) (cts : List CT) (sz cnt j : Nat) (vs : List S) : Bool :=
  (List.range cnt).all fun q => (List.range vs.length).all fun k => match cts[q * sz + (j + k)]?, vs[k]? with
    | some c, some s => fits pr facts c s
    | _, _ => false
def writeTab (pr : Prover) (st : St) (cells : List S) (o : Off) (vs : List S) : Option (St × List S) :=
  match o with
  | .at k => (sPatch cells k vs).map fun cs => (st, cs)
  | .ix lo sz cnt t j =>
    let mid := (cells.drop lo).take (cnt * sz)
    match within pr st t (.lit cnt), ctsOf mid with
    | some st1, some cts => if lo + cnt * sz ≤ cells.length ∧ j + vs.length ≤ sz ∧ fitss pr st.m.facts cts mid = true ∧ suits pr st.m.facts cts sz cnt j vs = true then
        (freshs st1 cts).map fun r => (r.1, cells.take lo ++ r.2 ++ cells.drop (lo + cnt * sz)) else none
    | _, _ => none
theorem writeTab_ok (hp : PrOk pr) {cells vs cells' : List S} {o : Off} (hr : writeTab pr st cells o vs = some (st', cells')) (hd : Den h0 F ρ st fr h) (hs : st.Sc) (hc : S.scs st.m.nv cells = true) (hvs : S.scs st.m.nv vs = true) :
    ∃ L ρ', patch (S.vals ρ cells) (o.val ρ) (S.vals ρ vs) = some L ∧ Agree st.m.nv ρ ρ' ∧ st.m.nv ≤ st'.m.nv ∧ S.vals ρ' cells' = L ∧ Den h0 F ρ' st' fr h ∧ st'.Sc ∧ st'.boxes = st.boxes ∧ st'.m.chunks = st.m.chunks ∧ st'.vals = st.vals ∧ st'.rc = st.rc := by
  unfold writeTab at hr
  split at hr
  · simp only [Option.map_eq_some_iff, Prod.mk.injEq] at hr
    obtain ⟨cs, h1, rfl, rfl⟩ := hr
    exact ⟨_, ρ, sPatch_ok h1 ρ, Agree.refl _ _, Nat.le_refl _, rfl, hd, hs, rfl, rfl, rfl, rfl⟩
  · rename_i lo sz cnt t j
    simp only at hr
    split at hr
    · rename_i st1 cts hw hcts
      split at hr
      · rename_i hk
        obtain ⟨k1, k2, k3, k4⟩ := hk
        simp only [Option.map_eq_some_iff, Prod.mk.injEq] at hr
        obtain ⟨⟨st2, fs⟩, h1, rfl, rfl⟩ := hr
        obtain ⟨a, b, c, d, e⟩ := within_ok hp hw hd hs
        simp only [Tm.val] at b
        have hi : (t.val ρ).toNat < cnt := by omega
        have hidx : (t.val ρ).toNat * sz + sz ≤ cnt * sz := by
          have := Nat.mul_le_mul_right sz (Nat.succ_le_of_lt hi)
          rwa [Nat.succ_mul] at this
        have hlen : (S.vals ρ cells).length = cells.length := S.vals_length _ _
        have hvl : (S.vals ρ vs).length = vs.length := S.vals_length _ _
        obtain ⟨L, hL, hLl⟩ := patch_some (cs := S.vals ρ cells) (new := S.vals ρ vs) (off := lo + (t.val ρ).toNat * sz + j) (by rw [hlen, hvl]; omega)
        have hg := patch_get hL
        rw [hvl] at hg
        have hmid := fitss_ok hp hd.2.facts k3
        have hml := hasTs_len hmid
        rw [S.vals_length] at hml
        have hml2 : ((cells.drop lo).take (cnt * sz)).length = cnt * sz := by simp; omega
        have hM : hasTs cts ((L.drop lo).take (cnt * sz)) = true := by
          refine hasTs_mk (by simp; omega) fun q hq v hv => ?_
          have hq' : q < cnt * sz := by omega
          rw [List.getElem?_take_of_lt hq', List.getElem?_drop, hg] at hv
          split at hv
          · rename_i hin
            have hkl : lo + q - (lo + (t.val ρ).toNat * sz + j) < vs.length := by omega
            simp only [suits, List.all_eq_true, List.mem_range] at k4
            have := k4 _ hi _ hkl
            split at this
            · rename_i c1 s1 e1 e2
              rw [S.vals_eq, List.getElem?_map, e2] at hv
              simp only [Option.map_some, Option.some.injEq] at hv; subst hv
              have e3 : (t.val ρ).toNat * sz + (j + (lo + q - (lo + (t.val ρ).toNat * sz + j))) = q := by omega
              rw [e3] at e1
              rw [List.getD_eq_getElem?_getD, e1]
              exact fits_ok hp hd.2.facts this
            · cases this
          · refine hasTs_get hmid q v ?_
            rw [S.vals_eq, List.getElem?_map, List.getElem?_take_of_lt hq', List.getElem?_drop]
            rw [S.vals_eq, List.getElem?_map] at hv
            exact hv
        obtain ⟨ρ', a2, n2, v2, d2, c2, b2, m2, w2, r2, _⟩ := freshs_ok h1 c d hM
        have w1 : st1.boxes = st.boxes ∧ st1.m.chunks = st.m.chunks ∧ st1.vals = st.vals ∧ st1.rc = st.rc := within_frame hw
        refine ⟨L, ρ', by simp only [Off.val]; exact hL, by rw [← e]; exact a2, (show st.m.nv ≤ st2.m.nv by omega), ?_, d2, c2, by rw [b2, w1.1], by rw [m2, w1.2.1], by rw [w2, w1.2.2.1], by rw [r2, w1.2.2.2]⟩
        have ecell : ∀ l : List S, (∀ x ∈ l, x ∈ cells) → S.vals ρ' l = S.vals ρ l := fun l hl => by
          rw [S.vals_eq, S.vals_eq]
          refine List.map_congr_left fun x hx => S.val_agree a2 x ?_
          rw [e]; exact (S.scs_all _ _).1 hc x (hl x hx)
        have e1 : S.vals ρ' (cells.take lo ++ fs ++ cells.drop (lo + cnt * sz)) = S.vals ρ (cells.take lo) ++ (L.drop lo).take (cnt * sz) ++ S.vals ρ (cells.drop (lo + cnt * sz)) := by
          have : ∀ a b : List S, S.vals ρ' (a ++ b) = S.vals ρ' a ++ S.vals ρ' b := fun a b => by simp only [S.vals_eq, List.map_append]
          rw [this, this, v2, ecell _ fun x hx => List.mem_of_mem_take hx, ecell _ fun x hx => List.mem_of_mem_drop hx]
        rw [e1]
        apply List.ext_getElem?
        intro q
        by_cases q1 : q < lo
        · rw [List.append_assoc, List.getElem?_append_left (by rw [S.vals_length]; simp; omega), hg, if_neg (by omega), S.vals_eq, S.vals_eq, List.map_take, List.getElem?_take_of_lt q1]
        · have ll : (S.vals ρ (cells.take lo)).length = lo := by rw [S.vals_length]; simp; omega
          have lm : ((L.drop lo).take (cnt * sz)).length = cnt * sz := by simp; omega
          by_cases q2 : q < lo + cnt * sz
          · rw [List.append_assoc, List.getElem?_append_right (by omega), ll, List.getElem?_append_left (by omega), List.getElem?_take_of_lt (by omega), List.getElem?_drop]
            congr 1; omega
          · rw [List.getElem?_append_right (by simp only [List.length_append]; omega), hg, if_neg (by omega)]
            simp only [List.length_append, ll, lm]
            rw [S.vals_eq, S.vals_eq, List.getElem?_map, List.getElem?_map, List.getElem?_drop]
            congr 2; omega
      · cases hr
    · cases hr

theorem Al.get_sc {st : St} (hs : st.Sc) {u : Nat} {cells : List S} (hb : st.boxes.get u = some cells) : S.scs st.m.nv cells = true := hs.1.boxes _ (Al.mem_of_get hb)
def St.setBox (st : St) (u : Nat) (cells : List S) : Option St := if S.scs st.m.nv cells then some { st with boxes := st.boxes.put u cells } else none
theorem setBox_ok {u : Nat} {cells : List S} (hr : st.setBox u cells = some st') (hd : Den h0 F ρ st fr h) (hs : st.Sc) :
    Den h0 F ρ st' { fr with boxes := fr.boxes.put u (S.vals ρ cells) } h ∧ st'.Sc ∧ st'.m = st.m := by
  unfold St.setBox at hr
  split at hr
  · rename_i h1
    simp only [Option.some.injEq] at hr; subst hr
    refine ⟨⟨⟨hd.1.vals, fun k cs hk => ?_, hd.1.defers, hd.1.rc⟩, hd.2⟩, ⟨⟨hs.1.vals, fun q hq => ?_, hs.1.rc⟩, hs.2⟩, rfl⟩
    · simp only [Al.get_put] at hk ⊢
      split at hk
      · rename_i e; rw [if_pos e]; simp only [Option.some.injEq] at hk; rw [hk]
      · rename_i e; rw [if_neg e]; exact hd.1.boxes k cs hk
    · rcases Al.mem_put hq with rfl | hq
      · exact h1
      · exact hs.1.boxes q hq
  · cases hr

def WriteOk (h0 : Heap) (F : Nat → Prop) (ρ : Rho) (st : St) (fr : Fr) (h : Heap) (p : V) (vs : List V) (st' : St) : Prop :=
  ∃ ρ' fr' h', Agree st.m.nv ρ ρ' ∧ st.m.nv ≤ st'.m.nv ∧ writeAt fr h p vs = some (fr', h') ∧ Den h0 F ρ' st' fr' h' ∧ st'.Sc
def wFacts (p : P) (t : Tm) (j : Nat) (vs : List S) (q : P) : List Fm :=
  .eq (.len q) (.len p) :: ((List.range vs.length).map fun k => match (vs[k]? : Option S) with | some (S.it _ a) => Fm.eq (.iv (.el q t (j + k))) a | _ => Fm.tt)
theorem el_of_cells {p : P} {m : Nat} {es : List CT} (hc : p.ct = .sl m es) {t : Tm} {i : Nat} (hi : t.val ρ = i) (hlt : (i : Int) < vlen (p.val ρ)) {c : Nat} (hcl : c < es.length) :
    (cellsOf es.length (p.val ρ))[i * es.length + c]? = some ((P.el p t c).val ρ) := by
  rcases sl_cases hc ρ with e | ⟨row, off, len, full, e⟩
  · rw [e] at hlt; simp only [vlen] at hlt; omega
  · have hlt' : i < len := by rw [e] at hlt; simp only [vlen] at hlt; omega
    rw [e, cellsOf_get (idx_lt hlt' hcl), ← Nat.add_assoc]
    exact el_val hc e hi hlt' hcl
theorem cells_len {m : Nat} {es : List CT} {v : V} (ht : hasT (.sl m es) v = true) : ((cellsOf es.length v).length : Int) = vlen v * es.length := by
  cases v <;> simp only [hasT, Bool.false_eq_true] at ht <;> simp only [cellsOf, vlen]
  · simp
  · rename_i row off len full
    have := sro_typed (full := full) ht
    simp only [List.length_take, List.length_drop]
    have : min (len * es.length) (row.length - off) = len * es.length := by omega
    rw [this]; simp
theorem mk_sro {m : Nat} {es : List CT} {L : List V} {len : Nat} (hl : L.length = len * es.length) (hm : len ≤ m) (hr : ∀ i, i < len → hasTs es ((L.drop (i * es.length)).take es.length) = true) : hasT (.sl m es) (.sro L 0 len true) = true := by
  simp only [hasT, Bool.and_eq_true, decide_eq_true_eq, List.all_eq_true, List.mem_range, Nat.zero_add]
  refine ⟨⟨⟨sames_all fun v hv => ?_, hm⟩, by omega⟩, hr⟩
  obtain ⟨k, hk⟩ := List.mem_iff_getElem?.1 hv
  obtain ⟨hlt, _⟩ := List.getElem?_eq_some_iff.1 hk
  have hpos : 0 < es.length := by
    rcases Nat.eq_zero_or_pos es.length with e | e
    · rw [hl, e] at hlt; simp at hlt
    · exact e
  have hdiv : k / es.length < len := by rw [Nat.div_lt_iff_lt_mul hpos]; omega
  refine hasTs_clean (hr _ hdiv) v (List.mem_iff_getElem?.2 ⟨k % es.length, ?_⟩)
  rw [List.getElem?_take_of_lt (Nat.mod_lt _ hpos), List.getElem?_drop, Nat.mul_comm, Nat.div_add_mod]
  exact hk
theorem cellsOf_mk {L : List V} {len sz : Nat} (hl : L.length = len * sz) : cellsOf sz (.sro L 0 len true) = L := by
  simp only [cellsOf, List.drop_zero]; rw [← hl]; exact List.take_length
theorem cells_rows {m : Nat} {es : List CT} {v : V} (ht : hasT (.sl m es) v = true) {i : Nat} (hi : (i : Int) < vlen v) : hasTs es (((cellsOf es.length v).drop (i * es.length)).take es.length) = true := by
  cases v <;> simp only [hasT, Bool.false_eq_true] at ht <;> simp only [vlen] at hi
  · omega
  · rename_i row off len full
    have := (sro_typed (full := full) ht).2.2 i (by omega)
    have e : ((cellsOf es.length (.sro row off len full)).drop (i * es.length)).take es.length = (row.drop (off + i * es.length)).take es.length := by
      apply List.ext_getElem?
      intro k
      by_cases hk : k < es.length
      · rw [List.getElem?_take_of_lt hk, List.getElem?_take_of_lt hk, List.getElem?_drop, List.getElem?_drop, cellsOf_get (idx_lt (by omega) hk)]
        congr 1; omega
      · rw [List.getElem?_eq_none (by simp; omega), List.getElem?_eq_none (by simp; omega)]
    rw [e]; exact this

def sWriteBuf (pr : Prover) (st : St) (y : Nat) (p : P) (t : Tm) (j : Nat) (vs : List S) : Option St :=
  match p.ct with
  | .sl m es => if 0 < vs.length ∧ j + vs.length ≤ es.length ∧ fitss pr st.m.facts ((es.drop j).take vs.length) vs = true then
      match within pr st t (.len p) with
      | some st1 => match st1.fresh (.sl m es) (wFacts p t j vs) with
        | some (st2, .pv q) => (st2.m.set y (.buf q)).map fun m => { st2 with m := m }
        | _ => none
      | none => none
    else none
  | _ => none
theorem sWriteBuf_ok (hp : PrOk pr) {y : Nat} {p : P} {t : Tm} {j : Nat} {vs : List S} (hr : sWriteBuf pr st y p t j vs = some st') (hg : getC st.m.chunks y = some (.buf p)) (hd : Den h0 F ρ st fr h) (hs : st.Sc)
    (htsc : t.sc st.m.nv = true) (hvs : S.scs st.m.nv vs = true) {off : Nat} (hoff : off = (t.val ρ).toNat * p.ct.size + j) :
    WriteOk h0 F ρ st fr h (.cell (rid ρ y) off) (S.vals ρ vs) st' := by
  unfold sWriteBuf at hr
  split at hr
  · rename_i m es hc
    split at hr
    · rename_i hk
      obtain ⟨k1, k2, k3⟩ := hk
      split at hr
      · rename_i st1 hw
        obtain ⟨a, b, c, d, e⟩ := within_ok hp hw hd hs
        obtain ⟨w1, w2, w3, w4⟩ := within_frame hw
        split at hr
        · rename_i st2 q hf
          simp only [Option.map_eq_some_iff] at hr
          obtain ⟨m', hm, rfl⟩ := hr
          have ht := P.val_hasT ρ p
          rw [hc] at ht
          simp only [Tm.val] at b
          generalize hi : (t.val ρ).toNat = i at *
          have hti : t.val ρ = (i : Int) := by omega
          have hlt : (i : Int) < vlen (p.val ρ) := by omega
          have hcl := cells_len ht
          generalize hC : cellsOf es.length (p.val ρ) = C at *
          obtain ⟨len, hlen⟩ : ∃ len : Nat, vlen (p.val ρ) = len := ⟨(vlen (p.val ρ)).toNat, by omega⟩
          rw [hlen] at hcl hlt
          have hCl : C.length = len * es.length := by exact_mod_cast hcl
          have hilen : i < len := by omega
          have hidx : i * es.length + es.length ≤ len * es.length := by
            have := Nat.mul_le_mul_right es.length (Nat.succ_le_of_lt hilen)
            rwa [Nat.succ_mul] at this
          have hvl : (S.vals ρ vs).length = vs.length := S.vals_length _ _
          obtain ⟨L, hL, hLl⟩ := patch_some (cs := C) (new := S.vals ρ vs) (off := i * es.length + j) (by rw [hvl]; omega)
          have hpg := patch_get hL
          rw [hvl] at hpg
          have hv3 := fitss_ok hp hd.2.facts k3
          have hml := (vlen_range ht).2
          simp only [CT.max?] at hml
          have hT : hasT (.sl m es) (.sro L 0 len true) = true := by
            refine mk_sro (by rw [hLl, hCl]) (by omega) fun r hr' => ?_
            have hold := cells_rows ht (i := r) (by omega)
            rw [hC] at hold
            have hro : r * es.length + es.length ≤ len * es.length := by
              have := Nat.mul_le_mul_right es.length (Nat.succ_le_of_lt hr')
              rwa [Nat.succ_mul] at this
            refine hasTs_mk (by simp; omega) fun u hu v hv => ?_
            rw [List.getElem?_take_of_lt hu, List.getElem?_drop, hpg] at hv
            split at hv
            · rename_i hin
              have hri : r = i := by
                rcases Nat.lt_trichotomy r i with hlt' | he | hgt
                · have := Nat.mul_le_mul_right es.length (Nat.succ_le_of_lt hlt'); rw [Nat.succ_mul] at this; omega
                · exact he
                · have := Nat.mul_le_mul_right es.length (Nat.succ_le_of_lt hgt); rw [Nat.succ_mul] at this; omega
              subst hri
              have := hasTs_get hv3 _ v hv
              rw [List.getD_eq_getElem?_getD, List.getElem?_take_of_lt (by omega), List.getElem?_drop] at this
              rw [List.getD_eq_getElem?_getD]
              have e2 : j + (r * es.length + u - (r * es.length + j)) = u := by omega
              rw [e2] at this; exact this
            · refine hasTs_get hold u v ?_
              rw [List.getElem?_take_of_lt hu, List.getElem?_drop]; exact hv
          obtain ⟨ρ2, a2, n2, v2, d2, c2⟩ := fresh_ok hf c d hT fun ρ2 hag hx f hfm => by
            have hag' : Agree st.m.nv ρ ρ2 := by rw [← e]; exact hag
            have hpsc : p.sc st.m.nv = true := by have := (hs.2.chunk _ (getC_mem hg)).2; simpa [Chunk.sc] using this
            have hpv := P.val_agree hag' p hpsc
            have htv := Tm.val_agree hag' t htsc
            simp only [wFacts, List.mem_cons, List.mem_map, List.mem_range] at hfm
            rcases hfm with rfl | ⟨k, hk, rfl⟩
            · simp only [Fm.holds, Tm.val, hpv, hx, hlen]; rfl
            · split
              · rename_i kk a0 hvk
                simp only [Fm.holds]
                have hsv : S.sc st.m.nv (.it kk a0) = true := (S.scs_all _ _).1 hvs _ (List.mem_of_getElem? hvk)
                simp only [S.sc] at hsv
                rw [Tm.val_agree hag' a0 hsv]
                have := el_of_cells (ρ := ρ2) (p := .x st1.m.nv (.sl m es)) rfl (t := t) (i := i) (by rw [htv, hti]) (by rw [hx]; simp only [vlen]; omega) (c := j + k) (by omega)
                rw [hx, cellsOf_mk (by rw [hLl, hCl]), hpg, if_pos (by omega)] at this
                have e3 : i * es.length + (j + k) - (i * es.length + j) = k := by omega
                rw [e3, S.vals_eq, List.getElem?_map, hvk] at this
                simp only [Option.map_some, Option.some.injEq, S.val] at this
                simp only [Tm.val]
                rw [← this]; rfl
              · trivial
          obtain ⟨f1, f2, f3, f4⟩ := fresh_frame hf
          have hg2 : getC st2.m.chunks y = some (.buf p) := by rw [f4, w2]; exact hg
          have hqv : q.val ρ2 = .sro L 0 len true := v2
          have hqc : q.ct = .sl m es := by
            simp only [St.fresh, Option.map_eq_some_iff, Prod.mk.injEq] at hf
            obtain ⟨m2, _, _, hq⟩ := hf
            simp only [ofP, P.ct, S.pv.injEq] at hq
            rw [← hq]; rfl
          obtain ⟨d3, c3, n3⟩ := d2.2.set (o := .row L) c2.2 hg2 hm (by simp only [Chunk.holds, hqv, hqc, CT.size]; rw [cellsOf_mk (by rw [hLl, hCl])])
          have hag : Agree st.m.nv ρ ρ2 := by rw [← e]; exact a2
          have hysc := (hs.2.chunk _ (getC_mem hg)).1
          have hrid : rid ρ2 y = rid ρ y := rid_agree hag hysc
          obtain ⟨ob, g1, g2⟩ := hd.2.chunk _ (getC_mem hg)
          simp only [Chunk.holds, hc, CT.size, hC] at g2
          subst g2
          have hn : st.m.nv ≤ m'.nv := by omega
          refine ⟨ρ2, fr, h.set (rid ρ y) (.row L), hag, hn, ?_, ⟨⟨d2.1.vals, d2.1.boxes, d2.1.defers, d2.1.rc⟩, by rw [← hrid]; exact d3⟩, ⟨?_, c3⟩⟩
          · simp only at g1
            simp only [writeAt, g1]
            rw [hoff, hc]; simp only [CT.size]
            rw [hL]; rfl
          · have := c2.1
            rw [← n3] at this
            exact ⟨this.vals, this.boxes, this.rc⟩
        · cases hr
      · cases hr
    · cases hr
  · cases hr

def sWrite (pr : Prover) (st : St) (x : S) (vs : List S) : Option St :=
  match x with
  | .loc u o => match st.boxes.get u with
    | some cells => match writeTab pr st cells o vs with
      | some (st1, cs) => st1.setBox u cs
      | none => none
    | none => none
  | .cell y o => match getC st.m.chunks y with
    | some (.row cells) => match writeTab pr st cells o vs with
      | some (st1, cs) => (st1.m.set y (.row cs)).map fun m => { st1 with m := m }
      | none => none
    | some (.buf p) => match o with
      | .at k => if 0 < p.ct.size then sWriteBuf pr st y p (.lit ((k / p.ct.size : Nat) : Int)) (k % p.ct.size) vs else none
      | .ix lo sz _ t j => if lo = 0 ∧ sz = p.ct.size ∧ t.sc st.m.nv = true then sWriteBuf pr st y p t j vs else none
    | _ => none
  | _ => none
theorem sWrite_ok (hp : PrOk pr) {x : S} {vs : List S} (hr : sWrite pr st x vs = some st') (hd : Den h0 F ρ st fr h) (hs : st.Sc) (hvs : S.scs st.m.nv vs = true) :
    WriteOk h0 F ρ st fr h (x.val ρ) (S.vals ρ vs) st' := by
  unfold sWrite at hr
  split at hr
  · rename_i u o
    split at hr
    · rename_i cells hb
      split at hr
      · rename_i st1 cs hw
        obtain ⟨L, ρ', h1, a, n, v, d, c, b2, m2, w2, r2⟩ := writeTab_ok hp hw hd hs (Al.get_sc hs hb) hvs
        obtain ⟨d3, c3, e3⟩ := setBox_ok hr d c
        refine ⟨ρ', _, h, a, by rw [e3]; exact n, ?_, d3, c3⟩
        simp only [S.val, writeAt, hd.1.boxes _ _ hb, Option.map_some, h1, v]
      · cases hr
    · cases hr
  · rename_i y o
    split at hr
    · rename_i cells hg
      split at hr
      · rename_i st1 cs hw
        simp only [Option.map_eq_some_iff] at hr
        obtain ⟨m', hm, rfl⟩ := hr
        have hy := hs.2.chunk _ (getC_mem hg)
        obtain ⟨L, ρ', h1, a, n, v, d, c, b2, m2, w2, r2⟩ := writeTab_ok hp hw hd hs (by simpa [Chunk.sc] using hy.2) hvs
        obtain ⟨ob, g1, g2⟩ := hd.2.chunk _ (getC_mem hg)
        simp only [Chunk.holds] at g2
        subst g2
        have hg2 : getC st1.m.chunks y = some (.row cells) := by rw [m2]; exact hg
        obtain ⟨d3, c3, n3⟩ := d.2.set (o := .row L) c.2 hg2 hm (by simp only [Chunk.holds, v])
        have hrid : rid ρ' y = rid ρ y := rid_agree a hy.1
        refine ⟨ρ', fr, h.set (rid ρ y) (.row L), a, (show st.m.nv ≤ m'.nv by omega), ?_, ⟨⟨d.1.vals, d.1.boxes, d.1.defers, d.1.rc⟩, by rw [← hrid]; exact d3⟩, ⟨?_, c3⟩⟩
        · simp only at g1
          simp only [S.val, writeAt, g1, h1, Option.map_some]
        · have := c.1
          rw [← n3] at this
          exact ⟨this.vals, this.boxes, this.rc⟩
      · cases hr
    · rename_i p hg
      split at hr
      · rename_i k
        split at hr
        · refine sWriteBuf_ok hp hr hg hd hs (by simp only [Tm.sc]) hvs ?_
          simp only [Off.val, Tm.val, Int.toNat_natCast]
          rw [Nat.mul_comm]; exact (Nat.div_add_mod k _).symm
        · cases hr
      · rename_i lo sz cnt t j
        split at hr
        · rename_i hk
          refine sWriteBuf_ok hp hr hg hd hs hk.2.2 hvs ?_
          simp only [Off.val, hk.1, hk.2.1]; omega
        · cases hr
    · cases hr
  · cases hr

def sStale (t : Nat) : S → S
  | .loc u o => if u = t then .junk else .loc u o
  | s => s
theorem sStale_val (ρ : Rho) (t : Nat) (s : S) : (sStale t s).val ρ = staleLoc t (s.val ρ) := by
  have key : ∀ v : V, v.isLoc = false → staleLoc t v = v := fun v hv => by cases v <;> simp_all [staleLoc, V.isLoc]
  cases s
  case loc u o => simp only [sStale, S.val, staleLoc]; split <;> rfl
  all_goals simp only [sStale]; rw [key _ (by rw [S.isLoc_val]; rfl)]
theorem sStale_sc {n : Nat} (t : Nat) {s : S} (hs : s.sc n = true) : (sStale t s).sc n = true := by
  cases s <;> simp only [sStale] <;> try exact hs
  split
  · simp only [S.sc]
  · exact hs
def sBox (E : Env) (fid : FuncId) (st : St) (d : Option Tmp) (cs : List S) : Option (St × S) :=
  if S.flats cs then
    match d with
    | some t => if E.isLocal fid t then
        ((St.setBox st t cs).map fun st1 => ({ st1 with vals := mapAl (sStale t) st1.vals }, .loc t (.at 0)))
      else (st.m.new (.row cs)).map fun m => ({ st with m := m }, .cell st.m.nv (.at 0))
    | none => none
  else none
theorem sBox_ok {d : Option Tmp} {cs : List S} (hr : sBox E fid st d cs = some (st', s)) (hd : Den h0 F ρ st fr h) (hs : st.Sc) :
    ∃ ρ' fr' h', Agree st.m.nv ρ ρ' ∧ st.m.nv ≤ st'.m.nv ∧ newBox E fid fr h d (S.vals ρ cs) = some (.val (s.val ρ') fr' h') ∧ Den h0 F ρ' st' fr' h' ∧ st'.Sc := by
  unfold sBox at hr
  split at hr
  · rename_i hf
    split at hr
    · rename_i t
      split at hr
      · rename_i hl
        simp only [Option.map_eq_some_iff, Prod.mk.injEq] at hr
        obtain ⟨st1, h1, rfl, rfl⟩ := hr
        obtain ⟨d1, c1, e1⟩ := setBox_ok h1 hd hs
        refine ⟨ρ, { fr with boxes := fr.boxes.put t (S.vals ρ cs), vals := fr.vals.map fun p => (p.1, staleLoc t p.2) }, h, Agree.refl _ _, (show st.m.nv ≤ st1.m.nv by rw [e1]; exact Nat.le_refl _), ?_, ⟨⟨?_, d1.1.boxes, d1.1.defers, d1.1.rc⟩, d1.2⟩, ⟨⟨fun q hq => ?_, c1.1.boxes, c1.1.rc⟩, c1.2⟩⟩
        · simp only [newBox, S.flats_val ρ cs hf, if_true, hl, S.val, Off.val]
        · intro k x hk
          rw [mapAl_get] at hk
          cases hk1 : st1.vals.get k with
          | none => simp [hk1] at hk
          | some x0 =>
            simp only [hk1, Option.map_some, Option.some.injEq] at hk
            subst hk
            have := d1.1.vals k x0 hk1
            simp only at this
            rw [sStale_val]
            have e := mapAl_get (staleLoc t) fr.vals k
            rw [this] at e
            exact e
        · simp only [mapAl, List.mem_map] at hq
          obtain ⟨q', hq', rfl⟩ := hq
          exact sStale_sc t (c1.1.vals q' hq')
      · rename_i hl
        simp only [Option.map_eq_some_iff, Prod.mk.injEq] at hr
        obtain ⟨m, hm, rfl, rfl⟩ := hr
        obtain ⟨d1, c1, e1, r1⟩ := hd.2.new (o := .row (S.vals ρ cs)) hs.2 hm (by simp only [Chunk.holds])
        have ha := agree_set ρ st.m.nv (.mp h.next)
        have hfd := hd.1.agree hs.1 ha
        refine ⟨_, fr, _, ha, (show st.m.nv ≤ m.nv by omega), ?_, ⟨⟨hfd.vals, hfd.boxes, hfd.defers, hfd.rc⟩, d1⟩, ⟨?_, c1⟩⟩
        · simp only [newBox, S.flats_val ρ cs hf, if_true, hl, Bool.false_eq_true, if_false, S.val, Off.val, r1]
        · have := hs.1.mono (show st.m.nv ≤ m.nv by omega)
          exact ⟨this.vals, this.boxes, this.rc⟩
    · cases hr
  · cases hr
end Go.Abs.Sx
namespace Go.Abs.Sx
variable {E : Env} {fid : FuncId} {o : Oper} {h0 : Heap} {F : Nat → Prop} {ρ : Rho} {st st' : St} {fr : Fr} {h : Heap} {s : S} {pr : Prover}

def leP (pr : Prover) (facts : List Fm) (a b : Tm) : Bool :=
  match a, b with
  | .lit x, .lit y => decide (x ≤ y)
  | a, b => Tm.beq a b || known facts (.le a b) == some true || pr true facts (.le a b)
theorem leP_ok (hp : PrOk pr) {facts : List Fm} (hf : ∀ f ∈ facts, f.holds ρ) {a b : Tm} (h : leP pr facts a b = true) : a.val ρ ≤ b.val ρ := by
  unfold leP at h
  split at h
  · simpa [Tm.val] using h
  · simp only [Bool.or_eq_true, beq_iff_eq] at h
    rcases h with (h | h) | h
    · rw [Tm.beq_eq _ _ h]; exact Int.le_refl _
    · exact known_true hf h
    · exact hp _ _ _ h ρ hf

def RowsT (es : List CT) (A : List V) (n : Nat) : Prop := A.length = n * es.length ∧ ∀ i, i < n → hasTs es ((A.drop (i * es.length)).take es.length) = true
theorem RowsT.append {es : List CT} {A B : List V} {n m : Nat} (ha : RowsT es A n) (hb : RowsT es B m) : RowsT es (A ++ B) (n + m) := by
  refine ⟨by rw [List.length_append, ha.1, hb.1, Nat.add_mul], fun i hi => ?_⟩
  by_cases h1 : i < n
  · have := ha.2 i h1
    have hl : i * es.length + es.length ≤ n * es.length := by
      have := Nat.mul_le_mul_right es.length (Nat.succ_le_of_lt h1); rwa [Nat.succ_mul] at this
    rw [List.drop_append_of_le_length (by rw [ha.1]; omega), List.take_append_of_le_length (by simp; rw [ha.1]; omega)]
    exact this
  · have := hb.2 (i - n) (by omega)
    have e : i * es.length = A.length + (i - n) * es.length := by
      rw [ha.1, ← Nat.add_mul]; congr 1; omega
    rw [e, List.drop_append, List.drop_eq_nil_of_le (by omega), List.nil_append, Nat.add_sub_cancel_left]; exact this
theorem RowsT.typed {es : List CT} {A : List V} {n m : Nat} (ha : RowsT es A n) (hm : n ≤ m) : hasT (.sl m es) (.sro A 0 n true) = true := mk_sro ha.1 hm ha.2

def srcLen (pr : Prover) (st : St) (es : List CT) (s : S) : Option Tm :=
  match s with
  | .nils => some (.lit 0)
  | .row cs off len _ => if off + len * es.length ≤ cs.length ∧ ((List.range len).all fun i => fitss pr st.m.facts es ((cs.drop (off + i * es.length)).take es.length)) = true then some (.lit len) else none
  | .pv p => match p.ct with
    | .sl _ fs => if CT.beqs fs es then some (.len p) else none
    | _ => none
  | .buf y off len sz _ => match getC st.m.chunks y with
    | some (.buf p) => match p.ct with
      | .sl _ fs => if CT.beqs fs es && sz == es.length && tNN pr st.m.facts off && tNN pr st.m.facts len && leP pr st.m.facts (tAdd off len) (.len p) then some len else none
      | _ => none
    | _ => none
  | _ => none
mutual
def P.nobd : P → Bool
  | .el p t _ => p.nobd && t.nobd
  | _ => true
def Tm.nobd : Tm → Bool
  | .bd _ => false
  | .lit _ => true
  | .iv p | .len p => p.nobd
  | .add a b | .sub a b | .mul a b | .mx a b | .mn a b => a.nobd && b.nobd
  | .wrap _ a => a.nobd
end
mutual
theorem P.val_nobd {ρ ρ' : Rho} (h : ρ'.σ = ρ.σ) : ∀ (p : P), p.nobd = true → p.val ρ' = p.val ρ
  | .x m c, _ => by simp only [P.val, h]
  | .el p t j, hs => by simp only [P.nobd, Bool.and_eq_true] at hs; simp only [P.val, P.val_nobd h p hs.1, Tm.val_nobd h t hs.2]
  | .z c, _ => by simp only [P.val]
  | .ks m s, _ => by simp only [P.val]
theorem Tm.val_nobd {ρ ρ' : Rho} (h : ρ'.σ = ρ.σ) : ∀ (t : Tm), t.nobd = true → t.val ρ' = t.val ρ
  | .lit z, _ => by simp only [Tm.val]
  | .bd m, hs => by simp [Tm.nobd] at hs
  | .iv p, hs => by simp only [Tm.nobd] at hs; simp only [Tm.val, P.val_nobd h p hs]
  | .len p, hs => by simp only [Tm.nobd] at hs; simp only [Tm.val, P.val_nobd h p hs]
  | .add a b, hs | .sub a b, hs | .mul a b, hs | .mx a b, hs | .mn a b, hs => by
    simp only [Tm.nobd, Bool.and_eq_true] at hs; simp only [Tm.val, Tm.val_nobd h a hs.1, Tm.val_nobd h b hs.2]
  | .wrap k a, hs => by simp only [Tm.nobd] at hs; simp only [Tm.val, Tm.val_nobd h a hs]
end
def srcEl (st : St) (s : S) (i : Tm) (c : Nat) : Option Tm :=
  match s with
  | .pv p => if p.nobd then some (.iv (.el p i c)) else none
  | .buf y off _ _ _ => match getC st.m.chunks y with
    | some (.buf p) => if p.nobd && off.nobd then some (.iv (.el p (tAdd i off) c)) else none
    | _ => none
  | _ => none
def isI : Option CT → Bool
  | some (.i _) => true
  | _ => false
theorem cells_el {p : P} {m : Nat} {es : List CT} (hc : p.ct = .sl m es) {t : Tm} {i : Nat} (hi : t.val ρ = i) (hlt : (i : Int) < vlen (p.val ρ)) {c : Nat} (hcl : c < es.length) {v : V} (hv : (cellsOf es.length (p.val ρ))[i * es.length + c]? = some v) :
    v = (P.el p t c).val ρ := by
  have := el_of_cells hc hi hlt hcl
  rw [hv] at this; exact Option.some.inj this
structure Src (ρ : Rho) (h : Heap) (es : List CT) (v : V) (n : Nat) (A : List V) : Prop where
  len : sliceLen v = some n
  cells : sliceCells h es.length v = some A
  rows : RowsT es A n
theorem srcLen_ok (hp : PrOk pr) {es : List CT} {x : S} {t : Tm} (hr : srcLen pr st es x = some t) (hd : Den h0 F ρ st fr h) (hs : st.Sc) :
    ∃ n A, Src ρ h es (x.val ρ) n A ∧ t.val ρ = n ∧ ∀ (i : Tm) (k c : Nat) (e : Tm), srcEl st x i c = some e → k < n → c < es.length → ∀ v, A[k * es.length + c]? = some v → ∀ ρ2 : Rho, ρ2.σ = ρ.σ → i.val ρ2 = k → vint v = e.val ρ2 := by
  unfold srcLen at hr
  split at hr
  · simp only [Option.some.injEq] at hr; subst hr
    exact ⟨0, [], ⟨rfl, rfl, by simp [RowsT]⟩, by simp [Tm.val], fun i k c e h1 => by simp [srcEl] at h1⟩
  · rename_i cs off len full
    split at hr
    · rename_i hk
      obtain ⟨k1, k2⟩ := hk
      simp only [Option.some.injEq] at hr; subst hr
      simp only [List.all_eq_true, List.mem_range] at k2
      have hsub : sub (S.vals ρ cs) off (len * es.length) = some (((S.vals ρ cs).drop off).take (len * es.length)) := by unfold sub; rw [if_pos (by rw [S.vals_length]; exact k1)]
      refine ⟨len, _, ⟨rfl, by simp only [S.val, sliceCells]; exact hsub, by simp [S.vals_length]; omega, fun i hi => ?_⟩, by simp [Tm.val], fun i k c e h1 => by simp [srcEl] at h1⟩
      have := fitss_ok hp hd.2.facts (k2 i hi)
      rw [S.vals_eq, List.map_take, List.map_drop] at this
      have hl : i * es.length + es.length ≤ len * es.length := by
        have := Nat.mul_le_mul_right es.length (Nat.succ_le_of_lt hi); rwa [Nat.succ_mul] at this
      rw [List.drop_take, List.take_take, List.drop_drop, Nat.min_eq_left (by omega), S.vals_eq]
      exact this
    · cases hr
  · rename_i p
    split at hr
    · rename_i m fs hc
      split at hr
      · rename_i hb
        have := CT.beqs_eq _ _ hb; subst this
        simp only [Option.some.injEq] at hr; subst hr
        have ht := P.val_hasT ρ p
        rw [hc] at ht
        have hcl := cells_len ht
        obtain ⟨n, hn⟩ : ∃ n : Nat, vlen (p.val ρ) = n := ⟨(vlen (p.val ρ)).toNat, by have := (vlen_range ht).1; omega⟩
        rw [hn] at hcl
        refine ⟨n, cellsOf fs.length (p.val ρ), ⟨?_, ?_, by exact_mod_cast hcl, fun i hi => cells_rows ht (by omega)⟩, by simp only [Tm.val]; exact hn, fun i k c e h1 h3 h4 v hv ρ2 hρ h2 => ?_⟩
        · rcases sl_cases hc ρ with e | ⟨row, off, len, full, e⟩ <;> simp only [S.val, e, sliceLen, vlen] at hn ⊢ <;> congr 1 <;> omega
        · rcases sl_cases hc ρ with e | ⟨row, off, len, full, e⟩
          · simp only [S.val, e, sliceCells, cellsOf]
          · simp only [S.val, e, sliceCells, cellsOf]
            rw [e] at ht
            unfold sub; rw [if_pos (sro_typed ht).2.1]
        · simp only [srcEl] at h1
          split at h1
          · rename_i hnb
            simp only [Option.some.injEq] at h1; subst h1
            have ep := P.val_nobd hρ p hnb
            have := cells_el (ρ := ρ2) hc (i := k) h2 (by rw [ep]; omega) h4 (v := v) (by rw [ep]; exact hv)
            rw [this]; rfl
          · cases h1
      · cases hr
    · cases hr
  · rename_i y off len sz full
    split at hr
    · rename_i p hg
      split at hr
      · rename_i m fs hc
        split at hr
        · rename_i hb
          simp only [Bool.and_eq_true, beq_iff_eq] at hb
          obtain ⟨⟨⟨⟨hb, hsz⟩, hoff⟩, hlen⟩, hle⟩ := hb
          have := CT.beqs_eq _ _ hb; subst this
          simp only [Option.some.injEq] at hr; subst hr
          have ht := P.val_hasT ρ p
          rw [hc] at ht
          have hcl := cells_len ht
          obtain ⟨n0, hn⟩ : ∃ n : Nat, vlen (p.val ρ) = n := ⟨(vlen (p.val ρ)).toNat, by have := (vlen_range ht).1; omega⟩
          rw [hn] at hcl
          have h1 := tNN_ok hp hd.2.facts hoff
          have h2 := tNN_ok hp hd.2.facts hlen
          have h3 := leP_ok hp hd.2.facts hle
          rw [tAdd_val] at h3
          simp only [Tm.val] at h3
          obtain ⟨a, ha⟩ : ∃ a : Nat, off.val ρ = a := ⟨(off.val ρ).toNat, by omega⟩
          obtain ⟨b, hb'⟩ : ∃ b : Nat, len.val ρ = b := ⟨(len.val ρ).toNat, by omega⟩
          rw [ha, hb', hn] at h3
          obtain ⟨ob, g1, g2⟩ := hd.2.chunk _ (getC_mem hg)
          simp only [Chunk.holds, hc, CT.size] at g2
          subst g2
          generalize hC : cellsOf fs.length (p.val ρ) = C at *
          have hCl : C.length = n0 * fs.length := by exact_mod_cast hcl
          have hab : a * fs.length + b * fs.length ≤ n0 * fs.length := by rw [← Nat.add_mul]; exact Nat.mul_le_mul_right _ (by omega)
          refine ⟨b, (C.drop (a * fs.length)).take (b * fs.length), ⟨?_, ?_, ?_, fun i hi => ?_⟩, hb', fun i k c e e1 e3 e4 v hv ρ2 hρ e2 => ?_⟩
          · simp only [S.val, sliceLen, hb', Int.toNat_natCast]
          · simp only at g1
            simp only [S.val, sliceCells, hsz, if_true, g1, ha, hb', Int.toNat_natCast]
            unfold sub; rw [if_pos (by omega)]
          · simp; omega
          · have := cells_rows ht (i := a + i) (by omega)
            rw [hC] at this
            have hl : i * fs.length + fs.length ≤ b * fs.length := by
              have := Nat.mul_le_mul_right fs.length (Nat.succ_le_of_lt hi); rwa [Nat.succ_mul] at this
            rw [List.drop_take, List.take_take, List.drop_drop, Nat.min_eq_left (by omega), ← Nat.add_mul]
            exact this
          · simp only [srcEl, hg] at e1
            split at e1
            case isFalse => cases e1
            rename_i hnb
            simp only [Bool.and_eq_true] at hnb
            simp only [Option.some.injEq] at e1; subst e1
            have ep := P.val_nobd hρ p hnb.1
            have eo := Tm.val_nobd hρ off hnb.2
            have hkl : k * fs.length + c < b * fs.length := idx_lt e3 e4
            rw [List.getElem?_take_of_lt hkl, List.getElem?_drop] at hv
            have e5 : a * fs.length + (k * fs.length + c) = (k + a) * fs.length + c := by rw [Nat.add_mul]; omega
            rw [e5, ← hC] at hv
            have := cells_el (ρ := ρ2) hc (t := tAdd i off) (i := k + a) (by rw [tAdd_val, e2, eo, ha]; rfl) (by rw [ep]; omega) e4 (by rw [ep]; exact hv)
            rw [this]; rfl
        · cases hr
      · cases hr
    · cases hr
  · cases hr

def maxRows (bytes : Nat) : Nat := 140737488355328 / max 1 bytes
def intCols (es : List CT) : List Nat := (List.range es.length).filter fun c => isI es[c]?
def appFacts (st : St) (es : List CT) (a b : S) (n m : Tm) (q : P) : List Fm :=
  .eq (.len q) (.add n m) :: if !(n.nobd && m.nobd) then [] else
    ((intCols es).map (fun c => match srcEl st a (.bd 0) c with | some e => Fm.all 0 n (.eq (.iv (.el q (.bd 0) c)) e) | none => Fm.tt) ++
     (intCols es).map (fun c => match srcEl st b (.bd 0) c with | some e => Fm.all 0 m (.eq (.iv (.el q (tAdd n (.bd 0)) c)) e) | none => Fm.tt) ++
     (match b with
      | .row cs off len _ => (List.range len).flatMap fun r => (intCols es).map fun c => match (cs[off + r * es.length + c]? : Option S) with | some (S.it _ e) => Fm.eq (.iv (.el q (tAdd n (.lit r)) c)) e | _ => Fm.tt
      | _ => []))

theorem MDen.weaken {m m' : Mem} {x : Nat} {c c' : Chunk} (hd : MDen h0 F ρ m h) (hs : m.Sc) (hg : getC m.chunks x = some c) (hm : m.set x c' = some m') (ho : ∀ o, c.holds ρ o → c'.holds ρ o) :
    MDen h0 F ρ m' h ∧ m'.Sc ∧ m'.nv = m.nv := by
  unfold Mem.set at hm
  split at hm
  · rename_i h1
    simp only [Option.some.injEq] at hm; subst hm
    obtain ⟨o1, hx, ho1⟩ := hd.chunk (x, c) (getC_mem hg)
    refine ⟨⟨fun q hq => ?_, ?_, hd.facts, hd.next, hd.frame, fun q hq => ?_⟩, ⟨fun q hq => ?_, hs.facts⟩, rfl⟩
    · rcases setC_other hd.dist hg hq with rfl | ⟨hq, hne⟩
      · exact ⟨o1, hx, ho o1 ho1⟩
      · exact hd.chunk q hq
    · have hk := hd.dist
      have e1 : ∀ l : List (Nat × Chunk), (l.Pairwise fun a b => rid ρ a.1 ≠ rid ρ b.1) ↔ ((l.map (·.1)).Pairwise fun a b => rid ρ a ≠ rid ρ b) := fun l => by rw [List.pairwise_map]
      rw [e1] at hk ⊢
      simp only [setC_keys]; exact hk
    · rcases setC_mem hq with rfl | hq
      · exact hd.own (x, c) (getC_mem hg)
      · exact hd.own q hq
    · rcases setC_mem hq with rfl | hq
      · exact ⟨(hs.chunk (x, c) (getC_mem hg)).1, h1⟩
      · exact hs.chunk q hq
  · cases hm

def mkBuf (st : St) (es : List CT) (M : Nat) (fs : P → List Fm) : Option (St × Nat) :=
  match st.fresh (.sl M es) fs with
  | some (st1, .pv q) => (st1.m.new (.buf q)).map fun m => ({ st1 with m := m }, st1.m.nv)
  | _ => none
theorem mkBuf_ok {es : List CT} {M : Nat} {fs : P → List Fm} {x : Nat} (hr : mkBuf st es M fs = some (st', x)) (hd : Den h0 F ρ st fr h) (hs : st.Sc) {L : List V} {n : Nat} (hL : RowsT es L n) (hn : n ≤ M)
    (hf : ∀ ρ' q, Agree st.m.nv ρ ρ' → q.ct = .sl M es → q.nobd = true → q.val ρ' = .sro L 0 n true → ∀ f ∈ fs q, f.holds ρ') :
    ∃ ρ', Agree st.m.nv ρ ρ' ∧ st.m.nv ≤ st'.m.nv ∧ rid ρ' x = h.next ∧ x < st'.m.nv ∧ Den h0 F ρ' st' fr (h.alloc (.row L)) ∧ st'.Sc := by
  unfold mkBuf at hr
  split at hr
  · rename_i st1 q h1
    simp only [Option.map_eq_some_iff, Prod.mk.injEq] at hr
    obtain ⟨m, hm, rfl, rfl⟩ := hr
    obtain ⟨ρ1, a1, n1, v1, d1, c1⟩ := fresh_ok h1 hd hs (hL.typed hn) fun ρ' ha hx => hf ρ' _ ha rfl (by simp only [P.nobd]) hx
    have hqc : q.ct = .sl M es := by
      simp only [St.fresh, Option.map_eq_some_iff, Prod.mk.injEq] at h1
      obtain ⟨m2, _, _, hq⟩ := h1
      simp only [ofP, P.ct, S.pv.injEq] at hq
      rw [← hq]; rfl
    have hqv : q.val ρ1 = .sro L 0 n true := v1
    obtain ⟨d2, c2, n2, r2⟩ := d1.2.new (o := .row L) c1.2 hm (by simp only [Chunk.holds, hqv, hqc, CT.size]; rw [cellsOf_mk hL.1])
    have a2 := agree_set ρ1 st1.m.nv (.mp h.next)
    have f2 := d1.1.agree c1.1 a2
    refine ⟨_, a1.trans a2 (by omega), (show st.m.nv ≤ m.nv by omega), r2, (show st1.m.nv < m.nv by omega), ⟨⟨f2.vals, f2.boxes, f2.defers, f2.rc⟩, d2⟩, ⟨?_, c2⟩⟩
    have := c1.1.mono (show st1.m.nv ≤ m.nv by omega)
    exact ⟨this.vals, this.boxes, this.rc⟩
  · cases hr

def bigS : Nat := 4611686018427387904
def widen : CT → CT
  | .s _ => .s bigS
  | c => c
def esOf (st : St) (sz : Nat) (s : S) : Option (List CT) :=
  match s with
  | .pv p => match p.ct with | .sl _ es => some es | _ => none
  | .buf y _ _ _ _ => match getC st.m.chunks y with
    | some (.buf p) => match p.ct with | .sl _ es => some es | _ => none
    | _ => none
  | .row cs off len _ => if 0 < len then (ctsOf ((cs.drop off).take sz)).map fun l => l.map widen else none
  | _ => none
def appKill (st : St) (a : S) : Option St :=
  match a with
  | .nils => some st
  | .row _ _ _ true => some st
  | .buf _ _ _ _ .tt => some st
  | .buf y _ _ _ _ => match getC st.m.chunks y with
    | some _ => (st.m.set y .dead).map fun m => { st with m := m }
    | none => none
  | _ => none
def appMax (pr : Prover) (facts : List Fm) (bytes : Nat) (t : Tm) : Nat := if leP pr facts t (.lit 1073741824) then 1073741824 else maxRows bytes
def sApp (pr : Prover) (st : St) (sz bytes : Nat) (es : List CT) (a b : S) (n m : Tm) : Option (St × S) :=
  if sz = es.length ∧ leP pr st.m.facts (tAdd n m) (.lit (maxRows bytes)) = true then
    match appKill st a with
    | some st1 => match mkBuf st1 es (appMax pr st.m.facts bytes (tAdd n m)) (appFacts st es a b n m) with
      | some (st2, x) => some (st2, .buf x (.lit 0) (tAdd n m) sz .ff)
      | none => none
    | none => none
  else none
def sAppend (pr : Prover) (st : St) (sz bytes : Nat) (a b : S) : Option (List (St × S)) :=
  match (esOf st sz a).or (esOf st sz b) with
  | none => match b with
    | .nils => some [(st, a)]
    | _ => none
  | some es =>
    match srcLen pr st es a, srcLen pr st es b with
    | some n, some m =>
      match m with
      | .lit z => if z = 0 then some [(st, a)] else (sApp pr st sz bytes es a b n m).map fun r => [r]
      | m =>
        if pr false st.m.facts (.le (.lit 1) m) then (sApp pr st sz bytes es a b n m).map fun r => [r]
        else match st.m.fact (.eq m (.lit 0)), st.m.fact (.le (.lit 1) m) with
          | some m0, some m1 => match srcLen pr { st with m := m1 } es a, srcLen pr { st with m := m1 } es b with
            | some n', some m' => match sApp pr { st with m := m1 } sz bytes es a b n' m' with
              | some r => some [({ st with m := m0 }, a), r]
              | none => none
            | _, _ => none
          | _, _ => none
    | _, _ => none

theorem maxRows_mul {n b : Nat} (h : n ≤ maxRows b) : n * b ≤ 140737488355328 ∧ n ≤ 140737488355328 := by
  unfold maxRows at h
  have h1 : n * max 1 b ≤ 140737488355328 := by
    have := Nat.mul_le_mul_right (max 1 b) h
    exact Nat.le_trans this (Nat.div_mul_le_self _ _)
  have h2 : n * b ≤ n * max 1 b := Nat.mul_le_mul_left n (by omega)
  have h3 : n * 1 ≤ n * max 1 b := Nat.mul_le_mul_left n (by omega)
  omega
theorem Src.get {es : List CT} {v : V} {n : Nat} {A : List V} (hS : Src ρ h es v n A) {k c : Nat} (hk : k < n) (hc : c < es.length) : ∃ w, A[k * es.length + c]? = some w ∧ hasT (es.getD c .b) w = true := by
  have hl := hS.rows.1
  have := idx_lt hk hc
  have hlt : k * es.length + c < A.length := by omega
  refine ⟨A[k * es.length + c], List.getElem?_eq_getElem hlt, ?_⟩
  have h2 := hS.rows.2 k hk
  refine hasTs_get h2 c _ ?_
  rw [List.getElem?_take_of_lt hc, List.getElem?_drop, List.getElem?_eq_getElem hlt]
theorem el_sro {q : P} {M : Nat} {es : List CT} (hc : q.ct = .sl M es) {L : List V} {N : Nat} {ρ2 : Rho} (hq : q.val ρ2 = .sro L 0 N true) {t : Tm} {k c : Nat} (ht : t.val ρ2 = k) (hk : k < N) (hcl : c < es.length) :
    L[k * es.length + c]? = some ((P.el q t c).val ρ2) := by
  have := el_val hc hq ht hk hcl
  rwa [Nat.zero_add] at this
theorem intCols_mem {es : List CT} {c : Nat} (h : c ∈ intCols es) : c < es.length := by
  simp only [intCols, List.mem_filter, List.mem_range] at h; exact h.1
theorem appFacts_ok {es : List CT} {a b : S} {n m : Tm} {k l : Nat} {A B : List V} {ρ' : Rho} {q : P}
    (hA : Src ρ h es (a.val ρ) k A) (hB : Src ρ h es (b.val ρ) l B) (hn : n.val ρ = k) (hm : m.val ρ = l)
    (eA : ∀ (i : Tm) (k' c : Nat) (e : Tm), srcEl st a i c = some e → k' < k → c < es.length → ∀ v, A[k' * es.length + c]? = some v → ∀ ρ2 : Rho, ρ2.σ = ρ.σ → i.val ρ2 = k' → vint v = e.val ρ2)
    (eB : ∀ (i : Tm) (k' c : Nat) (e : Tm), srcEl st b i c = some e → k' < l → c < es.length → ∀ v, B[k' * es.length + c]? = some v → ∀ ρ2 : Rho, ρ2.σ = ρ.σ → i.val ρ2 = k' → vint v = e.val ρ2)
    (hag : Agree st.m.nv ρ ρ') (hs : st.Sc) (hnsc : n.sc st.m.nv = true) (hmsc : m.sc st.m.nv = true) (hasc : a.sc st.m.nv = true) (hbsc : b.sc st.m.nv = true)
    {M : Nat} (hqc : q.ct = .sl M es) (hqv : q.val ρ' = .sro (A ++ B) 0 (k + l) true) (hqn : q.nobd = true) : ∀ f ∈ appFacts st es a b n m q, f.holds ρ' := by
  have hn' : n.val ρ' = k := by rw [Tm.val_agree hag n hnsc]; exact hn
  have hm' : m.val ρ' = l := by rw [Tm.val_agree hag m hmsc]; exact hm
  have hAl := hA.rows.1
  have esc : ∀ (x : S) (i : Tm) (c : Nat) (e : Tm), x.sc st.m.nv = true → (∀ z, i.sc z = true) → srcEl st x i c = some e → e.sc st.m.nv = true := fun x i c e hx hi he => by
    cases x <;> simp only [srcEl, reduceCtorEq] at he
    · split at he
      · simp only [Option.some.injEq] at he; subst he; simp only [S.sc] at hx; simp only [Tm.sc, P.sc, hx, hi, Bool.and_self]
      · cases he
    · split at he
      · rename_i p hg
        split at he
        · simp only [Option.some.injEq] at he; subst he
          have h1 := (hs.2.chunk _ (getC_mem hg)).2
          simp only [Chunk.sc] at h1
          simp only [S.sc, Bool.and_eq_true] at hx
          have : ∀ u v : Tm, u.sc st.m.nv = true → v.sc st.m.nv = true → (tAdd u v).sc st.m.nv = true := fun u v hu hv => by
            unfold tAdd
            split
            · simp only [Tm.sc]
            · split
              · exact hu
              · split
                · split
                  · simp only [Tm.sc, Bool.and_eq_true] at hu; exact hu.1
                  · simp only [Tm.sc, Bool.and_eq_true] at hu ⊢; exact ⟨hu.1, trivial⟩
                · simp only [Tm.sc, hu, Bool.and_self]
            · simp only [Tm.sc, hv, Bool.and_self]
            · simp only [Tm.sc, hu, hv, Bool.and_self]
          simp only [Tm.sc, P.sc, h1, this _ _ (hi _) hx.1.1.2, Bool.and_self]
        · cases he
      · cases he
  intro f hf
  simp only [appFacts, List.mem_cons] at hf
  rcases hf with rfl | hf
  · simp only [Fm.holds, Tm.val, hqv, vlen, hn', hm']; omega
  · split at hf
    · simp at hf
    · rename_i hnb
      have hnb' : n.nobd = true ∧ m.nobd = true := by
        cases h1 : n.nobd <;> cases h2 : m.nobd <;> simp_all
      -- under a bound number
      have qb : ∀ i : Int, q.val (ρ'.bind 0 i) = .sro (A ++ B) 0 (k + l) true := fun i => by rw [P.val_nobd (ρ := ρ') (ρ' := ρ'.bind 0 i) rfl q hqn]; exact hqv
      have nb : ∀ i : Int, n.val (ρ'.bind 0 i) = k := fun i => by rw [Tm.val_nobd (ρ := ρ') (ρ' := ρ'.bind 0 i) rfl n hnb'.1]; exact hn'
      have mb : ∀ i : Int, m.val (ρ'.bind 0 i) = l := fun i => by rw [Tm.val_nobd (ρ := ρ') (ρ' := ρ'.bind 0 i) rfl m hnb'.2]; exact hm'
      have bd0 : ∀ (z : Rho) (i : Int), (Tm.bd 0).val (z.bind 0 i) = i := fun z i => by simp [Tm.val, Rho.bind]
      simp only [List.mem_append, List.mem_map] at hf
      rcases hf with (⟨c, hc, rfl⟩ | ⟨c, hc, rfl⟩) | hf
      · have hcl := intCols_mem hc
        split
        · rename_i e he
          intro i hi0 hi1
          rw [hn'] at hi1
          obtain ⟨w, hw, _⟩ := hA.get (k := i.toNat) (by omega) hcl
          have hag2 := hag.bind 0 i
          simp only [Fm.holds]
          rw [Tm.val_agree hag2 e (esc a _ c e hasc (fun z => by simp only [Tm.sc]) he)]
          have e1 := eA _ _ _ _ he (by omega) hcl w hw (ρ.bind 0 i) rfl (by rw [bd0]; omega)
          rw [← e1]
          have e2 := el_sro hqc (qb i) (t := .bd 0) (k := i.toNat) (c := c) (by rw [bd0]; omega) (by omega) hcl
          have hlt : i.toNat * es.length + c < A.length := by have := idx_lt (show i.toNat < k by omega) hcl; omega
          rw [List.getElem?_append_left hlt, hw] at e2
          simp only [Option.some.injEq] at e2
          simp only [Tm.val]; rw [← e2]
        · trivial
      · have hcl := intCols_mem hc
        split
        · rename_i e he
          intro i hi0 hi1
          rw [hm'] at hi1
          obtain ⟨w, hw, _⟩ := hB.get (k := i.toNat) (by omega) hcl
          have hag2 := hag.bind 0 i
          simp only [Fm.holds]
          rw [Tm.val_agree hag2 e (esc b _ c e hbsc (fun z => by simp only [Tm.sc]) he)]
          have e1 := eB _ _ _ _ he (by omega) hcl w hw (ρ.bind 0 i) rfl (by rw [bd0]; omega)
          rw [← e1]
          have e2 := el_sro hqc (qb i) (t := tAdd n (.bd 0)) (k := k + i.toNat) (c := c) (by rw [tAdd_val, bd0, nb]; omega) (by omega) hcl
          have e3 : (k + i.toNat) * es.length + c - A.length = i.toNat * es.length + c := by rw [Nat.add_mul, hAl]; omega
          rw [List.getElem?_append_right (by rw [Nat.add_mul, hAl]; omega), e3, hw] at e2
          simp only [Option.some.injEq] at e2
          simp only [Tm.val]; rw [← e2]
        · trivial
      · split at hf
        · rename_i cs off len full
          simp only [List.mem_flatMap, List.mem_range, List.mem_map] at hf
          obtain ⟨r, hr, c, hc, rfl⟩ := hf
          have hcl := intCols_mem hc
          split
          · rename_i kk e he
            have hBl := hB.len
            simp only [S.val, sliceLen, Option.some.injEq] at hBl
            subst hBl
            have hBc := hB.cells
            simp only [S.val, sliceCells] at hBc
            unfold sub at hBc
            split at hBc
            · simp only [Option.some.injEq] at hBc
              have e4 : B[r * es.length + c]? = some (.int kk (e.val ρ)) := by
                rw [← hBc, List.getElem?_take_of_lt (idx_lt hr hcl), List.getElem?_drop, S.vals_eq, List.getElem?_map, ← Nat.add_assoc, he]; rfl
              have e2 := el_sro hqc hqv (t := tAdd n (.lit r)) (k := k + r) (c := c) (by rw [tAdd_val, hn']; simp only [Tm.val]; omega) (by omega) hcl
              have e3 : (k + r) * es.length + c - A.length = r * es.length + c := by rw [Nat.add_mul, hAl]; omega
              rw [List.getElem?_append_right (by rw [Nat.add_mul, hAl]; omega), e3, e4] at e2
              simp only [Option.some.injEq] at e2
              have hesc : e.sc st.m.nv = true := by
                simp only [S.sc] at hbsc
                have := (S.scs_all _ _).1 hbsc _ (List.mem_of_getElem? he)
                simpa [S.sc] using this
              simp only [Fm.holds]
              rw [Tm.val_agree hag e hesc]
              simp only [Tm.val]; rw [← e2]; rfl
            · cases hBc
          · trivial
        · simp at hf
end Go.Abs.Sx
namespace Go.Abs.Sx
variable {E : Env} {fid : FuncId} {o : Oper} {h0 : Heap} {F : Nat → Prop} {ρ : Rho} {st st' : St} {fr : Fr} {h : Heap} {s : S} {pr : Prover}

def HeapOk (res : Option (V × Heap)) (h0 : Heap) (F : Nat → Prop) (ρ : Rho) (st : St) (fr : Fr) (st' : St) (s : S) : Prop :=
  ∃ ρ' h', Agree st.m.nv ρ ρ' ∧ st.m.nv ≤ st'.m.nv ∧ res = some (s.val ρ', h') ∧ Den h0 F ρ' st' fr h' ∧ st'.Sc
theorem HeapOk.op {res : Option (V × Heap)} (hr : HeapOk res h0 F ρ st fr st' s) (hstep : ∀ r, res = some r → stepOp E fid fr h o = some (.val r.1 fr r.2)) : OpOk E fid o h0 F ρ st fr h st' s := by
  obtain ⟨ρ', h', a, n, e, d, c⟩ := hr
  exact ⟨ρ', fr, h', a, n, hstep _ e, d, c⟩

theorem mapOpt_mem {m : Mem} (hd : Den h0 F ρ st fr h) (hs : st.Sc) (hm : MDen h0 F ρ m h ∧ m.Sc ∧ m.nv = st.m.nv) : Den h0 F ρ { st with m := m } fr h ∧ ({ st with m := m } : St).Sc := by
  refine ⟨⟨⟨hd.1.vals, hd.1.boxes, hd.1.defers, hd.1.rc⟩, hm.1⟩, ⟨?_, hm.2.1⟩⟩
  have := hs.1
  rw [← hm.2.2] at this
  exact ⟨this.vals, this.boxes, this.rc⟩

def killH (h : Heap) : V → Heap
  | .sbuf id _ _ _ false => h.set id .dead
  | _ => h
theorem appendV_eq {sz bytes : Nat} {v x : V} {n m : Nat} {A B : List V} (hn : sliceLen v = some n) (hm : sliceLen x = some m) (h0 : m ≠ 0) (hb : (n + m) * bytes ≤ 140737488355328 ∧ n + m ≤ 9223372036854775807)
    (hA : sliceCells h sz v = some A) (hB : sliceCells h sz x = some B) (hs : v = .nils ∨ (∃ row off len, v = .sro row off len true) ∨ (∃ id off len sz' full, v = .sbuf id off len sz' full)) :
    appendV h sz bytes v x = some (.sbuf h.next 0 (n + m) sz false, (killH h v).alloc (.row (A ++ B))) := by
  rcases hs with rfl | ⟨row, off, len, rfl⟩ | ⟨id, off, len, sz', full, rfl⟩
  · cases x <;> simp only [sliceLen, Option.some.injEq, reduceCtorEq] at hn hm <;> subst hn <;> subst hm <;> simp only [sliceCells, Option.some.injEq] at hA <;> subst hA <;>
      first | exact absurd rfl h0 | (simp only [appendV, sliceLen]; rw [if_neg h0, if_pos hb, hB]; simp only [sliceCells, killH, List.nil_append, Nat.zero_add])
  · cases x <;> simp only [sliceLen, Option.some.injEq, reduceCtorEq] at hn hm <;> subst hn <;> subst hm <;>
      first | exact absurd rfl h0 | (simp only [appendV, sliceLen]; rw [if_neg h0, if_pos hb, hA, hB]; simp only [killH])
  · cases full <;> cases x <;> simp only [sliceLen, Option.some.injEq, reduceCtorEq] at hn hm <;> subst hn <;> subst hm <;>
      first | exact absurd rfl h0 | (simp only [appendV, sliceLen]; rw [if_neg h0, if_pos hb, hA, hB]; simp only [killH])
theorem appKill_ok {a : S} (hr : appKill st a = some st') (hd : Den h0 F ρ st fr h) (hs : st.Sc) :
    Den h0 F ρ st' fr (killH h (a.val ρ)) ∧ st'.Sc ∧ st'.m.nv = st.m.nv ∧ (killH h (a.val ρ)).next = h.next ∧
    (a.val ρ = .nils ∨ (∃ row off len, a.val ρ = .sro row off len true) ∨ (∃ id off len sz' full, a.val ρ = .sbuf id off len sz' full)) := by
  unfold appKill at hr
  split at hr
  · simp only [Option.some.injEq] at hr; subst hr
    exact ⟨by simpa [S.val, killH] using hd, hs, rfl, by simp [S.val, killH], .inl rfl⟩
  · simp only [Option.some.injEq] at hr; subst hr
    exact ⟨by simpa [S.val, killH] using hd, hs, rfl, by simp [S.val, killH], .inr (.inl ⟨_, _, _, rfl⟩)⟩
  · simp only [Option.some.injEq] at hr; subst hr
    have e : fmV ρ .tt = true := fmV_true.2 trivial
    exact ⟨by simpa [S.val, killH, e] using hd, hs, rfl, by simp [S.val, killH, e], .inr (.inr ⟨_, _, _, _, _, rfl⟩)⟩
  · rename_i y off len sz full _
    split at hr
    · rename_i c hc
      simp only [Option.map_eq_some_iff] at hr
      obtain ⟨m, hm, rfl⟩ := hr
      cases hf : fmV ρ full with
      | true =>
        obtain ⟨d1, c1, n1⟩ := hd.2.weaken hs.2 hc hm fun _ _ => trivial
        obtain ⟨d2, c2⟩ := mapOpt_mem hd hs ⟨d1, c1, n1⟩
        exact ⟨by simpa [S.val, killH, hf] using d2, c2, n1, by simp [S.val, killH, hf], .inr (.inr ⟨_, _, _, _, _, rfl⟩)⟩
      | false =>
        obtain ⟨d1, c1, n1⟩ := hd.2.set hs.2 (o := .dead) hc hm trivial
        have : Den h0 F ρ { st with m := m } fr (h.set (rid ρ y) .dead) := ⟨⟨hd.1.vals, hd.1.boxes, hd.1.defers, hd.1.rc⟩, d1⟩
        have hsc : ({ st with m := m } : St).Sc := by
          refine ⟨?_, c1⟩
          have h1 := hs.1
          rw [← n1] at h1
          exact ⟨h1.vals, h1.boxes, h1.rc⟩
        exact ⟨by simpa [S.val, killH, hf] using this, hsc, n1, by simp [S.val, killH, hf], .inr (.inr ⟨_, _, _, _, _, rfl⟩)⟩
    · cases hr
  · cases hr

theorem sApp_ok (hp : PrOk pr) {sz bytes : Nat} {es : List CT} {a b : S} {n m : Tm} (hr : sApp pr st sz bytes es a b n m = some (st', s)) (hn : srcLen pr st es a = some n) (hm : srcLen pr st es b = some m)
    (hm1 : 1 ≤ m.val ρ) (hd : Den h0 F ρ st fr h) (hs : st.Sc) (hasc : a.sc st.m.nv = true) (hbsc : b.sc st.m.nv = true) (hnsc : n.sc st.m.nv = true) (hmsc : m.sc st.m.nv = true) :
    HeapOk (appendV h sz bytes (a.val ρ) (b.val ρ)) h0 F ρ st fr st' s := by
  unfold sApp at hr
  split at hr
  · rename_i hk
    obtain ⟨rfl, hle⟩ := hk
    split at hr
    · rename_i st1 h1
      split at hr
      · rename_i st2 x h2
        simp only [Option.some.injEq, Prod.mk.injEq] at hr; obtain ⟨rfl, rfl⟩ := hr
        obtain ⟨k, A, hA, ek, cA⟩ := srcLen_ok hp hn hd hs
        obtain ⟨l, B, hB, el, cB⟩ := srcLen_ok hp hm hd hs
        have hle' := leP_ok hp hd.2.facts hle
        rw [tAdd_val, ek, el] at hle'
        simp only [Tm.val] at hle'
        have hbound := maxRows_mul (n := k + l) (b := bytes) (by omega)
        have hmax : k + l ≤ appMax pr st.m.facts bytes (tAdd n m) := by
          unfold appMax
          split
          · rename_i h30
            have h31 := leP_ok hp hd.2.facts h30
            rw [tAdd_val, ek, el] at h31
            simp only [Tm.val] at h31
            omega
          · omega
        obtain ⟨d1, c1, n1, hnext, shape⟩ := appKill_ok h1 hd hs
        obtain ⟨ρ2, a2, n2, r2, x2, d2, c2⟩ := mkBuf_ok h2 d1 c1 (hA.rows.append hB.rows) hmax fun ρ' q hag hqc hqn hqv => by
          have hag' : Agree st.m.nv ρ ρ' := by rw [← n1]; exact hag
          exact appFacts_ok hA hB ek el cA cB hag' hs hnsc hmsc hasc hbsc hqc hqv hqn
        refine ⟨ρ2, _, by rw [← n1]; exact a2, by omega, ?_, d2, c2⟩
        have hl0 : l ≠ 0 := by omega
        rw [appendV_eq hA.len hB.len hl0 ⟨hbound.1, by omega⟩ hA.cells hB.cells shape]
        rw [hnext] at r2
        have e2 : (S.buf x (.lit 0) (tAdd n m) es.length .ff).val ρ2 = .sbuf h.next 0 (k + l) es.length false := by
          have e3 : (tAdd n m).val ρ2 = (k : Int) + l := by
            have hag' : Agree st.m.nv ρ ρ2 := by rw [← n1]; exact a2
            rw [tAdd_val, Tm.val_agree hag' n hnsc, Tm.val_agree hag' m hmsc, ek, el]
          have e4 : fmV ρ2 .ff = false := fmV_false.2 (by simp [Fm.holds])
          simp only [S.val, Tm.val, r2, e3, e4, Int.toNat_zero, Nat.zero_mul]
          congr 1
        rw [e2]
      · cases hr
    · cases hr
  · cases hr

theorem fact_st {f : Fm} {m : Mem} (hm : st.m.fact f = some m) (hd : Den h0 F ρ st fr h) (hs : st.Sc) (hf : f.holds ρ) : Den h0 F ρ { st with m := m } fr h ∧ ({ st with m := m } : St).Sc ∧ m.nv = st.m.nv := by
  obtain ⟨a, b, c⟩ := hd.2.fact hs.2 hm hf
  exact ⟨(mapOpt_mem hd hs ⟨a, b, c⟩).1, (mapOpt_mem hd hs ⟨a, b, c⟩).2, c⟩
theorem srcLen_sc {es : List CT} {x : S} {t : Tm} (hr : srcLen pr st es x = some t) (hx : x.sc st.m.nv = true) : t.sc st.m.nv = true := by
  unfold srcLen at hr
  split at hr
  · simp only [Option.some.injEq] at hr; subst hr; simp only [Tm.sc]
  · split at hr
    · simp only [Option.some.injEq] at hr; subst hr; simp only [Tm.sc]
    · cases hr
  · split at hr
    · split at hr
      · simp only [Option.some.injEq] at hr; subst hr; simpa only [S.sc, Tm.sc] using hx
      · cases hr
    · cases hr
  · split at hr
    · split at hr
      · split at hr
        · simp only [Option.some.injEq] at hr; subst hr
          simp only [S.sc, Bool.and_eq_true] at hx; exact hx.1.2
        · cases hr
      · cases hr
    · cases hr
  · cases hr
theorem sAppend_ok (hp : PrOk pr) {sz bytes : Nat} {a b : S} {rs : List (St × S)} (hr : sAppend pr st sz bytes a b = some rs) (hd : Den h0 F ρ st fr h) (hs : st.Sc) (hasc : a.sc st.m.nv = true) (hbsc : b.sc st.m.nv = true)
    (ha : ∃ n, sliceLen (a.val ρ) = some n) :
    ∃ r, r ∈ rs ∧ HeapOk (appendV h sz bytes (a.val ρ) (b.val ρ)) h0 F ρ st fr r.1 r.2 := by
  have zero : ∀ {st1 : St}, Den h0 F ρ st1 fr h → st1.Sc → st1.m.nv = st.m.nv → sliceLen (b.val ρ) = some 0 → HeapOk (appendV h sz bytes (a.val ρ) (b.val ρ)) h0 F ρ st fr st1 a := fun {st1} d1 c1 n1 hl => by
    obtain ⟨n, hn⟩ := ha
    refine ⟨ρ, h, Agree.refl _ _, by omega, ?_, d1, c1⟩
    generalize b.val ρ = x at hl
    cases x <;> simp only [sliceLen, Option.some.injEq, reduceCtorEq] at hl <;> (try subst hl) <;> unfold appendV <;> rw [hn] <;> rfl
  unfold sAppend at hr
  split at hr
  · split at hr
    · simp only [Option.some.injEq] at hr
      exact Exists.intro (st, a) (And.intro (by rw [← hr]; exact List.mem_singleton.2 rfl) (zero hd hs rfl rfl))
    · cases hr
  · rename_i es hes
    split at hr
    · rename_i n m hn hm
      have hnsc := srcLen_sc hn hasc
      have hmsc := srcLen_sc hm hbsc
      obtain ⟨l, B, hB, el, _⟩ := srcLen_ok hp hm hd hs
      split at hr
      · rename_i z
        split at hr
        · rename_i hz; subst hz
          simp only [Option.some.injEq] at hr
          refine Exists.intro (st, a) (And.intro (by rw [← hr]; exact List.mem_singleton.2 rfl) (zero hd hs rfl ?_))
          have := hB.len
          simp only [Tm.val] at el
          rw [this]; congr 1; omega
        · rename_i hz
          simp only [Option.map_eq_some_iff] at hr
          obtain ⟨r, hr, e⟩ := hr
          refine Exists.intro r (And.intro (by rw [← e]; exact List.mem_singleton.2 rfl) (sApp_ok hp hr hn hm ?_ hd hs hasc hbsc hnsc hmsc))
          rw [el]; simp only [Tm.val] at el; omega
      · split at hr
        · rename_i h1
          simp only [Option.map_eq_some_iff] at hr
          obtain ⟨r, hr, e⟩ := hr
          have := hp _ _ _ h1 ρ hd.2.facts
          simp only [Fm.holds, Tm.val] at this
          exact Exists.intro r (And.intro (by rw [← e]; exact List.mem_singleton.2 rfl) (sApp_ok hp hr hn hm this hd hs hasc hbsc hnsc hmsc))
        · split at hr
          · rename_i m0 m1 h0' h1'
            split at hr
            · rename_i n' m' hn' hm'
              split at hr
              · rename_i r h2
                simp only [Option.some.injEq] at hr
                by_cases hl : l = 0
                · obtain ⟨d1, c1, n1⟩ := fact_st h0' hd hs (by simp only [Fm.holds, Tm.val]; omega)
                  exact Exists.intro ({ st with m := m0 }, a) (And.intro (by rw [← hr]; exact List.mem_cons_self) (zero d1 c1 n1 (by rw [hB.len, hl])))
                · obtain ⟨d1, c1, n1⟩ := fact_st h1' hd hs (by simp only [Fm.holds, Tm.val]; omega)
                  refine Exists.intro r (And.intro (by rw [← hr]; exact List.mem_cons_of_mem _ (List.mem_singleton.2 rfl)) ?_)
                  obtain ⟨l', B', hB', el', _⟩ := srcLen_ok hp hm' d1 c1
                  have e3 := hB.len
                  rw [hB'.len, Option.some.injEq] at e3
                  have hasc' : a.sc ({ st with m := m1 } : St).m.nv = true := by simp only [n1]; exact hasc
                  have hbsc' : b.sc ({ st with m := m1 } : St).m.nv = true := by simp only [n1]; exact hbsc
                  obtain ⟨ρ2, h2', a2, n2, e2, d2, c2⟩ := sApp_ok hp h2 hn' hm' (by omega) d1 c1 hasc' hbsc' (srcLen_sc hn' hasc') (srcLen_sc hm' hbsc')
                  simp only [n1] at a2 n2
                  exact ⟨ρ2, h2', a2, n2, e2, d2, c2⟩
              · cases hr
            · cases hr
          · cases hr
    · cases hr

def idxT (x : Option S) (d : Tm) : Option Tm :=
  match x with
  | none => some d
  | some (.it _ t) => some t
  | _ => none
def sCut (pr : Prover) (st : St) (sz : Nat) (x : S) (lo hi : Option S) : Option (St × S) :=
  match x with
  | .nils => match idxT lo (.lit 0), idxT hi (.lit 0) with
    | some l, some u => if tNN pr st.m.facts l && leP pr st.m.facts l u && leP pr st.m.facts u (.lit 0) then some (st, .nils) else none
    | _, _ => none
  | .row cs off len full => match idxT lo (.lit 0), idxT hi (.lit len) with
    | some (.lit l), some (.lit u) => if 0 ≤ l ∧ l ≤ u ∧ u ≤ len then some (st, .row cs (off + l.toNat * sz) (u.toNat - l.toNat) (full && u.toNat == len)) else none
    | _, _ => none
  | .pv p => match p.ct with
    | .sl m es => match idxT lo (.lit 0), idxT hi (.len p) with
      | some l, some u => if sz = es.length ∧ (tNN pr st.m.facts l && leP pr st.m.facts l u && leP pr st.m.facts u (.len p)) = true then
          st.fresh (.sl m es) fun q => .eq (.len q) (tSub u l) :: (if p.nobd && l.nobd && u.nobd then (intCols es).map fun c => Fm.all 0 (tSub u l) (.eq (.iv (.el q (.bd 0) c)) (.iv (.el p (tAdd (.bd 0) l) c))) else [])
        else none
      | _, _ => none
    | _ => none
  | .buf y off len sz' full => match idxT lo (.lit 0), idxT hi len with
    | some l, some u => if sz' = sz ∧ (tNN pr st.m.facts off && tNN pr st.m.facts l && leP pr st.m.facts l u && leP pr st.m.facts u len) = true then
        some (st, .buf y (tAdd off l) (tSub u l) sz (match hi with | none => full | some _ => match full with | .ff => .ff | f => .and f (.eq u len))) else none
    | _, _ => none
  | _ => none
def idxV (x : Option V) (d : Nat) : Option Nat := match x with | some v => toIdx v | none => some d
theorem idxT_ok {x : Option S} {d t : Tm} (hr : idxT x d = some t) (ht : 0 ≤ t.val ρ) : idxV (x.map (S.val ρ)) (d.val ρ).toNat = some (t.val ρ).toNat := by
  cases x with
  | none => simp only [idxT, Option.some.injEq] at hr; subst hr; rfl
  | some s =>
    cases s <;> simp only [idxT, Option.some.injEq, reduceCtorEq] at hr
    subst hr
    simp only [Option.map_some, S.val, toIdx, idxV]
    rw [if_pos ht]
def cutV (sz l u n : Nat) (v : V) : Option V :=
  match v with
  | .nils => some .nils
  | .sro row off _ full => some (.sro row (off + l * sz) (u - l) (full && u == n))
  | .sbuf id off _ sz' full => if sz' = sz then some (.sbuf id (off + l * sz) (u - l) sz (full && u == n)) else none
  | _ => none
theorem sliceSl_eq {sz n l u : Nat} {v : V} {lo hi : Option V} (hn : sliceLen v = some n) (hu : idxV hi n = some u) (hl : idxV lo 0 = some l) (h1 : u ≤ n) (h2 : l ≤ u) :
    sliceSl sz v lo hi = cutV sz l u n v := by
  cases v <;> simp only [sliceLen, Option.some.injEq, reduceCtorEq] at hn <;> subst hn <;> cases hi <;> cases lo <;> simp only [idxV, Option.some.injEq] at hu hl <;> simp_all [sliceSl, cutV, sliceLen]
theorem cut_typed {m : Nat} {es : List CT} {row : List V} {off len l u : Nat} {full full' : Bool} (ht : hasT (.sl m es) (.sro row off len full) = true) (h1 : u ≤ len) (h2 : l ≤ u) : hasT (.sl m es) (.sro row (off + l * es.length) (u - l) full') = true := by
  obtain ⟨a, b, c⟩ := sro_typed ht
  simp only [hasT, Bool.and_eq_true, decide_eq_true_eq, List.all_eq_true, List.mem_range]
  have : (l + (u - l)) * es.length ≤ len * es.length := Nat.mul_le_mul_right _ (by omega)
  rw [Nat.add_mul] at this
  refine ⟨⟨⟨sro_clean ht, by omega⟩, by omega⟩, fun i hi => ?_⟩
  have := c (l + i) (by omega)
  rw [Nat.add_mul, ← Nat.add_assoc] at this
  exact this

theorem sCut_ok (hp : PrOk pr) {sz : Nat} {x : S} {lo hi : Option S} (hr : sCut pr st sz x lo hi = some (st', s)) (hd : Den h0 F ρ st fr h) (hs : st.Sc) (hx : x.sc st.m.nv = true)
    (hlo : ∀ y, lo = some y → y.sc st.m.nv = true) (hhi : ∀ y, hi = some y → y.sc st.m.nv = true) :
    ∃ v, sliceSl sz (x.val ρ) (lo.map (S.val ρ)) (hi.map (S.val ρ)) = some v ∧ ValOk h0 F ρ st fr h v st' s := by
  have isc : ∀ {y : Option S} {d t : Tm}, idxT y d = some t → d.sc st.m.nv = true → (∀ z, y = some z → z.sc st.m.nv = true) → t.sc st.m.nv = true := fun {y d t} hy hd' hz => by
    cases y with
    | none => simp only [idxT, Option.some.injEq] at hy; subst hy; exact hd'
    | some z => cases z <;> simp only [idxT, Option.some.injEq, reduceCtorEq] at hy; subst hy; simpa only [S.sc] using hz _ rfl
  have hf := hd.2.facts
  unfold sCut at hr
  split at hr
  · split at hr
    · rename_i l u hl hu
      split at hr
      · rename_i hc
        simp only [Bool.and_eq_true] at hc
        simp only [Option.some.injEq, Prod.mk.injEq] at hr; obtain ⟨rfl, rfl⟩ := hr
        have h1 := tNN_ok hp hf hc.1.1
        have h2 := leP_ok hp hf hc.1.2
        have h3 := leP_ok hp hf hc.2
        simp only [Tm.val] at h3
        have e1 := idxT_ok (ρ := ρ) hl h1
        have e2 := idxT_ok (ρ := ρ) hu (by omega)
        simp only [Tm.val, Int.toNat_zero] at e1 e2
        exact ⟨.nils, by rw [sliceSl_eq (n := 0) rfl e2 e1 (by omega) (by omega)]; rfl, val_pure' hd hs rfl⟩
      · cases hr
    · cases hr
  · rename_i cs off len full
    split at hr
    · rename_i l u hl hu
      split at hr
      · rename_i hc
        simp only [Option.some.injEq, Prod.mk.injEq] at hr; obtain ⟨rfl, rfl⟩ := hr
        have e1 := idxT_ok (ρ := ρ) hl (by simp only [Tm.val]; omega)
        have e2 := idxT_ok (ρ := ρ) hu (by simp only [Tm.val]; omega)
        simp only [Tm.val, Int.toNat_zero, Int.toNat_natCast] at e1 e2
        exact ⟨_, by rw [sliceSl_eq (n := len) rfl e2 e1 (by omega) (by omega)]; rfl, val_pure' hd hs rfl⟩
      · cases hr
    · cases hr
  · rename_i p
    split at hr
    · rename_i m es hc
      split at hr
      · rename_i l u hl hu
        split at hr
        · rename_i hk
          obtain ⟨rfl, hk⟩ := hk
          simp only [Bool.and_eq_true] at hk
          have h1 := tNN_ok hp hf hk.1.1
          have h2 := leP_ok hp hf hk.1.2
          have h3 := leP_ok hp hf hk.2
          simp only [Tm.val] at h3
          have e1 := idxT_ok (ρ := ρ) hl h1
          have e2 := idxT_ok (ρ := ρ) hu (by omega)
          have hlsc := isc hl (by simp only [Tm.sc]) hlo
          have husc := isc hu (by simpa only [Tm.sc, S.sc] using hx) hhi
          simp only [S.sc] at hx
          have ht := P.val_hasT ρ p
          rw [hc] at ht
          rcases sl_cases hc ρ with e | ⟨row, off, len, full, e⟩
          · rw [e] at h3; simp only [vlen] at h3
            simp only [Tm.val, e, vlen, Int.toNat_zero] at e1 e2
            refine ⟨.nils, by rw [S.val, e, sliceSl_eq (n := 0) rfl e2 e1 (by omega) (by omega)]; rfl, val_fresh hr hd hs rfl fun ρ' hag hxv _ f hfm => ?_⟩
            have el := Tm.val_agree hag l hlsc
            have eu := Tm.val_agree hag u husc
            simp only [List.mem_cons] at hfm
            rcases hfm with rfl | hfm
            · simp only [Fm.holds, tSub_val, hxv, Tm.val, vlen]; omega
            · split at hfm
              · rename_i hnb
                simp only [Bool.and_eq_true] at hnb
                obtain ⟨c, hcm, rfl⟩ := List.mem_map.1 hfm
                intro i hi0 hi1
                rw [tSub_val] at hi1; omega
              · simp at hfm
          · rw [e] at h3 ht; simp only [vlen] at h3
            simp only [Tm.val, e, vlen, Int.toNat_zero, Int.toNat_natCast] at e1 e2
            have hcut := cut_typed (full' := (full && (u.val ρ).toNat == len)) ht (u := (u.val ρ).toNat) (l := (l.val ρ).toNat) (by omega) (by omega)
            refine ⟨_, by rw [S.val, e, sliceSl_eq (n := len) rfl e2 e1 (by omega) (by omega)]; rfl, val_fresh hr hd hs hcut fun ρ' hag hxv _ f hfm => ?_⟩
            have el := Tm.val_agree hag l hlsc
            have eu := Tm.val_agree hag u husc
            have ep := P.val_agree hag p hx
            simp only [List.mem_cons] at hfm
            rcases hfm with rfl | hfm
            · simp only [Fm.holds, tSub_val, hxv, Tm.val, vlen]; omega
            · split at hfm
              · rename_i hnb
                simp only [Bool.and_eq_true] at hnb
                obtain ⟨c, hcm, rfl⟩ := List.mem_map.1 hfm
                have hcl := intCols_mem hcm
                intro i hi0 hi1
                rw [tSub_val] at hi1
                have bd0 : (Tm.bd 0).val (ρ'.bind 0 i) = i := by simp [Tm.val, Rho.bind]
                have q1 : (P.x st.m.nv (.sl m es)).val (ρ'.bind 0 i) = .sro row (off + (l.val ρ).toNat * es.length) ((u.val ρ).toNat - (l.val ρ).toNat) (full && (u.val ρ).toNat == len) := by
                  rw [P.val_nobd (ρ := ρ') (ρ' := ρ'.bind 0 i) rfl _ (by simp only [P.nobd])]; exact hxv
                have p1 : p.val (ρ'.bind 0 i) = .sro row off len full := by
                  rw [P.val_nobd (ρ := ρ') (ρ' := ρ'.bind 0 i) rfl _ hnb.1.1, ep]; exact e
                have l1 : l.val (ρ'.bind 0 i) = l.val ρ := by rw [Tm.val_nobd (ρ := ρ') (ρ' := ρ'.bind 0 i) rfl _ hnb.1.2, el]
                have a1 := el_val (p := .x st.m.nv (.sl m es)) rfl q1 (t := .bd 0) (i := i.toNat) (by rw [bd0]; omega) (by omega) hcl
                have a2 := el_val hc p1 (t := tAdd (.bd 0) l) (i := i.toNat + (l.val ρ).toNat) (by rw [tAdd_val, bd0, l1]; omega) (by omega) hcl
                have e5 : off + (l.val ρ).toNat * es.length + i.toNat * es.length + c = off + (i.toNat + (l.val ρ).toNat) * es.length + c := by rw [Nat.add_mul]; omega
                rw [e5, a2, Option.some.injEq] at a1
                simp only [Fm.holds, Tm.val]; rw [← a1]
              · simp at hfm
        · cases hr
      · cases hr
    · cases hr
  · rename_i y off len sz' full
    split at hr
    · rename_i l u hl hu
      split at hr
      · rename_i hk
        obtain ⟨rfl, hk⟩ := hk
        simp only [Bool.and_eq_true] at hk
        simp only [Option.some.injEq, Prod.mk.injEq] at hr; obtain ⟨rfl, rfl⟩ := hr
        have h0' := tNN_ok hp hf hk.1.1.1
        have h1 := tNN_ok hp hf hk.1.1.2
        have h2 := leP_ok hp hf hk.1.2
        have h3 := leP_ok hp hf hk.2
        have e1 := idxT_ok (ρ := ρ) hl h1
        have e2 := idxT_ok (ρ := ρ) hu (by omega)
        simp only [Tm.val, Int.toNat_zero] at e1
        refine ⟨_, by rw [S.val, sliceSl_eq (n := (len.val ρ).toNat) rfl e2 e1 (by omega) (by omega)]; simp only [cutV, if_true]; rfl, val_pure' hd hs ?_⟩
        simp only [S.val, tAdd_val, tSub_val]
        congr 1
        · rw [Int.toNat_add h0' h1, Nat.add_mul]
        · omega
        · cases hi with
          | none =>
            simp only [idxT, Option.some.injEq] at hu; subst hu
            simp
          | some z =>
            simp only
            rw [Bool.eq_iff_iff, fmV_true, Bool.and_eq_true, beq_iff_eq]
            split
            · simp [Fm.holds, fmV_true]
            · simp only [Fm.holds, fmV_true]
              refine and_congr Iff.rfl ?_
              omega
      · cases hr
    · cases hr
  · cases hr

def sCutStr (pr : Prover) (st : St) (p : P) (lo hi : Option S) : Option (St × S) :=
  match p.ct, idxT lo (.lit 0), idxT hi (.len p) with
  | .s m, some l, some u => if tNN pr st.m.facts l && leP pr st.m.facts l u && leP pr st.m.facts u (.len p) then st.fresh (.s m) fun q => [.eq (.len q) (tSub u l)] else none
  | _, _, _ => none
def sSlice (E : Env) (pr : Prover) (st : St) (t : TypeId) (x : S) (lo hi : Option S) : Option (St × S) :=
  match E.desc t with
  | some .string => match x.strP with
    | some p => sCutStr pr st p lo hi
    | none => none
  | some (.slice e) => match E.ti e with
    | some j => sCut pr st j.size x lo hi
    | none => none
  | _ => none
theorem sliceStr_eq {b : ByteArray} {l u : Nat} {lo hi : Option V} (hu : idxV hi b.size = some u) (hl : idxV lo 0 = some l) (h1 : u ≤ b.size) (h2 : l ≤ u) : sliceStr b lo hi = some (.str (b.extract l u)) := by
  cases hi <;> cases lo <;> simp only [idxV, Option.some.injEq] at hu hl <;> simp_all [sliceStr]
theorem sSlice_ok (hp : PrOk pr) {t : TypeId} {x : S} {lo hi : Option S} (hr : sSlice E pr st t x lo hi = some (st', s)) (hd : Den h0 F ρ st fr h) (hs : st.Sc) (hx : x.sc st.m.nv = true)
    (hlo : ∀ y, lo = some y → y.sc st.m.nv = true) (hhi : ∀ y, hi = some y → y.sc st.m.nv = true) :
    ∃ v, sliceV E h t (x.val ρ) (lo.map (S.val ρ)) (hi.map (S.val ρ)) none = some v ∧ ValOk h0 F ρ st fr h v st' s := by
  unfold sSlice at hr
  split at hr
  · rename_i hde
    split at hr
    · rename_i p hpx
      obtain ⟨b, m, e1, e2, c1, l1, s1⟩ := strP_ok hpx ρ
      unfold sCutStr at hr
      split at hr
      · rename_i m' l u hc hl hu
        split at hr
        · rename_i hk
          simp only [Bool.and_eq_true] at hk
          have hf := hd.2.facts
          have h1 := tNN_ok hp hf hk.1.1
          have h2 := leP_ok hp hf hk.1.2
          have h3 := leP_ok hp hf hk.2
          simp only [Tm.val, e2, vlen] at h3
          have a1 := idxT_ok (ρ := ρ) hl h1
          have a2 := idxT_ok (ρ := ρ) hu (by omega)
          simp only [Tm.val, e2, vlen, Int.toNat_zero, Int.toNat_natCast] at a1 a2
          have isc : ∀ {y : Option S} {d t : Tm}, idxT y d = some t → d.sc st.m.nv = true → (∀ z, y = some z → z.sc st.m.nv = true) → t.sc st.m.nv = true := fun {y d t} hy hd' hz => by
            cases y with
            | none => simp only [idxT, Option.some.injEq] at hy; subst hy; exact hd'
            | some z => cases z <;> simp only [idxT, Option.some.injEq, reduceCtorEq] at hy; subst hy; simpa only [S.sc] using hz _ rfl
          have hlsc := isc hl (by simp only [Tm.sc]) hlo
          have husc := isc hu (by simp only [Tm.sc]; rw [s1]; exact hx) hhi
          rw [c1] at hc; cases hc
          have hsz : (b.extract (l.val ρ).toNat (u.val ρ).toNat).size = (u.val ρ).toNat - (l.val ρ).toNat := by
            rw [ByteArray.size_extract]; omega
          refine ⟨_, by simp only [sliceV, hde, e1, Option.map_none]; rw [sliceStr_eq a2 a1 (by omega) (by omega)], val_fresh hr hd hs (by simp only [hasT, decide_eq_true_eq]; omega) fun ρ' hag hxv _ f hfm => ?_⟩
          simp only [List.mem_singleton] at hfm; subst hfm
          have el := Tm.val_agree hag l hlsc
          have eu := Tm.val_agree hag u husc
          simp only [Fm.holds, tSub_val, el, eu, Tm.val, hxv, vlen, hsz]; omega
        · cases hr
      · cases hr
    · cases hr
  · rename_i e hde
    split at hr
    · rename_i j hj
      obtain ⟨v, h1, h2⟩ := sCut_ok hp hr hd hs hx hlo hhi
      exact ⟨v, by simp only [sliceV, hde, hj]; exact h1, h2⟩
    · cases hr
  · cases hr
end Go.Abs.Sx
namespace Go.Abs.Sx
variable {E : Env} {fid : FuncId} {o : Oper} {h0 : Heap} {F : Nat → Prop} {ρ : Rho} {st st' : St} {fr : Fr} {h : Heap} {s : S} {pr : Prover}

def zeroCT : S → Option CT
  | .bo _ => some .b
  | .it k _ => some (.i k)
  | .str _ => some (.s bigS)
  | _ => none
def zeroCTs : List S → Option (List CT)
  | [] => some []
  | s :: r => match zeroCT s, zeroCTs r with
    | some c, some cs => some (c :: cs)
    | _, _ => none
def fitsShape (pr : Prover) (facts : List Fm) (a : Bool) (cs : List CT) (s : S) : Bool :=
  match s with
  | .agg l => a && fitss pr facts cs l
  | s => !a && fitss pr facts cs [s] && !s.isAgg
theorem fitsShape_ok (hp : PrOk pr) {facts : List Fm} (hfa : ∀ f ∈ facts, f.holds ρ) {a : Bool} {cs : List CT} (hf : fitsShape pr facts a cs s = true) : typed a cs (s.val ρ) = true := by
  unfold fitsShape at hf
  split at hf
  · simp only [Bool.and_eq_true] at hf
    simp only [typed, hf.1, if_true, S.val]; exact fitss_ok hp hfa hf.2
  · rename_i hna
    simp only [Bool.and_eq_true, Bool.not_eq_true'] at hf
    obtain ⟨⟨h1, h2⟩, h3⟩ := hf
    simp only [typed, h1, Bool.false_eq_true, if_false]
    match cs, h2 with
    | [c], h2 =>
      simp only [fitss, Bool.and_true] at h2
      exact fits_ok hp hfa h2
    | [], h2 => simp [fitss] at h2
    | _ :: _ :: _, h2 => simp [fitss] at h2
def shapeOf (E : Env) (t : TypeId) : Option (Bool × List CT) :=
  match E.ti t with
  | some i => match sZero i with
    | some z => match zeroCTs z.cells with
      | some cs => if fitsShape (fun _ _ _ => false) [] i.isAgg cs z then some (i.isAgg, cs) else none
      | none => none
    | none => none
  | none => none
def freshShape (st : St) (a : Bool) (cs : List CT) : Option (St × S) :=
  match freshs st cs with
  | some (st1, ss) => if a then some (st1, .agg ss) else match ss with | [x] => some (st1, x) | _ => none
  | none => none
theorem freshShape_ok {a : Bool} {cs : List CT} {v : V} (hr : freshShape st a cs = some (st', s)) (hd : Den h0 F ρ st fr h) (hs : st.Sc) (ht : typed a cs v = true) : ValOk h0 F ρ st fr h v st' s := by
  unfold freshShape at hr
  split at hr
  · rename_i st1 ss hfs
    cases a with
    | true =>
      simp only [if_true, Option.some.injEq, Prod.mk.injEq] at hr
      obtain ⟨rfl, rfl⟩ := hr
      simp only [typed, if_true] at ht
      split at ht
      · obtain ⟨ρ', a1, n1, v1, d1, c1, _⟩ := freshs_ok hfs hd hs ht
        exact ⟨ρ', a1, n1, by simp only [S.val, v1], d1, c1⟩
      · cases ht
    | false =>
      simp only [Bool.false_eq_true, if_false] at hr
      simp only [typed, Bool.false_eq_true, if_false] at ht
      split at hr
      · rename_i x
        simp only [Option.some.injEq, Prod.mk.injEq] at hr
        obtain ⟨rfl, rfl⟩ := hr
        split at ht
        · rename_i c
          obtain ⟨ρ', a1, n1, v1, d1, c1, _⟩ := freshs_ok (vs := [v]) hfs hd hs (by simp only [hasTs, ht, Bool.and_true])
          simp only [S.vals, List.cons.injEq, and_true] at v1
          exact ⟨ρ', a1, n1, v1, d1, c1⟩
        · cases ht
      · cases hr
  · cases hr

def kdOk : Kd → CT → Bool
  | .b, .b => true
  | .i, .i _ => true
  | .s, .s _ => true
  | _, _ => false
def kdsOk : List Kd → List CT → Bool
  | [], [] => true
  | k :: ks, c :: cs => kdOk k c && kdsOk ks cs
  | _, _ => false
theorem eqScalar_some {k : Kd} {c : CT} (hk : kdOk k c = true) {v w : V} (hv : hasT c v = true) (hw : hasT c w = true) : ∃ b, eqScalar k v w = some b := by
  cases k <;> cases c <;> simp only [kdOk, Bool.false_eq_true] at hk <;> cases v <;> simp only [hasT, Bool.false_eq_true] at hv <;> cases w <;> simp only [hasT, Bool.false_eq_true] at hw
  · exact ⟨_, rfl⟩
  · simp only [Bool.and_eq_true, beq_iff_eq] at hv hw
    obtain ⟨⟨rfl, _⟩, _⟩ := hv
    obtain ⟨⟨rfl, _⟩, _⟩ := hw
    exact ⟨_, by simp only [eqScalar, if_true]; rfl⟩
  · exact ⟨_, rfl⟩
theorem eqCells_some : ∀ {ks : List Kd} {cs : List CT}, kdsOk ks cs = true → ∀ {v w : List V}, hasTs cs v = true → hasTs cs w = true → ∃ b, eqCells ks v w = some b
  | [], [], _, [], [], _, _ => ⟨true, rfl⟩
  | k :: ks, c :: cs, hk, v :: vs, w :: ws, hv, hw => by
    simp only [kdsOk, Bool.and_eq_true] at hk
    simp only [hasTs, Bool.and_eq_true] at hv hw
    obtain ⟨b1, e1⟩ := eqScalar_some hk.1 hv.1 hw.1
    obtain ⟨b2, e2⟩ := eqCells_some hk.2 hv.2 hw.2
    exact ⟨b1 && b2, by simp only [eqCells, e1, e2]⟩
  | [], [], _, _ :: _, _, hv, _ | [], [], _, [], _ :: _, _, hv => by simp [hasTs] at hv
  | [], _ :: _, hk, _, _, _, _ | _ :: _, [], hk, _, _, _, _ => by simp [kdsOk] at hk
  | _ :: _, _ :: _, _, [], _, hv, _ | _ :: _, _ :: _, _, _ :: _, [], _, hv => by simp [hasTs] at hv
def keyT (E : Env) (kt : TypeId) (a : Bool) (cs : List CT) : Bool :=
  match E.plain kt, E.ti kt with
  | some ks, some i => i.isAgg == a && kdsOk ks cs
  | _, _ => false
theorem typed_notAgg {cs : List CT} {v : V} (h : typed false cs v = true) : ∃ c, cs = [c] ∧ hasT c v = true ∧ (∀ l, v ≠ .agg l) := by
  simp only [typed, Bool.false_eq_true, if_false] at h
  split at h
  · rename_i c; exact ⟨c, rfl, h, fun l e => by subst e; cases c <;> simp [hasT] at h⟩
  · cases h
theorem typed_agg {cs : List CT} {v : V} (h : typed true cs v = true) : ∃ l, v = .agg l ∧ hasTs cs l = true := by
  simp only [typed, if_true] at h
  split at h
  · exact ⟨_, rfl, h⟩
  · cases h
theorem eqPlain_some {kt : TypeId} {a : Bool} {cs : List CT} (hk : keyT E kt a cs = true) {v w : V} (hv : typed a cs v = true) (hw : typed a cs w = true) : ∃ b, eqPlain E kt v w = some b := by
  unfold keyT at hk
  split at hk
  · rename_i ks i h1 h2
    simp only [Bool.and_eq_true, beq_iff_eq] at hk
    obtain ⟨ha, hk⟩ := hk
    subst ha
    cases hi : i.isAgg with
    | true =>
      rw [hi] at hv hw
      obtain ⟨l1, rfl, t1⟩ := typed_agg hv
      obtain ⟨l2, rfl, t2⟩ := typed_agg hw
      obtain ⟨b, e⟩ := eqCells_some hk t1 t2
      exact ⟨b, by simp only [eqPlain, h1, h2, hi, if_true, e]⟩
    | false =>
      rw [hi] at hv hw
      obtain ⟨c, rfl, t1, n1⟩ := typed_notAgg hv
      obtain ⟨c', e', t2, n2⟩ := typed_notAgg hw
      cases e'
      obtain ⟨b, e⟩ := eqCells_some hk (v := [v]) (w := [w]) (by simp [hasTs, t1]) (by simp [hasTs, t2])
      refine ⟨b, ?_⟩
      unfold eqPlain
      rw [h1, h2]
      simp only
      split
      · exact absurd rfl (n1 _)
      · rw [hi]; simp only [Bool.false_eq_true, if_false, e]
  · cases hk
theorem findE_some {kt : TypeId} {ka : Bool} {ks : List CT} (hk : keyT E kt ka ks = true) {k : V} (hkt : typed ka ks k = true) : ∀ (es : List (V × V × Nat)) (i : Nat), (∀ e ∈ es, typed ka ks e.1 = true) →
    (findE E kt k es i = some none) ∨ ∃ j e, findE E kt k es i = some (some (j, e.2.1)) ∧ i ≤ j ∧ es[j - i]? = some e
  | [], i, _ => .inl rfl
  | e :: es, i, ht => by
    obtain ⟨b, hb⟩ := eqPlain_some hk hkt (ht e List.mem_cons_self)
    cases b with
    | true => exact .inr ⟨i, e, by simp only [findE, hb], Nat.le_refl _, by simp⟩
    | false =>
      rcases findE_some hk hkt es (i + 1) (fun e' h' => ht e' (List.mem_cons_of_mem _ h')) with h1 | ⟨j, e', h1, h2, h3⟩
      · exact .inl (by simp only [findE, hb]; exact h1)
      · refine .inr ⟨j, e', by simp only [findE, hb]; exact h1, by omega, ?_⟩
        rw [show j - i = (j - (i + 1)) + 1 by omega, List.getElem?_cons_succ]; exact h3

def sMakeMap (E : Env) (st : St) (t : TypeId) : Option (St × S) :=
  match E.desc t with
  | some (.map kt et) => match shapeOf E kt, shapeOf E et with
    | some (ka, ks), some (va, vs) => (st.m.new (.map ka ks va vs)).map fun m => ({ st with m := m }, .mp st.m.nv)
    | _, _ => none
  | _ => none
theorem new_ok {c : Chunk} {ob : AObj} {m : Mem} (hd : Den h0 F ρ st fr h) (hs : st.Sc) (hm : st.m.new c = some m) (ho : c.holds ρ ob) :
    Agree st.m.nv ρ (ρ.set st.m.nv (.mp h.next)) ∧ st.m.nv ≤ m.nv ∧ rid (ρ.set st.m.nv (.mp h.next)) st.m.nv = h.next ∧ Den h0 F (ρ.set st.m.nv (.mp h.next)) { st with m := m } fr (h.alloc ob) ∧ ({ st with m := m } : St).Sc := by
  obtain ⟨d1, c1, e1, r1⟩ := hd.2.new hs.2 hm ho
  have ha := agree_set ρ st.m.nv (.mp h.next)
  have hfd := hd.1.agree hs.1 ha
  refine ⟨ha, by omega, r1, ⟨⟨hfd.vals, hfd.boxes, hfd.defers, hfd.rc⟩, d1⟩, ⟨?_, c1⟩⟩
  have := hs.1.mono (show st.m.nv ≤ m.nv by omega)
  exact ⟨this.vals, this.boxes, this.rc⟩
theorem sMakeMap_ok {t : TypeId} (hr : sMakeMap E st t = some (st', s)) (hd : Den h0 F ρ st fr h) (hs : st.Sc) :
    (∃ kt et, E.desc t = some (.map kt et)) ∧ HeapOk (some (.mp h.next, h.alloc (.mapo [] 0))) h0 F ρ st fr st' s := by
  unfold sMakeMap at hr
  split at hr
  · rename_i kt et hde
    refine ⟨⟨kt, et, hde⟩, ?_⟩
    split at hr
    · simp only [Option.map_eq_some_iff, Prod.mk.injEq] at hr
      obtain ⟨m, hm, rfl, rfl⟩ := hr
      obtain ⟨a, n, r, d, c⟩ := new_ok hd hs (ob := .mapo [] 0) hm ⟨[], 0, rfl, fun e he => by simp at he⟩
      exact ⟨_, _, a, n, by simp only [S.val, r], d, c⟩
    · cases hr
  · cases hr
def sLookup (E : Env) (pr : Prover) (st : St) (t : TypeId) (m k : S) (ok : Bool) : Option (St × S) :=
  match E.desc t, m with
  | some (.map kt et), .mp x => match getC st.m.chunks x, shapeOf E et with
    | some (.map ka ks va vs), some (va', vs') => if keyT E kt ka ks && fitsShape pr st.m.facts ka ks k && (va == va') && CT.beqs vs vs' && !k.isLoc then
        match freshShape st va vs with
        | some (st1, v) => if ok then (match st1.fresh .b fun _ => [] with | some (st2, b) => some (st2, .tup [v, b]) | none => none) else some (st1, v)
        | none => none
      else none
    | _, _ => none
  | _, _ => none
def sMapSet (E : Env) (pr : Prover) (st : St) (t : TypeId) (m k v : S) : Option (St × S) :=
  match E.desc t, m with
  | some (.map kt _), .mp x => match getC st.m.chunks x with
    | some (.map ka ks va vs) => if keyT E kt ka ks && fitsShape pr st.m.facts ka ks k && fitsShape pr st.m.facts va vs v && v.whole && k.whole then some (st, .tup []) else none
    | _ => none
  | _, _ => none
theorem freshs_mono : ∀ {cs : List CT} {st st' : St} {ss : List S}, freshs st cs = some (st', ss) → st.m.nv ≤ st'.m.nv
  | [], st, st', ss, hf => by
    simp only [freshs, Option.some.injEq, Prod.mk.injEq] at hf
    obtain ⟨rfl, rfl⟩ := hf; exact Nat.le_refl _
  | c :: cs, st, st', ss, hf => by
    simp only [freshs] at hf
    split at hf
    · rename_i st1 s1 h1
      split at hf
      · rename_i st2 ss2 h2
        simp only [Option.some.injEq, Prod.mk.injEq] at hf
        obtain ⟨rfl, rfl⟩ := hf
        have n1 : st1.m.nv = st.m.nv + 1 := by
          simp only [St.fresh, Option.map_eq_some_iff, Prod.mk.injEq] at h1
          obtain ⟨m, hm, rfl, rfl⟩ := h1
          exact (facts_frame hm).2
        have := freshs_mono h2
        omega
      · cases hf
    · cases hf
theorem freshs_sc : ∀ {cs : List CT} {st st' : St} {ss : List S}, freshs st cs = some (st', ss) → st.Sc → S.scs st'.m.nv ss = true
  | [], st, st', ss, hf, _ => by
    simp only [freshs, Option.some.injEq, Prod.mk.injEq] at hf
    obtain ⟨rfl, rfl⟩ := hf; rfl
  | c :: cs, st, st', ss, hf, hs => by
    simp only [freshs] at hf
    split at hf
    · rename_i st1 s1 h1
      split at hf
      · rename_i st2 ss2 h2
        simp only [Option.some.injEq, Prod.mk.injEq] at hf
        obtain ⟨rfl, rfl⟩ := hf
        have ρ0 : Rho := ⟨fun _ => .junk, fun _ => 0, fun _ => none⟩
        have n1 : st1.m.nv = st.m.nv + 1 := by
          simp only [St.fresh, Option.map_eq_some_iff, Prod.mk.injEq] at h1
          obtain ⟨m, hm, rfl, rfl⟩ := h1
          exact (facts_frame hm).2
        have hsc : s1.sc st1.m.nv = true := by
          simp only [St.fresh, Option.map_eq_some_iff, Prod.mk.injEq] at h1
          obtain ⟨m, hm, rfl, rfl⟩ := h1
          have : (P.x st.m.nv c).sc m.nv = true := by simp only [P.sc, decide_eq_true_eq]; simp only at n1; omega
          unfold ofP; split <;> simp only [S.sc, Fm.sc, Tm.sc, this]
        have hmono : st1.m.nv ≤ st2.m.nv := freshs_mono h2
        have hs1 : st1.Sc := by
          simp only [St.fresh, Option.map_eq_some_iff, Prod.mk.injEq] at h1
          obtain ⟨m, hm, rfl, rfl⟩ := h1
          simp only [Mem.facts?, Option.some.injEq] at hm
          subst hm
          exact ⟨⟨fun q hq => S.sc_mono (Nat.le_succ _) _ (hs.1.vals q hq), fun q hq => S.scs_mono (Nat.le_succ _) _ (hs.1.boxes q hq), (hs.1.mono (Nat.le_succ _)).rc⟩, hs.2.mono (Nat.le_succ _)⟩
        simp only [S.scs, Bool.and_eq_true]
        exact ⟨S.sc_mono hmono s1 hsc, freshs_sc h2 hs1⟩
      · cases hf
    · cases hf
theorem shapeOf_zero {t : TypeId} {a : Bool} {cs : List CT} (hr : shapeOf E t = some (a, cs)) : ∃ i, E.ti t = some i ∧ typed a cs i.zero = true := by
  unfold shapeOf at hr
  split at hr
  · rename_i i hi
    split at hr
    · rename_i z hz
      split at hr
      · rename_i cs' hc
        split at hr
        · rename_i hf
          simp only [Option.some.injEq, Prod.mk.injEq] at hr
          obtain ⟨rfl, rfl⟩ := hr
          have ρ0 : Rho := ⟨fun _ => .junk, fun _ => 0, fun _ => none⟩
          exact ⟨i, hi, by have := fitsShape_ok (pr := fun _ _ _ => false) (fun _ _ _ h => by cases h) (ρ := ρ0) (fun f hf => by simp at hf) hf; rwa [ofV_val ρ0 hz] at this⟩
        · cases hr
      · cases hr
    · cases hr
  · cases hr
theorem keyOk_of {kt : TypeId} {ka : Bool} {ks : List CT} (hk : keyT E kt ka ks = true) {k : V} (hkt : typed ka ks k = true) : keyOk E kt k = true := by
  obtain ⟨b, hb⟩ := eqPlain_some hk hkt hkt
  simp [keyOk, hb]
theorem sLookup_ok {t : TypeId} {m k : S} {ok : Bool} (hp : PrOk pr) (hr : sLookup E pr st t m k ok = some (st', s)) (hd : Den h0 F ρ st fr h) (hs : st.Sc) :
    ∃ kt et r j, E.desc t = some (.map kt et) ∧ (keyOk E kt (k.val ρ) && !(k.val ρ).isLoc) = true ∧ mapGet E kt h (m.val ρ) (k.val ρ) = some r ∧ E.ti et = some j ∧
      ValOk h0 F ρ st fr h (match r with | some v => if ok then .tup [v, .bool true] else v | none => if ok then .tup [j.zero, .bool false] else j.zero) st' s := by
  unfold sLookup at hr
  split at hr
  · rename_i kt et x hde
    split at hr
    · rename_i ka ks va vs va' vs' hg hsh
      split at hr
      · rename_i hc
        simp only [Bool.and_eq_true, beq_iff_eq, Bool.not_eq_true'] at hc
        obtain ⟨⟨⟨⟨hk, hfk⟩, rfl⟩, hbe⟩, hloc⟩ := hc
        have := CT.beqs_eq _ _ hbe; subst this
        obtain ⟨j, hj, hz⟩ := shapeOf_zero hsh
        have hkt := fitsShape_ok hp hd.2.facts hfk
        obtain ⟨ob, g1, es, c, rfl, g3⟩ := hd.2.chunk _ (getC_mem hg)
        simp only at g1
        have hfind := findE_some hk hkt es 0 fun e he => (g3 e he).1
        have fin : ∀ (v : V) (b : Bool), typed va vs v = true → ValOk h0 F ρ st fr h (if ok then .tup [v, .bool b] else v) st' s := fun v b hv => by
          split at hr
          · rename_i st1 v1 hfr
            obtain ⟨ρ1, a1, n1, v1', d1, c1⟩ := freshShape_ok hfr hd hs hv
            cases ok with
            | true =>
              simp only [if_true] at hr ⊢
              split at hr
              · rename_i st2 b2 hfr2
                simp only [Option.some.injEq, Prod.mk.injEq] at hr
                obtain ⟨rfl, rfl⟩ := hr
                obtain ⟨ρ2, a2, n2, v2, d2, c2⟩ := fresh_ok hfr2 d1 c1 (v := .bool b) rfl fun _ _ _ f hf => by simp at hf
                have hsc1 : v1.sc st1.m.nv = true := by
                  unfold freshShape at hfr
                  split at hfr
                  · rename_i st0 ss hfs
                    have hsct := (freshs_sc hfs hs)
                    split at hfr
                    · simp only [Option.some.injEq, Prod.mk.injEq] at hfr
                      obtain ⟨rfl, rfl⟩ := hfr
                      simp only [S.sc]; exact hsct
                    · split at hfr
                      · simp only [Option.some.injEq, Prod.mk.injEq] at hfr
                        obtain ⟨rfl, rfl⟩ := hfr
                        simpa only [S.scs, Bool.and_true] using hsct
                      · cases hfr
                  · cases hfr
                exact ⟨ρ2, a1.trans a2 (by omega), by omega, by simp only [S.val, S.vals, v2, S.val_agree a2 v1 hsc1, v1'], d2, c2⟩
              · cases hr
            | false =>
              simp only [Bool.false_eq_true, if_false, Option.some.injEq, Prod.mk.injEq] at hr ⊢
              obtain ⟨rfl, rfl⟩ := hr
              exact ⟨ρ1, a1, n1, v1', d1, c1⟩
          · cases hr
        rcases hfind with hf | ⟨i, e, hf, _, he⟩
        · exact ⟨kt, et, none, j, hde, by simp [keyOk_of hk hkt, S.isLoc_val, hloc], by simp only [mapGet, S.val, g1, hf, Option.map_some, Option.map_none], hj, fin _ _ hz⟩
        · exact ⟨kt, et, some e.2.1, j, hde, by simp [keyOk_of hk hkt, S.isLoc_val, hloc], by simp only [mapGet, S.val, g1, hf, Option.map_some], hj, fin _ _ (g3 e (List.mem_of_getElem? he)).2⟩
      · cases hr
    · cases hr
  · cases hr
theorem sMapSet_ok {t : TypeId} {m k v : S} (hp : PrOk pr) (hr : sMapSet E pr st t m k v = some (st', s)) (hd : Den h0 F ρ st fr h) (hs : st.Sc) :
    ∃ kt et h', E.desc t = some (.map kt et) ∧ (keyOk E kt (k.val ρ) && (v.val ρ).whole && (k.val ρ).whole) = true ∧ mapSet E kt h (m.val ρ) (k.val ρ) (v.val ρ) = some h' ∧ s = .tup [] ∧ Den h0 F ρ st' fr h' ∧ st'.Sc ∧ st'.m.nv = st.m.nv := by
  unfold sMapSet at hr
  split at hr
  · rename_i kt et x hde
    split at hr
    · rename_i ka ks va vs hg
      split at hr
      · rename_i hc
        simp only [Bool.and_eq_true] at hc
        obtain ⟨⟨⟨⟨hk, hfk⟩, hfv⟩, hwv⟩, hwk⟩ := hc
        simp only [Option.some.injEq, Prod.mk.injEq] at hr
        obtain ⟨rfl, rfl⟩ := hr
        have hkt := fitsShape_ok hp hd.2.facts hfk
        have hvt := fitsShape_ok hp hd.2.facts hfv
        obtain ⟨ob, g1, es, c, rfl, g3⟩ := hd.2.chunk _ (getC_mem hg)
        simp only at g1
        have hset : ∀ es' c', (∀ e ∈ es', typed ka ks e.1 = true ∧ typed va vs e.2.1 = true) → Den h0 F ρ st fr (h.set (rid ρ x) (.mapo es' c')) ∧ st.Sc := fun es' c' he => by
          have hm : st.m.set x (.map ka ks va vs) = some { st.m with chunks := setC st.m.chunks x (.map ka ks va vs) } := by simp [Mem.set, Chunk.sc]
          obtain ⟨d1, c1, n1⟩ := hd.2.set (o := .mapo es' c') hs.2 hg hm ⟨es', c', rfl, he⟩
          have hsame : ∀ (l : List (Nat × Chunk)) (x : Nat) (c : Chunk), getC l x = some c → setC l x c = l := fun l x c => by
            induction l with
            | nil => intro h; simp [getC] at h
            | cons q r ih =>
              obtain ⟨y, d⟩ := q
              intro h
              simp only [getC] at h
              simp only [setC]
              split at h
              · rename_i e; simp only [Option.some.injEq] at h; subst h; rw [if_pos e]
              · rename_i e; rw [if_neg e, ih h]
          rw [hsame _ _ _ hg] at d1
          exact ⟨⟨hd.1, d1⟩, hs⟩
        have hfind := findE_some hk hkt es 0 fun e he => (g3 e he).1
        have hko : (keyOk E kt (k.val ρ) && (v.val ρ).whole && (k.val ρ).whole) = true := by simp [keyOk_of hk hkt, S.whole_val ρ v hwv, S.whole_val ρ k hwk]
        rcases hfind with hf | ⟨i, e, hf, _, he⟩
        · obtain ⟨d1, c1⟩ := hset (es ++ [(k.val ρ, v.val ρ, c)]) (c + 1) fun e he => by
            rcases List.mem_append.1 he with he | he
            · exact g3 e he
            · simp only [List.mem_singleton] at he; subst he; exact ⟨hkt, hvt⟩
          exact ⟨kt, et, _, hde, hko, by simp only [mapSet, S.val, g1, hf], rfl, d1, c1, rfl⟩
        · obtain ⟨d1, c1⟩ := hset (modifyAt es i (v.val ρ)) c fun e' he' => by
            simp only [modifyAt] at he'
            obtain ⟨n, hn⟩ := List.mem_iff_getElem?.1 he'
            rw [List.getElem?_modify] at hn
            cases h1 : es[n]? with
            | none => simp [h1] at hn
            | some e0 =>
              have := g3 e0 (List.mem_of_getElem? h1)
              rw [h1] at hn
              by_cases hin : i = n
              · simp [hin] at hn; rw [← hn]; exact ⟨this.1, hvt⟩
              · simp [hin] at hn; rw [← hn]; exact this
          exact ⟨kt, et, _, hde, hko, by simp only [mapSet, S.val, g1, hf], rfl, d1, c1, rfl⟩
      · cases hr
    · cases hr
  · cases hr

def sRange (E : Env) (st : St) (t : TypeId) (x : S) : Option (St × S) :=
  match E.desc t, x.strP with
  | some .string, some p => (st.m.new (.siter p (.lit 0))).map fun m => ({ st with m := m }, .cell st.m.nv (.at 0))
  | _, _ => none
theorem sRange_ok {t : TypeId} {x : S} (hr : sRange E st t x = some (st', s)) (hd : Den h0 F ρ st fr h) (hs : st.Sc) :
    ∃ b, E.desc t = some .string ∧ x.val ρ = .str b ∧ HeapOk (some (.cell h.next 0, h.alloc (.siter b 0))) h0 F ρ st fr st' s := by
  unfold sRange at hr
  split at hr
  · rename_i p hde hp
    obtain ⟨b, m, e1, e2, _⟩ := strP_ok hp ρ
    simp only [Option.map_eq_some_iff, Prod.mk.injEq] at hr
    obtain ⟨mm, hm, rfl, rfl⟩ := hr
    obtain ⟨a, n, r, d, c⟩ := new_ok hd hs (ob := .siter b 0) hm ⟨b, e2, by simp [Tm.val]⟩
    exact ⟨b, hde, e1, _, _, a, n, by simp only [S.val, r, Off.val], d, c⟩
  · cases hr
end Go.Abs.Sx
namespace Go.Abs.Sx
variable {E : Env} {fid : FuncId} {o : Oper} {h0 : Heap} {F : Nat → Prop} {ρ : Rho} {st st' : St} {fr : Fr} {h : Heap} {s : S} {pr : Prover}

def sNext (pr : Prover) (st : St) (x : S) : Option (List (St × S)) :=
  match x with
  | .cell y (.at 0) => match getC st.m.chunks y with
    | some (.siter p t) => if tNN pr st.m.facts t && decide (p.ct.max? ≤ bigS) then
        match st.m.fact (.lt t (.len p)), st.m.fact (.le (.len p) t) with
        | some m1, some m2 =>
          match ({ st with m := m1 } : St).fresh (.i .i64) fun q => [.lt t (.iv q)] with
          | some (st1, .it _ u) => match st1.fresh (.i .i32) fun _ => [] with
            | some (st2, r) => match st2.m.set y (.siter p u) with
              | some m3 => some [({ st2 with m := m3 }, .tup [.bo .tt, .it .i64 t, r]), ({ st with m := m2 }, .tup [.bo .ff])]
              | none => none
            | none => none
          | _ => none
        | _, _ => none
      else none
    | _ => none
  | _ => none
theorem ofP_sc {c : CT} {fs : P → List Fm} {n : Nat} {st0 : St} (hf : st0.fresh c fs = some (st', s)) (hn : st0.m.nv < n) : s.sc n = true := by
  simp only [St.fresh, Option.map_eq_some_iff, Prod.mk.injEq] at hf
  obtain ⟨m, hm, rfl, rfl⟩ := hf
  have : (P.x st0.m.nv c).sc n = true := by simp only [P.sc, decide_eq_true_eq]; exact hn
  unfold ofP; split <;> simp only [S.sc, Fm.sc, Tm.sc, this]
theorem sNext_ok (hp : PrOk pr) {x : S} {rs : List (St × S)} (hr : sNext pr st x = some rs) (hd : Den h0 F ρ st fr h) (hs : st.Sc) :
    ∃ id b pos, x.val ρ = .cell id 0 ∧ h.get id = some (.siter b pos) ∧ ∃ r, r ∈ rs ∧
      HeapOk (if pos < b.size then some (.tup [.bool true, .int .i64 pos, .int .i32 (Utf8.decode b pos).1], h.set id (.siter b (pos + (Utf8.decode b pos).2))) else some (.tup [.bool false], h)) h0 F ρ st fr r.1 r.2 := by
  unfold sNext at hr
  split at hr
  · rename_i y
    split at hr
    · rename_i p t hg
      split at hr
      · rename_i hnn
        simp only [Bool.and_eq_true, decide_eq_true_eq] at hnn
        obtain ⟨hnn, hmax⟩ := hnn
        have hnn := tNN_ok hp hd.2.facts hnn
        split at hr
        · rename_i m1 m2 hm1 hm2
          split at hr
          · rename_i st1 kk u hf1
            split at hr
            · rename_i st2 r hf2
              split at hr
              · rename_i m3 hm3
                simp only [Option.some.injEq] at hr
                obtain ⟨ob, g1, b, e1, g2⟩ := hd.2.chunk _ (getC_mem hg)
                subst g2
                simp only at g1
                have hpsc := (hs.2.chunk _ (getC_mem hg)).2
                have hysc := (hs.2.chunk _ (getC_mem hg)).1
                simp only [Chunk.sc, Bool.and_eq_true] at hpsc
                have hbs : (b.size : Int) ≤ p.ct.max? := by
                  have := (vlen_range (P.val_hasT ρ p)).2
                  rw [e1] at this; exact this
                have hbs2 : b.size ≤ 4611686018427387904 := by
                  have : p.ct.max? ≤ 4611686018427387904 := hmax
                  omega
                refine ⟨rid ρ y, b, (t.val ρ).toNat, rfl, g1, ?_⟩
                by_cases hlt : (t.val ρ).toNat < b.size
                · refine Exists.intro _ (And.intro (by rw [← hr]; exact List.mem_cons_self) ?_)
                  rw [if_pos hlt]
                  obtain ⟨d1, c1, n1⟩ := fact_st hm1 hd hs (by simp only [Fm.holds, Tm.val, e1, vlen]; omega)
                  have hw := Lib.width_pos b (t.val ρ).toNat
                  have hw2 : (Utf8.decode b (t.val ρ).toNat).2 ≤ b.size - (t.val ρ).toNat := by rw [Lib.decode_at]; exact Lib.decodeN_width_le _ _ _ _ _ (by omega)
                  have hrl := Lib.rune_le b (t.val ρ).toNat
                  have h64 : IntKind.i64.max = 9223372036854775807 := rfl
                  have h32 : IntKind.i32.max = 2147483647 := rfl
                  obtain ⟨ρ1, a1, n2, v1, d2, c2⟩ := fresh_ok hf1 d1 c1 (v := .int .i64 (((t.val ρ).toNat + (Utf8.decode b (t.val ρ).toNat).2 : Nat) : Int)) (hasT_int ⟨by have := kmin_le .i64; omega, by rw [h64]; omega⟩) fun ρ' hag hx f hfm => by
                    simp only [List.mem_singleton] at hfm; subst hfm
                    simp only [n1] at hag
                    simp only [Fm.holds, Tm.val, hx, vint, Tm.val_agree hag t hpsc.2]; omega
                  obtain ⟨ρ2, a2, n3, v2, d3, c3⟩ := fresh_ok hf2 d2 c2 (v := .int .i32 ((Utf8.decode b (t.val ρ).toNat).1 : Int)) (hasT_int ⟨by have := kmin_le .i32; omega, by rw [h32]; omega⟩) fun _ _ _ f hfm => by simp at hfm
                  simp only [n1] at a1 n2
                  obtain ⟨f1, f2, f3, f4⟩ := fresh_frame hf1
                  obtain ⟨k1, k2, k3, k4⟩ := fresh_frame hf2
                  have hg2 : getC st2.m.chunks y = some (.siter p t) := by rw [k4, f4]; simp only [(fact_frame hm1).1]; exact hg
                  have husc : u.sc st1.m.nv = true := by
                    have := (ofP_sc (n := st1.m.nv) hf1 (by simp only [n1]; omega))
                    simpa only [S.sc] using this
                  have hag2 : Agree st.m.nv ρ ρ2 := a1.trans a2 (by omega)
                  have hu2 : u.val ρ2 = (((t.val ρ).toNat + (Utf8.decode b (t.val ρ).toNat).2 : Nat) : Int) := by
                    rw [Tm.val_agree a2 u husc]
                    simp only [S.val, V.int.injEq] at v1
                    exact v1.2
                  obtain ⟨d4, c4, n4⟩ := d3.2.set (o := .siter b ((t.val ρ).toNat + (Utf8.decode b (t.val ρ).toNat).2)) c3.2 hg2 hm3 ⟨b, by rw [P.val_agree hag2 p hpsc.1]; exact e1, by rw [hu2, Int.toNat_natCast]⟩
                  have hrid : rid ρ2 y = rid ρ y := rid_agree hag2 hysc
                  rw [hrid] at d4
                  refine ⟨ρ2, _, hag2, (show st.m.nv ≤ m3.nv by omega), ?_, ⟨⟨d3.1.vals, d3.1.boxes, d3.1.defers, d3.1.rc⟩, d4⟩, ⟨?_, c4⟩⟩
                  · have e5 : fmV ρ2 .tt = true := fmV_true.2 trivial
                    simp only [S.val, S.vals, v2, e5, Tm.val_agree hag2 t hpsc.2]
                    rw [Int.toNat_of_nonneg hnn]
                  · have := c3.1
                    rw [← n4] at this
                    exact ⟨this.vals, this.boxes, this.rc⟩
                · refine Exists.intro _ (And.intro (by rw [← hr]; exact List.mem_cons_of_mem _ (List.mem_singleton.2 rfl)) ?_)
                  rw [if_neg hlt]
                  obtain ⟨d1, c1, n1⟩ := fact_st hm2 hd hs (by simp only [Fm.holds, Tm.val, e1, vlen]; omega)
                  have e5 : fmV ρ .ff = false := fmV_false.2 (by simp [Fm.holds])
                  exact ⟨ρ, h, Agree.refl _ _, (show st.m.nv ≤ m2.nv by omega), by simp only [S.val, S.vals, e5], d1, c1⟩
              · cases hr
            · cases hr
          · cases hr
        · cases hr
      · cases hr
    · cases hr
  · cases hr

theorem rows_rep {es : List CT} {zs : List V} (hz : hasTs es zs = true) : ∀ n, RowsT es (Abs.rep n zs) n
  | 0 => by simp [RowsT, Abs.rep]
  | n + 1 => by
    have h1 : RowsT es zs 1 := ⟨by rw [hasTs_len hz]; omega, fun i hi => by
      have : i = 0 := by omega
      subst this
      simp only [Nat.zero_mul, List.drop_zero]
      rw [← hasTs_len hz, List.take_length]; exact hz⟩
    have := h1.append (rows_rep hz n)
    rw [Nat.add_comm] at this
    exact this
def sMakeSlice (E : Env) (pr : Prover) (st : St) (t : TypeId) (l c : S) : Option (St × S) :=
  match Abs.elemAt E t, l, c with
  | some (e, j), .it .i64 n, .it .i64 m => match shapeOf E e with
    | some (_, es) => if j.size = es.length ∧ (tNN pr st.m.facts n && leP pr st.m.facts n m && leP pr st.m.facts m (.lit (maxRows j.bytes))) = true ∧ n.sc st.m.nv = true then
        match mkBuf st es (maxRows j.bytes) fun q => [.eq (.len q) n] with
        | some (st1, x) => some (st1, .buf x (.lit 0) n j.size (if Tm.beq n m then .tt else .eq n m))
        | none => none
      else none
    | none => none
  | _, _, _ => none
theorem typed_cells {a : Bool} {cs : List CT} {v : V} (h : typed a cs v = true) : hasTs cs v.cells = true := by
  cases a with
  | true => obtain ⟨l, rfl, t⟩ := typed_agg h; exact t
  | false =>
    obtain ⟨c, rfl, t, n⟩ := typed_notAgg h
    rw [hasT_cells t]; simp [hasTs, t]
theorem sMakeSlice_ok (hp : PrOk pr) {t : TypeId} {l c : S} (hr : sMakeSlice E pr st t l c = some (st', s)) (hd : Den h0 F ρ st fr h) (hs : st.Sc) (hcsc : c.sc st.m.nv = true) :
    ∃ e j n m, Abs.elemAt E t = some (e, j) ∧ l.val ρ = .int .i64 n ∧ c.val ρ = .int .i64 m ∧ (0 ≤ n ∧ n ≤ m ∧ (m : Int) * j.bytes ≤ 140737488355328 ∧ m ≤ 9223372036854775807) ∧
      HeapOk (some (.sbuf h.next 0 n.toNat j.size (n == m), h.alloc (.row (Abs.rep n.toNat j.zero.cells)))) h0 F ρ st fr st' s := by
  unfold sMakeSlice at hr
  split at hr
  · rename_i e j n m hel
    split at hr
    · rename_i a es hsh
      split at hr
      · rename_i hk
        obtain ⟨k1, k2, k3⟩ := hk
        simp only [Bool.and_eq_true] at k2
        have hf := hd.2.facts
        have h1 := tNN_ok hp hf k2.1.1
        have h2 := leP_ok hp hf k2.1.2
        have h3 := leP_ok hp hf k2.2
        simp only [Tm.val] at h3
        have hm := maxRows_mul (n := (m.val ρ).toNat) (b := j.bytes) (by omega)
        obtain ⟨i, hi, hz⟩ := shapeOf_zero hsh
        have hij : i = j := by
          unfold Abs.elemAt at hel
          split at hel
          · simp only [Option.map_eq_some_iff, Prod.mk.injEq] at hel
            obtain ⟨j', hj', rfl, rfl⟩ := hel
            rw [hi] at hj'; exact Option.some.inj hj'
          · cases hel
        subst hij
        have hrow := rows_rep (typed_cells hz) (n.val ρ).toNat
        have hnM : (n.val ρ).toNat ≤ maxRows i.bytes := by
          clear hm
          generalize maxRows i.bytes = M at h3
          omega
        split at hr
        · rename_i st1 x hmk
          simp only [Option.some.injEq, Prod.mk.injEq] at hr
          obtain ⟨rfl, rfl⟩ := hr
          obtain ⟨ρ1, a1, n1, r1, x1, d1, c1⟩ := mkBuf_ok hmk hd hs hrow hnM fun ρ' q hag hqc _ hqv f hfm => by
            simp only [List.mem_singleton] at hfm; subst hfm
            show vlen (q.val ρ') = n.val ρ'
            rw [hqv, Tm.val_agree hag n k3]
            show (((n.val ρ).toNat : Nat) : Int) = n.val ρ
            omega
          refine ⟨e, i, n.val ρ, m.val ρ, hel, rfl, rfl, ⟨h1, h2, ?_, by omega⟩, ρ1, _, a1, n1, ?_, d1, c1⟩
          · have : (((m.val ρ).toNat * i.bytes : Nat) : Int) ≤ 140737488355328 := by
              have h4 := hm.1
              generalize (m.val ρ).toNat * i.bytes = z at h4
              omega
            rw [Int.natCast_mul, Int.toNat_of_nonneg (by omega)] at this
            exact this
          · simp only [S.sc] at hcsc
            have e1 := Tm.val_agree a1 n k3
            have e2 := Tm.val_agree a1 m hcsc
            simp only [S.val, Tm.val, r1, e1, Int.toNat_zero, Nat.zero_mul]
            congr 3
            split
            · rename_i hb
              have e5 : fmV ρ1 .tt = true := fmV_true.2 trivial
              rw [Tm.beq_eq _ _ hb, e5]; simp
            · rw [Bool.eq_iff_iff, fmV_true]; simp [Fm.holds, e1, e2]
        · cases hr
      · cases hr
    · cases hr
  · cases hr
end Go.Abs.Sx
namespace Go.Abs.Sx
variable {E : Env} {fid : FuncId} {o : Oper} {h0 : Heap} {F : Nat → Prop} {ρ : Rho} {st st' : St} {fr : Fr} {h : Heap} {s : S} {pr : Prover}

def sIndex (E : Env) (pr : Prover) (st : St) (t : TypeId) (x i : S) : Option (St × S) :=
  match E.desc t, i with
  | some (.array len e), .it _ n => match x with
    | .agg cs => match E.ti e, within pr st n (.lit len) with
      | some j, some st1 => match readTab pr st1 cs (mkIx 0 j.size len n) (if j.isAgg then j.size else 1) with
        | some (st2, ss) => (sType j ss).map fun s => (st2, s)
        | none => none
      | _, _ => none
    | _ => none
  | some .string, .it _ n => match x.strP with
    | some p => match within pr st n (.len p) with
      | some st1 => st1.fresh (.i .u8) fun _ => []
      | none => none
    | none => none
  | _, _ => none
theorem sIndex_ok (hp : PrOk pr) {t : TypeId} {x i : S} (hr : sIndex E pr st t x i = some (st', s)) (hd : Den h0 F ρ st fr h) (hs : st.Sc) :
    ∃ v, indexV E t (x.val ρ) (i.val ρ) = some v ∧ ValOk h0 F ρ st fr h v st' s := by
  unfold sIndex at hr
  split at hr
  · rename_i len e k n hde
    split at hr
    · rename_i cs
      split at hr
      · rename_i j st1 hj hw
        obtain ⟨a, b, c, d, e1⟩ := within_ok hp hw hd hs
        simp only [Tm.val] at b
        split at hr
        · rename_i st2 ss hrt
          simp only [Option.map_eq_some_iff, Prod.mk.injEq] at hr
          obtain ⟨s1, h2, rfl, rfl⟩ := hr
          obtain ⟨vs, h3, ρ', a2, n2, v2, d2, c2⟩ := readTab_ok hp hrt c d
          refine ⟨s1.val ρ', ?_, ρ', by rw [← e1]; exact a2, by omega, rfl, d2, c2⟩
          rw [mkIx_val, Nat.zero_add] at h3
          simp only [indexV, hde, S.val, a, b, and_self, if_true, hj, h3, Option.bind_some]
          rw [← v2]; exact sType_ok h2 ρ'
        · cases hr
      · cases hr
    · cases hr
  · rename_i k n hde
    split at hr
    · rename_i p hsp
      split at hr
      · rename_i st1 hw
        obtain ⟨a, b, c, d, e1⟩ := within_ok hp hw hd hs
        obtain ⟨bs, m, e2, e3, _⟩ := strP_ok hsp ρ
        simp only [Tm.val, e3, vlen] at b
        have hlt : (n.val ρ).toNat < bs.size := by omega
        have hg : bs[(n.val ρ).toNat]? = some bs[(n.val ρ).toNat] := by simp [hlt]
        have hb : (bs[(n.val ρ).toNat]).toNat < 256 := (bs[(n.val ρ).toNat]).toNat_lt
        have ht : hasT (.i .u8) (.int .u8 ((bs[(n.val ρ).toNat]).toNat : Nat)) = true := hasT_int ⟨by rw [show IntKind.u8.min = 0 by decide]; omega, by rw [show IntKind.u8.max = 255 by decide]; omega⟩
        obtain ⟨ρ', a2, n2, v2, d2, c2⟩ := val_fresh hr c d ht fun _ _ _ _ f hf => by simp at hf
        refine ⟨_, ?_, ρ', by rw [← e1]; exact a2, by omega, v2, d2, c2⟩
        simp only [indexV, hde, S.val, e2, a, if_true, hg, Option.map_some]
      · cases hr
    · cases hr
  · cases hr
end Go.Abs.Sx
namespace Go.Abs.Sx
variable {E : Env} {fid : FuncId} {o : Oper} {h0 : Heap} {F : Nat → Prop} {ρ : Rho} {st st' : St} {fr : Fr} {h : Heap} {s : S} {pr : Prover}

def S.notNil : S → Bool
  | .loc .. | .cell .. | .elp .. | .rowp .. | .iface .. | .fn .. => true
  | _ => false
theorem S.notNil_val {s : S} (hn : s.notNil = true) (ρ : Rho) : Abs.notNil (s.val ρ) = true := by
  cases s <;> simp only [S.notNil, Bool.false_eq_true] at hn <;> simp only [S.val, Abs.notNil]
  rename_i p t j
  obtain ⟨r, o, e⟩ := elPtr_rop (P.val ρ p) (Tm.val ρ t) p.ct.size j; rw [e]
def S.noLoc (l : List S) : Bool := l.all fun s => !s.isLoc
theorem S.noLoc_val {l : List S} (hn : S.noLoc l = true) (ρ : Rho) : Abs.noLoc (S.vals ρ l) = true := by
  simp only [S.noLoc, List.all_eq_true] at hn
  rw [S.vals_eq]
  simp only [Abs.noLoc, List.all_map, List.all_eq_true, Function.comp, S.isLoc_val]
  exact hn
def optS (st : St) : Option Operand → Option (Option S)
  | none => some none
  | some x => (st.eval x).map some
theorem optS_ok {x : Option Operand} {r : Option S} (hd : FDen ρ st fr) (hr : optS st x = some r) : opt fr x = some (r.map (S.val ρ)) := by
  cases x with
  | none => simp only [optS, Option.some.injEq] at hr; subst hr; rfl
  | some x =>
    simp only [optS, Option.map_eq_some_iff] at hr
    obtain ⟨s, h1, rfl⟩ := hr
    simp only [opt, hd.eval h1, Option.map_some]
def one (r : Option (St × S)) : Option (List (St × S)) := r.map fun x => [x]

def isAppendable : S → Bool
  | .nils | .row .. | .buf .. => true
  | .pv p => match p.ct with | .sl _ _ => true | _ => false
  | _ => false
theorem isAppendable_ok {a : S} (h : isAppendable a = true) (ρ : Rho) : ∃ n, sliceLen (a.val ρ) = some n := by
  cases a <;> simp only [isAppendable, Bool.false_eq_true] at h
  · split at h
    · rename_i m es hc
      rcases sl_cases hc ρ with e | ⟨_, _, _, _, e⟩ <;> exact ⟨_, by simp only [S.val, e]; rfl⟩
    · cases h
  all_goals exact ⟨_, rfl⟩

def sxOp (E : Env) (pr : Prover) (fid : FuncId) (st : St) (o : Oper) : Option (List (St × S)) :=
  match o.op with
  | .move x | .assign x => one ((st.eval x).map fun s => (st, s))
  | .pick c a b => match st.eval c, st.eval a, st.eval b with
    | some (.bo f), some x, some y => one (sPick pr st f x y)
    | _, _, _ => none
  | .alloc t => match E.ti t with
    | some i => match sZero i with
      | some z => one (sBox E fid st o.dst z.cells)
      | none => none
    | none => none
  | .box _ x => match st.eval x with
    | some v => one (sBox E fid st o.dst v.cells)
    | none => none
  | .build t parts => match sParts st parts.toList with
    | some vs => one ((sBuild E t vs).map fun s => (st, s))
    | none => none
  | .buildSlice t len parts => match Abs.elemAt E t, sParts st parts.toList with
    | some (_, j), some vs => match sZero j, o.dst with
      | some z, some d => if len ≤ 16777216 ∧ len * j.size ≤ 16777216 ∧ sWholes vs = true ∧ E.isBuf fid d = false then
          match sFill (fun i => some (i * j.size, j.size)) ((List.replicate len z.cells).flatten) vs with
          | some cs => some [(st, .row cs 0 len true)]
          | none => none
        else none
      | _, _ => none
    | _, _ => none
  | .load t a => match st.eval a with
    | some p => one (sLoad E pr st t p)
    | none => none
  | .store t a x => match E.ti t, st.eval a, st.eval x with
    | some i, some p, some v => if v.cells.length = i.size ∧ v.whole = true then
        match sWrite pr st p v.cells with
        | some st1 => some [(st1, .tup [])]
        | none => none
      else none
    | _, _, _ => none
  | .nilCheck x => match st.eval x with
    | some v => if v.notNil then some [(st, v)] else none
    | none => none
  | .binOp op t x y _ => match st.eval x, st.eval y with
    | some a, some b => if a.isLoc || b.isLoc then none else one (sBin E pr st op t a b)
    | _, _ => none
  | .unOp op _ x => match st.eval x with
    | some a => one (sUn pr st op a)
    | none => none
  | .convert a b x => match st.eval x with
    | some v => one (sConv E pr st a b v)
    | none => none
  | .makeFunc f a b => match f, st.evals a.toList, st.evals b.toList with
    | .func g, some x, some y => if S.noLoc x && S.noLoc y then some [(st, .fn g x y)] else none
    | _, _, _ => none
  | .makeInterface t x => match st.eval x, E.desc t with
    | some v, some d => if v.isLoc || isItf d then none else some [(st, .iface t v)]
    | _, _ => none
  | .makeMap t none => one (sMakeMap E st t)
  | .makeSlice t l c => match st.eval l, st.eval c with
    | some x, some y => one (sMakeSlice E pr st t x y)
    | _, _ => none
  | .slice t x lo hi none => match st.eval x, optS st lo, optS st hi with
    | some v, some l, some u => one (sSlice E pr st t v l u)
    | _, _, _ => none
  | .fieldAddr t x f => match st.eval x, fieldAt E t f with
    | some p, some fd => match E.ti fd.type with
      | some j => if j.size = 0 then none else match p with
        | .elp q i k => match q.ct with
          | .sl _ _ => match within pr st i (.len q) with
            | some st1 => some [(st1, .elp q i (k + fd.offset))]
            | none => none
          | _ => none
        | p => one ((sOff p fd.offset).map fun s => (st, s))
      | none => none
    | _, _ => none
  | .field t x f => match st.eval x, fieldAt E t f with
    | some (.agg cs), some fd => match E.ti fd.type with
      | some j => match sSub cs fd.offset (if j.isAgg then j.size else 1) with
        | some r => one ((sType j r).map fun s => (st, s))
        | none => none
      | none => none
    | _, _ => none
  | .indexAddr t x i => match st.eval x, st.eval i with
    | some a, some b => one (sIndexAddr E pr st t a b)
    | _, _ => none
  | .index t x i => match st.eval x, st.eval i with
    | some a, some b => one (sIndex E pr st t a b)
    | _, _ => none
  | .lookup t m k ok => match st.eval m, st.eval k with
    | some mv, some kv => one (sLookup E pr st t mv kv ok)
    | _, _ => none
  | .mapUpdate t m k x | .insert t m k x => match st.eval m, st.eval k, st.eval x with
    | some mv, some kv, some v => one (sMapSet E pr st t mv kv v)
    | _, _, _ => none
  | .range t x => match st.eval x with
    | some v => one (sRange E st t v)
    | none => none
  | .next it true => match st.eval it with
    | some v => sNext pr st v
    | none => none
  | .extract x i => match st.eval x with
    | some (.tup vs) => one ((vs[i]?).map fun s => (st, s))
    | _ => none
  | .call c => match c.callee with
    | .builtin b => match st.evals c.args.toList with
      | some vs => if S.noLoc vs then
          match b, c.argTypes.toList, vs with
          | .len, [t], [x] => one ((sLen E pr st.m.facts t x).map fun s => (st, s))
          | .max, _, vs => one ((sMax true vs).map fun s => (st, s))
          | .min, _, vs => one ((sMax false vs).map fun s => (st, s))
          | .append, [t, u], [a, b] => match Abs.elemAt E t, Abs.elemAt E u with
            | some (_, j), some _ => if isAppendable a then sAppend pr st j.size j.bytes a b else none
            | _, _ => none
          | _, _, _ => none
        else none
      | none => none
    | _ => none
  | _ => none

theorem St.evals_sc (hs : st.Sc) : ∀ {l : List Operand} {ss : List S}, st.evals l = some ss → S.scs st.m.nv ss = true
  | [], ss, h => by simp only [St.evals, Option.some.injEq] at h; subst h; rfl
  | x :: r, ss, h => by
    simp only [St.evals] at h
    split at h
    · rename_i v vs h1 h2
      simp only [Option.some.injEq] at h; subst h
      simp only [S.scs, Bool.and_eq_true]
      exact ⟨St.eval_sc hs h1, St.evals_sc hs h2⟩
    · cases h
def OpsOk (E : Env) (fid : FuncId) (o : Oper) (h0 : Heap) (F : Nat → Prop) (ρ : Rho) (st : St) (fr : Fr) (h : Heap) (rs : List (St × S)) : Prop :=
  ∃ r, r ∈ rs ∧ OpOk E fid o h0 F ρ st fr h r.1 r.2
theorem one_ok {r : Option (St × S)} {rs : List (St × S)} (hr : one r = some rs) (hk : ∀ st' s, r = some (st', s) → OpOk E fid o h0 F ρ st fr h st' s) : OpsOk E fid o h0 F ρ st fr h rs := by
  simp only [one, Option.map_eq_some_iff] at hr
  obtain ⟨x, hx, rfl⟩ := hr
  exact ⟨x, List.mem_singleton.2 rfl, hk x.1 x.2 hx⟩
theorem rep_flat (ρ : Rho) (cs : List S) : ∀ n, Abs.rep n (S.vals ρ cs) = S.vals ρ ((List.replicate n cs).flatten)
  | 0 => rfl
  | n + 1 => by
    simp only [Abs.rep]
    rw [rep_flat ρ cs n]
    simp only [List.replicate_succ, List.flatten_cons, S.vals_eq, List.map_append]
theorem sxOp_ok (hp : PrOk pr) {rs : List (St × S)} (hr : sxOp E pr fid st o = some rs) (hd : Den h0 F ρ st fr h) (hs : st.Sc) : OpsOk E fid o h0 F ρ st fr h rs := by
  have he : ∀ {x : Operand} {s : S}, st.eval x = some s → fr.eval x = some (s.val ρ) := fun h => hd.1.eval h
  unfold sxOp at hr
  split at hr
  · rename_i x ho
    refine one_ok hr fun st' s h1 => ?_
    simp only [Option.map_eq_some_iff, Prod.mk.injEq] at h1
    obtain ⟨s', h1, rfl, rfl⟩ := h1
    exact ok_pure hd hs (by simp only [stepOp, ho, he h1, Option.map_some])
  · rename_i x ho
    refine one_ok hr fun st' s h1 => ?_
    simp only [Option.map_eq_some_iff, Prod.mk.injEq] at h1
    obtain ⟨s', h1, rfl, rfl⟩ := h1
    exact ok_pure hd hs (by simp only [stepOp, ho, he h1, Option.map_some])
  · rename_i c a b ho
    split at hr
    · rename_i f x y h1 h2 h3
      refine one_ok hr fun st' s h4 => ?_
      have hfs := St.eval_sc hs h1
      simp only [S.sc] at hfs
      refine (sPick_ok hp h4 hd hs hfs (St.eval_sc hs h2) (St.eval_sc hs h3)).op ?_
      have e1 := he h1
      simp only [S.val] at e1
      cases hf : fmV ρ f with
      | true => rw [hf] at e1; simp only [stepOp, ho, e1, he h2, Option.map_some, if_true]
      | false => rw [hf] at e1; simp only [stepOp, ho, e1, he h3, Option.map_some, Bool.false_eq_true, if_false]
    · cases hr
  · rename_i t ho
    split at hr
    · rename_i i hi
      split at hr
      · rename_i z hz
        refine one_ok hr fun st' s h4 => ?_
        obtain ⟨ρ', fr', h', a, n, e, d, c⟩ := sBox_ok h4 hd hs
        exact ⟨ρ', fr', h', a, n, by simp only [stepOp, ho, hi]; rw [← ofV_val ρ hz, S.cells_val]; exact e, d, c⟩
      · cases hr
    · cases hr
  · rename_i t x ho
    split at hr
    · rename_i v h1
      refine one_ok hr fun st' s h4 => ?_
      obtain ⟨ρ', fr', h', a, n, e, d, c⟩ := sBox_ok h4 hd hs
      exact ⟨ρ', fr', h', a, n, by simp only [stepOp, ho, he h1]; rw [S.cells_val]; exact e, d, c⟩
    · cases hr
  · rename_i t parts ho
    split at hr
    · rename_i vs h1
      refine one_ok hr fun st' s h4 => ?_
      simp only [Option.map_eq_some_iff, Prod.mk.injEq] at h4
      obtain ⟨s', h4, rfl, rfl⟩ := h4
      exact ok_pure hd hs (by simp only [stepOp, ho, sParts_ok hd.1 h1, sBuild_ok h4 ρ, Option.map_some])
    · cases hr
  · rename_i t len parts ho
    split at hr
    · rename_i e j vs h1 h2
      split at hr
      · rename_i z d hz hdst
        split at hr
        · rename_i hk
          obtain ⟨k1, k2, k3, k4⟩ := hk
          split at hr
          · rename_i cs h3
            simp only [Option.some.injEq] at hr
            refine ⟨(st, .row cs 0 len true), by rw [← hr]; exact List.mem_singleton.2 rfl, ok_pure hd hs ?_⟩
            have h4 := sFill_ok ρ h3
            rw [← rep_flat, ← S.cells_val, ofV_val ρ hz] at h4
            simp only [stepOp, ho, h1, sParts_ok hd.1 h2]
            rw [if_pos ⟨k1, k2, sWholes_ok k3 ρ⟩, h4]
            simp only [hdst, k4, Bool.false_eq_true, if_false, S.val]
          · cases hr
        · cases hr
      · cases hr
    · cases hr
  · rename_i t a ho
    split at hr
    · rename_i p h1
      refine one_ok hr fun st' s h4 => ?_
      obtain ⟨i, v, h5, h6, h7⟩ := sLoad_ok hp h4 hd hs
      exact h7.op (by simp only [stepOp, ho, h5, he h1, h6, Option.map_some])
    · cases hr
  · rename_i t a x ho
    split at hr
    · rename_i i p v h1 h2 h3
      split at hr
      · rename_i hk
        split at hr
        · rename_i st1 h4
          simp only [Option.some.injEq] at hr
          have hv : S.scs st.m.nv v.cells = true := by
            have := St.eval_sc hs h3
            cases v <;> simp only [S.cells, S.scs, S.sc, Bool.and_true] at this ⊢ <;> exact this
          obtain ⟨ρ', fr', h', a', n, e, d, c⟩ := sWrite_ok hp h4 hd hs hv
          refine ⟨(st1, .tup []), by rw [← hr]; exact List.mem_singleton.2 rfl, ρ', fr', h', a', n, ?_, d, c⟩
          simp only [stepOp, ho, h1, he h2, he h3, S.cells_val, S.vals_length]
          rw [if_pos ⟨hk.1, by simp only [V.whole, S.cells_val]; have := S.whole_val ρ v hk.2; simpa only [V.whole, S.cells_val] using this⟩, e]
          simp only [Option.map_some, S.val, S.vals]
        · cases hr
      · cases hr
    · cases hr
  · rename_i x ho
    split at hr
    · rename_i v h1
      split at hr
      · rename_i hn
        simp only [Option.some.injEq] at hr
        exact ⟨(st, v), by rw [← hr]; exact List.mem_singleton.2 rfl, ok_pure hd hs (by simp only [stepOp, ho, he h1, S.notNil_val hn ρ, if_true])⟩
      · cases hr
    · cases hr
  · rename_i op t x y d ho
    split at hr
    · rename_i a b h1 h2
      split at hr
      · cases hr
      · rename_i hl
        simp only [Bool.or_eq_true, not_or, Bool.not_eq_true] at hl
        refine one_ok hr fun st' s h4 => ?_
        obtain ⟨v, h5, h6⟩ := sBin_ok hp h4 hd hs (St.eval_sc hs h1) (St.eval_sc hs h2)
        exact h6.op (by simp only [stepOp, ho, he h1, he h2, S.isLoc_val, hl.1, hl.2, Bool.or_self, Bool.false_eq_true, if_false, h5, Option.map_some])
    · cases hr
  · rename_i op t x ho
    split at hr
    · rename_i a h1
      refine one_ok hr fun st' s h4 => ?_
      obtain ⟨v, h5, h6⟩ := sUn_ok hp h4 hd hs
      exact h6.op (by simp only [stepOp, ho, he h1, h5, Option.map_some])
    · cases hr
  · rename_i a b x ho
    split at hr
    · rename_i v h1
      refine one_ok hr fun st' s h4 => ?_
      obtain ⟨w, h5, h6⟩ := sConv_ok hp h4 hd hs
      exact h6.op (by simp only [stepOp, ho, he h1, h5, Option.map_some])
    · cases hr
  · rename_i f a b ho
    split at hr
    · rename_i g x y h1 h2
      split at hr
      · rename_i hn
        simp only [Bool.and_eq_true] at hn
        simp only [Option.some.injEq] at hr
        exact ⟨(st, .fn g x y), by rw [← hr]; exact List.mem_singleton.2 rfl, ok_pure hd hs (by simp only [stepOp, ho, hd.1.evals h1, hd.1.evals h2, S.noLoc_val hn.1 ρ, S.noLoc_val hn.2 ρ, isYield, Bool.not_false, Bool.and_self, if_true, S.val])⟩
      · cases hr
    · cases hr
  · rename_i t x ho
    split at hr
    · rename_i v d h1 h2
      split at hr
      · cases hr
      · rename_i hn
        simp only [Option.some.injEq] at hr
        exact ⟨(st, .iface t v), by rw [← hr]; exact List.mem_singleton.2 rfl, ok_pure hd hs (by simp only [stepOp, ho, he h1, h2, S.isLoc_val, hn, if_false, S.val]; rfl)⟩
    · cases hr
  · rename_i t ho
    refine one_ok hr fun st' s h4 => ?_
    obtain ⟨⟨kt, et, h5⟩, h6⟩ := sMakeMap_ok h4 hd hs
    exact h6.op fun r hr' => by simp only [Option.some.injEq] at hr'; subst hr'; simp only [stepOp, ho]
  · rename_i t l c ho
    split at hr
    · rename_i x y h1 h2
      refine one_ok hr fun st' s h4 => ?_
      obtain ⟨e, j, n, m, h5, h6, h7, h8, h9⟩ := sMakeSlice_ok hp h4 hd hs (St.eval_sc hs h2)
      exact h9.op fun r hr' => by
        simp only [Option.some.injEq] at hr'; subst hr'
        simp only [stepOp, ho, h5, he h1, he h2, h6, h7]
        rw [if_pos h8]
    · cases hr
  · rename_i t x lo hi ho
    split at hr
    · rename_i v l u h1 h2 h3
      refine one_ok hr fun st' s h4 => ?_
      have osc : ∀ {x : Option Operand} {r : Option S}, optS st x = some r → ∀ y, r = some y → y.sc st.m.nv = true := fun {x r} hx y hy => by
        cases x with
        | none => simp only [optS, Option.some.injEq] at hx; subst hx; cases hy
        | some x =>
          simp only [optS, Option.map_eq_some_iff] at hx
          obtain ⟨s, h1, rfl⟩ := hx
          simp only [Option.some.injEq] at hy; subst hy; exact St.eval_sc hs h1
      obtain ⟨w, h5, h6⟩ := sSlice_ok (h := h) hp h4 hd hs (St.eval_sc hs h1) (osc h2) (osc h3)
      refine h6.op ?_
      have nl : ∀ r : Option S, optLoc (r.map (S.val ρ)) = false ∨ ∃ y, r = some y ∧ y.isLoc = true := fun r => by
        cases r with
        | none => exact .inl rfl
        | some y => cases hy : y.isLoc with
          | true => exact .inr ⟨y, rfl, hy⟩
          | false => left; simp only [Option.map_some, optLoc, S.isLoc_val, hy]
      have nll : optLoc (l.map (S.val ρ)) = false := by
        rcases nl l with h | ⟨y, rfl, hy⟩
        · exact h
        · exfalso; cases y <;> simp only [S.isLoc, Bool.false_eq_true] at hy; rename_i a b
          unfold sSlice sCutStr sCut at h4
          simp only [idxT] at h4
          repeat' split at h4
          all_goals simp_all
      have nlu : optLoc (u.map (S.val ρ)) = false := by
        rcases nl u with h | ⟨y, rfl, hy⟩
        · exact h
        · exfalso; cases y <;> simp only [S.isLoc, Bool.false_eq_true] at hy; rename_i a b
          unfold sSlice sCutStr sCut at h4
          simp only [idxT] at h4
          repeat' split at h4
          all_goals simp_all
      have h0n : optLoc (none : Option V) = false := rfl
      have hon : opt fr none = some none := rfl
      simp only [stepOp, ho, he h1, optS_ok hd.1 h2, optS_ok hd.1 h3, hon, nll, nlu, h0n, Bool.or_self, Bool.false_eq_true, if_false, h5, Option.map_some]
    · cases hr
  · rename_i t x f ho
    split at hr
    · rename_i p fd h1 h2
      split at hr
      · rename_i j hj
        split at hr
        · cases hr
        · rename_i hsz
          split at hr
          · rename_i q i k
            split at hr
            · rename_i m es hc
              split at hr
              · rename_i st1 hw
                simp only [Option.some.injEq] at hr
                obtain ⟨a, b, c, d, e⟩ := within_ok hp hw hd hs
                simp only [Tm.val] at b
                refine ⟨(st1, .elp q i (k + fd.offset)), by rw [← hr]; exact List.mem_singleton.2 rfl, ρ, fr, h, Agree.refl _ _, (show st.m.nv ≤ st1.m.nv by omega), ?_, c, d⟩
                have hsro : ∃ row off len full, q.val ρ = .sro row off len full := by
                  rcases sl_cases hc ρ with e' | e'
                  · rw [e'] at b; simp only [vlen] at b; omega
                  · exact e'
                simp only [stepOp, ho, he h1, h2, hj, S.val, elPtr_add hsro]
                rw [if_neg hsz]; rfl
              · cases hr
            · cases hr
          · refine one_ok hr fun st' s h4 => ?_
            simp only [Option.map_eq_some_iff, Prod.mk.injEq] at h4
            obtain ⟨s', h4, rfl, rfl⟩ := h4
            refine ok_pure hd hs ?_
            have e1 := he h1
            have : addOff (p.val ρ) fd.offset = some (s'.val ρ) := by
              rename_i hne
              cases p <;> simp only [sOff, Option.some.injEq, reduceCtorEq] at h4 <;> first
                | exact absurd rfl (hne _ _ _)
                | (subst h4; simp only [S.val, addOff, Off.add_val])
            simp only [stepOp, ho, e1, h2, hj, this]
            rw [if_neg hsz]; rfl
      · cases hr
    · cases hr
  · rename_i t x f ho
    split at hr
    · rename_i cs fd h1 h2
      split at hr
      · rename_i j hj
        split at hr
        · rename_i r h3
          refine one_ok hr fun st' s h4 => ?_
          simp only [Option.map_eq_some_iff, Prod.mk.injEq] at h4
          obtain ⟨s', h4, rfl, rfl⟩ := h4
          refine ok_pure hd hs ?_
          have e1 := he h1
          simp only [S.val] at e1
          simp only [stepOp, ho, e1, h2, hj, sSub_ok h3 ρ, Option.bind_some, sType_ok h4 ρ, Option.map_some]
        · cases hr
      · cases hr
    · cases hr
  · rename_i t x i ho
    split at hr
    · rename_i a b h1 h2
      refine one_ok hr fun st' s h4 => ?_
      obtain ⟨v, h5, h6⟩ := sIndexAddr_ok hp h4 hd hs
      exact h6.op (by simp only [stepOp, ho, he h1, he h2, h5, Option.map_some])
    · cases hr
  · rename_i t x i ho
    split at hr
    · rename_i a b h1 h2
      refine one_ok hr fun st' s h4 => ?_
      obtain ⟨v, h5, h6⟩ := sIndex_ok hp h4 hd hs
      exact h6.op (by simp only [stepOp, ho, he h1, he h2, h5, Option.map_some])
    · cases hr
  · rename_i t m k ok ho
    split at hr
    · rename_i mv kv h1 h2
      refine one_ok hr fun st' s h4 => ?_
      obtain ⟨kt, et, r, j, h5, h6, h7, h8, h9⟩ := sLookup_ok hp h4 hd hs
      refine h9.op ?_
      simp only [stepOp, ho, h5, he h1, he h2, h6, if_true, h7, h8]
      cases r <;> rfl
    · cases hr
  · rename_i t m k x ho
    split at hr
    · rename_i mv kv v h1 h2 h3
      refine one_ok hr fun st' s h4 => ?_
      obtain ⟨kt, et, h', h5, h6, h7, rfl, d, c, n⟩ := sMapSet_ok hp h4 hd hs
      refine ⟨ρ, fr, h', Agree.refl _ _, by omega, ?_, d, c⟩
      simp only [stepOp, ho, h5, he h1, he h2, he h3, h6, if_true, h7, Option.map_some, S.val, S.vals]
    · cases hr
  · rename_i t m k x ho
    split at hr
    · rename_i mv kv v h1 h2 h3
      refine one_ok hr fun st' s h4 => ?_
      obtain ⟨kt, et, h', h5, h6, h7, rfl, d, c, n⟩ := sMapSet_ok hp h4 hd hs
      refine ⟨ρ, fr, h', Agree.refl _ _, by omega, ?_, d, c⟩
      simp only [stepOp, ho, h5, he h1, he h2, he h3, h6, if_true, h7, Option.map_some, S.val, S.vals]
    · cases hr
  · rename_i t x ho
    split at hr
    · rename_i v h1
      refine one_ok hr fun st' s h4 => ?_
      obtain ⟨b, h5, h6, h7⟩ := sRange_ok h4 hd hs
      exact h7.op fun r hr' => by
        simp only [Option.some.injEq] at hr'; subst hr'
        simp only [stepOp, ho, h5, he h1, h6]
    · cases hr
  · rename_i it ho
    split at hr
    · rename_i v h1
      obtain ⟨id, b, pos, h2, h3, r, hr1, hr2⟩ := sNext_ok hp hr hd hs
      refine ⟨r, hr1, hr2.op fun r' hr' => ?_⟩
      simp only [stepOp, ho, he h1, h2, h3]
      by_cases hlt : pos < b.size
      · rw [if_pos hlt] at hr' ⊢
        simp only [Option.some.injEq] at hr'; subst hr'; rfl
      · rw [if_neg hlt] at hr' ⊢
        simp only [Option.some.injEq] at hr'; subst hr'; rfl
    · cases hr
  · rename_i x i ho
    split at hr
    · rename_i vs h1
      refine one_ok hr fun st' s h4 => ?_
      simp only [Option.map_eq_some_iff, Prod.mk.injEq] at h4
      obtain ⟨s', h4, rfl, rfl⟩ := h4
      refine ok_pure hd hs ?_
      have e1 := he h1
      simp only [S.val, S.vals_eq] at e1
      simp only [stepOp, ho, e1, List.getElem?_map, h4, Option.map_some]
    · cases hr
  · rename_i c ho
    split at hr
    · rename_i b hb
      split at hr
      · rename_i vs h1
        split at hr
        · rename_i hn
          have e1 := hd.1.evals h1
          have e2 := S.noLoc_val hn ρ
          split at hr
          · rename_i t x hat
            refine one_ok hr fun st' s h4 => ?_
            simp only [Option.map_eq_some_iff, Prod.mk.injEq] at h4
            obtain ⟨s', h4, rfl, rfl⟩ := h4
            have := sLen_ok (h := h) hp hd.2.facts h4
            simp only [S.vals] at e1 e2
            exact ok_pure hd hs (by simp only [stepOp, ho, hb, e1, e2, if_true, hat, builtinV, this, Option.map_some])
          · rename_i ts vs
            refine one_ok hr fun st' s h4 => ?_
            simp only [Option.map_eq_some_iff, Prod.mk.injEq] at h4
            obtain ⟨s', h4, rfl, rfl⟩ := h4
            have := sMax_ok h4 ρ
            simp only [if_true] at this
            exact ok_pure hd hs (by simp only [stepOp, ho, hb, e1, e2, if_true, builtinV]; rw [this]; rfl)
          · rename_i ts vs
            refine one_ok hr fun st' s h4 => ?_
            simp only [Option.map_eq_some_iff, Prod.mk.injEq] at h4
            obtain ⟨s', h4, rfl, rfl⟩ := h4
            have := sMax_ok h4 ρ
            simp only [Bool.false_eq_true, if_false] at this
            exact ok_pure hd hs (by simp only [stepOp, ho, hb, e1, e2, if_true, builtinV]; rw [this]; rfl)
          · rename_i t u a b' hat
            split at hr
            · rename_i e j q hj hu
              split at hr
              · rename_i hap
                have hsc := (S.scs_all _ _).1 (St.evals_sc hs h1)
                obtain ⟨r, hr1, hr2⟩ := sAppend_ok (h := h) hp hr hd hs (hsc a (by simp)) (hsc b' (by simp)) (isAppendable_ok hap ρ)
                refine ⟨r, hr1, hr2.op fun r' hr' => ?_⟩
                simp only [S.vals] at e1 e2
                simp only [stepOp, ho, hb, e1, e2, if_true, hat, builtinV, hj, hu, hr', Option.map_some]
              · cases hr
            · cases hr
          · cases hr
        · cases hr
      · cases hr
    · cases hr
  · cases hr
end Go.Abs.Sx
