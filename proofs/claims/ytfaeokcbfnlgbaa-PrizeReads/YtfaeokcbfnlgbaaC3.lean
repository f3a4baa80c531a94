import Derived.Test.YtfaeokcbfnlgbaaC2
/- Lemmas: contracts over the visible heap, and that they are sound; no condition. -/
/- Prize: plain laws: how many prizes can be given at most. -/
set_option linter.unusedSimpArgs false
set_option linter.unusedVariables false
set_option maxRecDepth 20000
namespace Go.Proofs.Ytfaeokcbfnlgbaa.G
open Go.V
def less (f : Nat → Bool) (m : Nat) : Nat → Bool := fun k => f k && !decide (k = m)
def candL (T : PT) (f : Nat → Bool) (z : Nat) : List Nat := (List.range T.n).filter fun m => f m && canP T m z
/-- How many prizes can be given at most, of so many from one on. -/
def optN (T : PT) : Nat → Nat → (Nat → Bool) → Nat
  | 0, _, _ => 0
  | r + 1, z, f => (candL T f z).foldl (fun b m => max b (1 + optN T r (z + 1) (less f m))) (optN T r (z + 1) f)
def many (l : List (Option Nat)) : Nat := (l.filter Option.isSome).length
inductive Legit (T : PT) : Nat → Nat → (Nat → Bool) → List (Option Nat) → Prop
  | nil (z : Nat) (f : Nat → Bool) : Legit T 0 z f []
  | none {r z : Nat} {f : Nat → Bool} {g : List (Option Nat)} (h : Legit T r (z + 1) f g) : Legit T (r + 1) z f (none :: g)
  | some {r z m : Nat} {f : Nat → Bool} {g : List (Option Nat)} (hc : Cand T f z m) (h : Legit T r (z + 1) (less f m) g) : Legit T (r + 1) z f (some m :: g)
theorem cand_mem {T : PT} {f : Nat → Bool} {z m : Nat} : m ∈ candL T f z ↔ Cand T f z m := by
  unfold candL Cand
  rw [List.mem_filter, List.mem_range]
  simp only [Bool.and_eq_true]
theorem foldl_max_le {α : Type} (h : α → Nat) : ∀ (l : List α) (b c : Nat), l.foldl (fun b m => max b (h m)) b ≤ c ↔ b ≤ c ∧ ∀ m ∈ l, h m ≤ c
  | [], b, c => by simp
  | x :: l, b, c => by
    rw [List.foldl_cons, foldl_max_le h l]
    simp only [List.mem_cons, forall_eq_or_imp]
    constructor
    · rintro ⟨h1, h2⟩; exact ⟨by omega, by omega, h2⟩
    · rintro ⟨h1, h2, h3⟩; exact ⟨by omega, h3⟩
theorem foldl_max_ge {α : Type} (h : α → Nat) (l : List α) (b : Nat) : b ≤ l.foldl (fun b m => max b (h m)) b ∧ ∀ m ∈ l, h m ≤ l.foldl (fun b m => max b (h m)) b := (foldl_max_le h l b _).1 (Nat.le_refl _)
theorem foldl_max_or {α : Type} (h : α → Nat) : ∀ (l : List α) (b : Nat), l.foldl (fun b m => max b (h m)) b = b ∨ ∃ m ∈ l, l.foldl (fun b m => max b (h m)) b = h m
  | [], b => .inl rfl
  | x :: l, b => by
    rw [List.foldl_cons]
    rcases foldl_max_or h l (max b (h x)) with e | ⟨m, hm, e⟩
    · rw [e]
      by_cases hb : h x ≤ b
      · left; omega
      · right; exact ⟨x, by simp, by omega⟩
    · exact .inr ⟨m, by simp [hm], e⟩
theorem opt_none {T : PT} {r z : Nat} {f : Nat → Bool} : optN T r (z + 1) f ≤ optN T (r + 1) z f := (foldl_max_ge _ _ _).1
theorem opt_some {T : PT} {r z m : Nat} {f : Nat → Bool} (h : Cand T f z m) : 1 + optN T r (z + 1) (less f m) ≤ optN T (r + 1) z f := (foldl_max_ge (fun m => 1 + optN T r (z + 1) (less f m)) _ _).2 m (cand_mem.2 h)
theorem opt_or {T : PT} {r z : Nat} {f : Nat → Bool} : optN T (r + 1) z f = optN T r (z + 1) f ∨ ∃ m, Cand T f z m ∧ optN T (r + 1) z f = 1 + optN T r (z + 1) (less f m) := by
  rcases foldl_max_or (fun m => 1 + optN T r (z + 1) (less f m)) (candL T f z) (optN T r (z + 1) f) with h | ⟨m, hm, h⟩
  · exact .inl h
  · exact .inr ⟨m, cand_mem.1 hm, h⟩
theorem legit_le {T : PT} {r z : Nat} {f : Nat → Bool} {g : List (Option Nat)} (h : Legit T r z f g) : many g ≤ optN T r z f := by
  induction h with
  | nil z f => exact Nat.zero_le _
  | none h ih => exact Nat.le_trans ih opt_none
  | some hc h ih =>
    refine Nat.le_trans ?_ (opt_some hc)
    show (_ :: List.filter Option.isSome _).length ≤ _
    rw [List.length_cons]
    have : (List.filter Option.isSome _).length ≤ _ := ih
    omega
theorem legit_len {T : PT} {r z : Nat} {f : Nat → Bool} {g : List (Option Nat)} (h : Legit T r z f g) : g.length = r := by
  induction h with
  | nil z f => rfl
  | none h ih => simp [ih]
  | some hc h ih => simp [ih]
theorem legit_opt (T : PT) : ∀ (r z : Nat) (f : Nat → Bool), ∃ g, Legit T r z f g ∧ many g = optN T r z f
  | 0, z, f => ⟨[], .nil z f, rfl⟩
  | r + 1, z, f => by
    rcases opt_or (T := T) (r := r) (z := z) (f := f) with h | ⟨m, hm, h⟩
    · obtain ⟨g, h1, h2⟩ := legit_opt T r (z + 1) f
      exact ⟨none :: g, .none h1, by rw [h, ← h2]; rfl⟩
    · obtain ⟨g, h1, h2⟩ := legit_opt T r (z + 1) (less f m)
      refine ⟨some m :: g, .some hm h1, ?_⟩
      rw [h, ← h2]
      show (_ :: List.filter Option.isSome _).length = _
      rw [List.length_cons]
      exact Nat.add_comm _ _
theorem legit_at {T : PT} {r z : Nat} {f : Nat → Bool} {g : List (Option Nat)} (h : Legit T r z f g) : ∀ i m, g[i]? = some (some m) → Cand T f (z + i) m ∧ ∀ j, g[j]? = some (some m) → j = i := by
  induction h with
  | nil z f => intro i m h; simp at h
  | @none r z f g h ih =>
    intro i m hi
    cases i with
    | zero => simp at hi
    | succ i =>
      obtain ⟨h1, h2⟩ := ih i m (by simpa using hi)
      refine ⟨by rw [show z + (i + 1) = z + 1 + i by omega]; exact h1, fun j hj => ?_⟩
      cases j with
      | zero => simp at hj
      | succ j => rw [h2 j (by simpa using hj)]
  | @some r z k f g hc h ih =>
    have hne : ∀ i m, g[i]? = some (some m) → m ≠ k ∧ Cand T f (z + 1 + i) m := fun i m hi => by
      obtain ⟨⟨h1, h2, h3⟩, _⟩ := ih i m hi
      unfold less at h2
      simp only [Bool.and_eq_true, Bool.not_eq_true', decide_eq_false_iff_not] at h2
      exact ⟨h2.2, h1, h2.1, h3⟩
    intro i m hi
    cases i with
    | zero =>
      simp at hi
      subst hi
      refine ⟨hc, fun j hj => ?_⟩
      cases j with
      | zero => rfl
      | succ j => exact absurd rfl (hne j k (by simpa using hj)).1
    | succ i =>
      have hi' : g[i]? = some (some m) := by simpa using hi
      obtain ⟨h1, h2⟩ := ih i m hi'
      obtain ⟨h3, h4⟩ := hne i m hi'
      refine ⟨by rw [show z + (i + 1) = z + 1 + i by omega]; exact h4, fun j hj => ?_⟩
      cases j with
      | zero => simp at hj; exact absurd hj.symm h3
      | succ j => rw [h2 j (by simpa using hj)]
theorem many_idx : ∀ (g : List (Option Nat)), many g = ((List.range g.length).filter fun i => (g.getD i none).isSome).length := by
  intro g
  have key : ∀ k, k ≤ g.length → many (g.take k) = ((List.range k).filter fun i => (g.getD i none).isSome).length := by
    intro k
    induction k with
    | zero => intro _; rfl
    | succ k ih =>
      intro hk
      have hk' : k < g.length := by omega
      rw [List.range_succ, List.filter_append, List.length_append, ← ih (by omega)]
      unfold many
      rw [List.take_add_one, List.getElem?_eq_getElem hk', List.filter_append, List.length_append]
      congr 1
      have : g.getD k none = g[k] := getD_lt hk'
      show (List.filter Option.isSome [g[k]]).length = (List.filter (fun i => (g.getD i none).isSome) [k]).length
      rw [List.filter_cons, List.filter_cons, this]
      cases g[k] <;> rfl
  have := key g.length (Nat.le_refl _)
  rwa [List.take_length] at this
def S0 : Nat → Bool := fun _ => false
/-- How many prizes are given. -/
def suc (T : PT) (M : Nat → Option Nat) (a k : Nat) : Nat := ((List.range k).filter fun i => decide (0 < cnt T.n S0 M (a + i))).length
structure MI (T : PT) (f : Nat → Bool) (M : Nat → Option Nat) (a k : Nat) (C : Nat → Prop) : Prop where
  ed : ∀ m q, M m = some q → (a ≤ q ∧ q < a + k) ∧ Cand T f q m
  c1 : ∀ q, cnt T.n S0 M q ≤ 1
  cl : Closed T f M C
  fa : ∀ i, i < k → cnt T.n S0 M (a + i) = 0 → ∀ m, Cand T f (a + i) m → C m
theorem cnt_ex {n : Nat} {S : Nat → Bool} {M : Nat → Option Nat} {q : Nat} (h : 0 < cnt n S M q) : ∃ m, m < n ∧ M m = some q := by
  unfold cnt at h
  obtain ⟨m, hm⟩ := List.exists_mem_of_length_pos h
  rw [List.mem_filter] at hm
  refine ⟨m, List.mem_range.1 hm.1, ?_⟩
  have := hm.2
  simp only [Bool.and_eq_true, decide_eq_true_eq] at this
  exact this.2
theorem cnt_uni {n : Nat} {M : Nat → Option Nat} {q a b : Nat} (h : cnt n S0 M q ≤ 1) (ha : a < n) (hb : b < n) (h1 : M a = some q) (h2 : M b = some q) : a = b := by
  refine Classical.byContradiction fun hne => ?_
  rcases Nat.lt_or_gt_of_ne hne with hl | hl
  · have := cnt_two (S := S0) hl hb rfl rfl h1 h2; omega
  · have := cnt_two (S := S0) hl ha rfl rfl h2 h1; omega
/-- The one who has a prize. -/
def hasIt (T : PT) (M : Nat → Option Nat) (q : Nat) : Option Nat := (List.range T.n).find? fun m => decide (M m = some q)
theorem hasIt_some {T : PT} {M : Nat → Option Nat} {q m : Nat} (h : hasIt T M q = some m) : m < T.n ∧ M m = some q := by
  have h1 := List.find?_some h
  have h2 := List.mem_of_find?_eq_some h
  exact ⟨List.mem_range.1 h2, of_decide_eq_true h1⟩
theorem hasIt_none {T : PT} {M : Nat → Option Nat} {q : Nat} (h : hasIt T M q = none) : cnt T.n S0 M q = 0 := by
  refine cnt_zero fun m hm he => ?_
  have := List.find?_eq_none.1 h m (List.mem_range.2 hm)
  simp [he] at this
theorem hasIt_pos {T : PT} {M : Nat → Option Nat} {q : Nat} : (hasIt T M q).isSome = decide (0 < cnt T.n S0 M q) := by
  cases h : hasIt T M q with
  | none => rw [hasIt_none h]; rfl
  | some m =>
    obtain ⟨h1, h2⟩ := hasIt_some h
    have := cnt_pos (S := S0) h1 rfl h2
    rw [decide_eq_true this]; rfl
def gM (T : PT) (M : Nat → Option Nat) (a k : Nat) : List (Option Nat) := (List.range k).map fun i => hasIt T M (a + i)
theorem gM_succ (T : PT) (M : Nat → Option Nat) (a k : Nat) : gM T M a (k + 1) = hasIt T M a :: gM T M (a + 1) k := by
  unfold gM
  rw [List.range_succ_eq_map, List.map_cons, List.map_map]
  congr 1
  apply List.map_congr_left
  intro i _
  show hasIt T M (a + (i + 1)) = _
  rw [show a + (i + 1) = a + 1 + i by omega]
theorem gM_legit {T : PT} {M : Nat → Option Nat} : ∀ (k a : Nat) (f : Nat → Bool), (∀ m q, M m = some q → a ≤ q → Cand T f q m) → Legit T k a f (gM T M a k)
  | 0, a, f, _ => .nil a f
  | k + 1, a, f, h => by
    rw [gM_succ]
    cases hh : hasIt T M a with
    | none => exact .none (gM_legit k (a + 1) f fun m q hm hq => h m q hm (by omega))
    | some m =>
      obtain ⟨h1, h2⟩ := hasIt_some hh
      refine .some (h m a h2 (Nat.le_refl _)) (gM_legit k (a + 1) (less f m) fun m' q hm hq => ?_)
      obtain ⟨g1, g2, g3⟩ := h m' q hm (by omega)
      refine ⟨g1, ?_, g3⟩
      unfold less
      rw [g2, Bool.true_and]
      have : ¬ m' = m := fun e => by subst e; rw [h2] at hm; have := Option.some.inj hm; omega
      rw [decide_eq_false this]; rfl
theorem gM_many (T : PT) (M : Nat → Option Nat) (a k : Nat) : many (gM T M a k) = suc T M a k := by
  rw [many_idx]
  unfold suc
  have hl : (gM T M a k).length = k := by simp [gM]
  rw [hl]
  congr 1
  apply List.filter_congr
  intro i hi
  have hg : (gM T M a k)[i]? = some (hasIt T M (a + i)) := by
    unfold gM
    rw [List.getElem?_map, List.getElem?_range (List.mem_range.1 hi)]; rfl
  rw [List.getD_eq_getElem?_getD, hg, ← hasIt_pos]; rfl
theorem suc_max {T : PT} {f : Nat → Bool} {M : Nat → Option Nat} {a k : Nat} {C : Nat → Prop} (h : MI T f M a k C) {g : List (Option Nat)} (hg : Legit T k a f g) : many g ≤ suc T M a k := by
  rw [many_idx, legit_len hg]
  unfold suc
  have hat := legit_at hg
  have hlen := legit_len hg
  -- where a prize goes
  have key : ∀ i, ∃ j, i < k → (g.getD i none).isSome = true → (j < k ∧ 0 < cnt T.n S0 M (a + j)) ∧ (((∀ m, Cand T f (a + i) m → C m) ∧ ∃ m, g.getD i none = some m ∧ M m = some (a + j) ∧ (∀ m', Cand T f (a + j) m' → C m')) ∨ (¬ (∀ m, Cand T f (a + i) m → C m) ∧ j = i)) := by
    intro i
    by_cases hik : i < k
    · by_cases hs : (g.getD i none).isSome = true
      · obtain ⟨m, hm⟩ := Option.isSome_iff_exists.1 hs
        have hgi : g[i]? = some (some m) := by rw [List.getElem?_eq_getElem (by omega)]; rw [getD_lt (by omega)] at hm; rw [hm]
        obtain ⟨hc, _⟩ := hat i m hgi
        by_cases hT : ∀ m, Cand T f (a + i) m → C m
        · obtain ⟨q, hq, hq2⟩ := h.cl m (hT m hc)
          obtain ⟨⟨h1, h2⟩, _⟩ := h.ed m q hq
          refine ⟨q - a, fun _ _ => ⟨⟨by omega, ?_⟩, .inl ⟨hT, m, hm, by rw [hq]; congr 1; omega, by rw [show a + (q - a) = q by omega]; exact hq2⟩⟩⟩
          rw [show a + (q - a) = q by omega]
          exact cnt_pos hc.1 rfl hq
        · refine ⟨i, fun _ _ => ⟨⟨hik, ?_⟩, .inr ⟨hT, rfl⟩⟩⟩
          rcases Nat.eq_zero_or_pos (cnt T.n S0 M (a + i)) with h0 | h0
          · exact absurd (h.fa i hik h0) hT
          · exact h0
      · exact ⟨0, fun _ hh => absurd hh hs⟩
    · exact ⟨0, fun hh => absurd hh hik⟩
  obtain ⟨φ, hφ⟩ := Classical.axiomOfChoice key
  have hfil : ∀ i, i ∈ ((List.range k).filter fun i => (g.getD i none).isSome) ↔ i < k ∧ (g.getD i none).isSome = true := fun i => by rw [List.mem_filter, List.mem_range]
  rw [← List.length_map (f := φ)]
  refine sub_len _ _ ?_ (fun j hj => ?_)
  · have hinj : ∀ i i', i < k → (g.getD i none).isSome = true → i' < k → (g.getD i' none).isSome = true → φ i = φ i' → i = i' := by
      intro i i' h1 h2 h3 h4 he
      obtain ⟨_, g2⟩ := hφ i h1 h2
      obtain ⟨_, g4⟩ := hφ i' h3 h4
      rcases g2 with ⟨t1, m, hm, hM, hc⟩ | ⟨t1, e1⟩
      · rcases g4 with ⟨t2, m', hm', hM', hc'⟩ | ⟨t2, e2⟩
        · rw [← he] at hM'
          have hgi : g[i]? = some (some m) := by rw [List.getElem?_eq_getElem (by omega)]; rw [getD_lt (by omega)] at hm; rw [hm]
          have hgi' : g[i']? = some (some m') := by rw [List.getElem?_eq_getElem (by omega)]; rw [getD_lt (by omega)] at hm'; rw [hm']
          have e := cnt_uni (h.c1 _) (hat i m hgi).1.1 (hat i' m' hgi').1.1 hM hM'
          subst e
          exact ((hat i m hgi).2 i' hgi').symm
        · rw [he, e2] at hc
          exact absurd hc t2
      · rcases g4 with ⟨t2, m', hm', hM', hc'⟩ | ⟨t2, e2⟩
        · rw [← he, e1] at hc'
          exact absurd hc' t1
        · omega
    have nd : ∀ l : List Nat, l.Nodup → (∀ i ∈ l, i < k ∧ (g.getD i none).isSome = true) → (l.map φ).Nodup := by
      intro l
      induction l with
      | nil => intro _ _; simp
      | cons x l ih =>
        intro hn hm
        rw [List.nodup_cons] at hn
        rw [List.map_cons, List.nodup_cons]
        refine ⟨fun hx => ?_, ih hn.2 fun i hi => hm i (by simp [hi])⟩
        obtain ⟨y, hy, e⟩ := List.mem_map.1 hx
        have hx' := hm x (by simp)
        have hy' := hm y (by simp [hy])
        have := hinj y x hy'.1 hy'.2 hx'.1 hx'.2 e
        subst this
        exact hn.1 hy
    exact nd _ (List.nodup_range.filter _) fun i hi => (hfil i).1 hi
  · obtain ⟨i, hi, rfl⟩ := List.mem_map.1 hj
    obtain ⟨h1, h2⟩ := (hfil i).1 hi
    obtain ⟨g1, _⟩ := hφ i h1 h2
    rw [List.mem_filter, List.mem_range]
    exact ⟨g1.1, decide_eq_true g1.2⟩
/-- What is found is the most. -/
theorem suc_opt {T : PT} {f : Nat → Bool} {M : Nat → Option Nat} {a k : Nat} {C : Nat → Prop} (h : MI T f M a k C) : suc T M a k = optN T k a f := by
  refine Nat.le_antisymm ?_ ?_
  · rw [← gM_many]
    exact legit_le (gM_legit k a f fun m q hm _ => (h.ed m q hm).2)
  · obtain ⟨g, h1, h2⟩ := legit_opt T k a f
    rw [← h2]
    exact suc_max h h1
theorem MI.zero (T : PT) (f : Nat → Bool) (a : Nat) : MI T f (fun _ => none) a 0 (fun _ => False) where
  ed := fun m q h => by cases h
  c1 := fun q => by rw [cnt_zero fun m _ h => by cases h]; omega
  cl := fun m h => h.elim
  fa := fun i hi => by omega
theorem suc_succ (T : PT) (M : Nat → Option Nat) (a k : Nat) : suc T M a (k + 1) = suc T M a k + one1 (0 < cnt T.n S0 M (a + k)) := by
  unfold suc one1
  rw [List.range_succ, List.filter_append, List.length_append]
  congr 1
  by_cases h : 0 < cnt T.n S0 M (a + k) <;> simp [h]
theorem suc_same {T : PT} {M M' : Nat → Option Nat} {a : Nat} : ∀ k, (∀ i, i < k → cnt T.n S0 M' (a + i) = cnt T.n S0 M (a + i)) → suc T M' a k = suc T M a k
  | 0, _ => rfl
  | k + 1, h => by rw [suc_succ, suc_succ, suc_same k fun i hi => h i (by omega), h k (by omega)]
theorem MI.new0 {T : PT} {f : Nat → Bool} {M : Nat → Option Nat} {a k : Nat} {C : Nat → Prop} (h : MI T f M a k C) : cnt T.n S0 M (a + k) = 0 := cnt_zero fun m _ hm => by have := (h.ed m _ hm).1; omega
theorem MI.yes {T : PT} {f : Nat → Bool} {M M' : Nat → Option Nat} {a k : Nat} {C : Nat → Prop} (h : MI T f M a k C) (t : Tr T f S0 M (a + k) M') : MI T f M' a (k + 1) C ∧ suc T M' a (k + 1) = suc T M a k + 1 := by
  have h0 := h.new0
  have hcn : ∀ q, q ≠ a + k → cnt T.n S0 M' q = cnt T.n S0 M q := fun q hq => by rw [t.cn]; unfold one1; rw [if_neg hq, Nat.add_zero]
  have hz : cnt T.n S0 M' (a + k) = 1 := by rw [t.cn, h0]; unfold one1; rw [if_pos rfl]
  have hcl := t.cl C h.cl
  refine ⟨⟨fun m q hm => ?_, fun q => ?_, fun m hm => ?_, fun i hi h1 m hm => ?_⟩, ?_⟩
  · rcases t.ed m q hm with h1 | ⟨h1, h2⟩
    · have := h.ed m q h1
      exact ⟨⟨this.1.1, by omega⟩, this.2⟩
    · refine ⟨?_, h1⟩
      rcases h2 with rfl | ⟨k', hk'⟩
      · exact ⟨by omega, by omega⟩
      · have := (h.ed k' q hk').1; exact ⟨this.1, by omega⟩
  · by_cases hq : q = a + k
    · rw [hq, hz]; omega
    · rw [hcn q hq]; exact h.c1 q
  · obtain ⟨q, hq, hq2⟩ := h.cl m hm
    exact ⟨q, by rw [hcl.2 m hm]; exact hq, hq2⟩
  · by_cases e : i = k
    · subst e; rw [hz] at h1; omega
    · rw [hcn _ (by omega)] at h1
      exact h.fa i (by omega) h1 m hm
  · rw [suc_succ, suc_same k fun i hi => hcn _ (by omega), hz]; rfl
theorem MI.nay {T : PT} {f : Nat → Bool} {M : Nat → Option Nat} {a k : Nat} {C : Nat → Prop} {S' : Nat → Bool} (h : MI T f M a k C) (t : Fa T f S0 M (a + k) S') : MI T f M a (k + 1) (fun m => C m ∨ S' m = true) ∧ suc T M a (k + 1) = suc T M a k := by
  have h0 := h.new0
  refine ⟨⟨fun m q hm => ?_, h.c1, fun m hm => ?_, fun i hi h1 m hm => ?_⟩, ?_⟩
  · have := h.ed m q hm
    exact ⟨⟨this.1.1, by omega⟩, this.2⟩
  · rcases hm with hm | hm
    · obtain ⟨q, h1, h2⟩ := h.cl m hm
      exact ⟨q, h1, fun m' hm' => .inl (h2 m' hm')⟩
    · obtain ⟨q, h1, h2⟩ := t.cl m hm rfl
      exact ⟨q, h1, fun m' hm' => .inr (h2 m' hm')⟩
  · by_cases e : i = k
    · subst e; exact .inr (t.all m hm)
    · exact .inl (h.fa i (by omega) h1 m hm)
  · rw [suc_succ, h0]; rfl
end Go.Proofs.Ytfaeokcbfnlgbaa.G

/- Prize: somebody is found for a prize, and for others that become free of somebody. -/
set_option linter.unusedSimpArgs false
set_option linter.unusedVariables false
set_option maxRecDepth 20000
namespace Go.Proofs.Ytfaeokcbfnlgbaa.G
open Go.V
/-- Who has which prize. -/
def MapM (s : Hp) (r : Nat) (M : Nat → Option Nat) : Prop := ∃ g, MapI s r g ∧ ∀ m : Nat, g (m : Int) = (M m).map fun (z : Nat) => Value.int .i64 (z : Int)
section
variable {s s' : Hp} {r : Nat} {M : Nat → Option Nat}
theorem MapM.ext (e : Ext s s') (h : MapM s r M) : MapM s' r M := by
  obtain ⟨g, h1, h2⟩ := h
  exact ⟨g, h1.ext e, h2⟩
theorem MapM.kp {D : Nat → Prop} (e : Kp D s s') (hd : ¬ D r) (h : MapM s r M) : MapM s' r M := by
  obtain ⟨g, h1, h2⟩ := h
  exact ⟨g, h1.kp e hd, h2⟩
theorem MapM.new (h : MapI s r (fun _ => none)) : MapM s r (fun _ => none) := ⟨_, h, fun m => rfl⟩
theorem MapM.cell {a : Addr} {v : Value} (h : MapM s r M) (hc : cellAt s a = some v) : a.block ≠ r := by obtain ⟨g, h1, _⟩ := h; exact h1.cell hc
theorem TkN.cell {a : Addr} {v : Value} {F : Nat → Bool} (h : TkN s r F) (hc : cellAt s a = some v) : a.block ≠ r := by obtain ⟨g, h1, _⟩ := h; exact h1.cell hc
theorem MapM.put {m z : Nat} {K : Hp → Prop} (h : MapM s r M) (hk : ∀ s', Kp (· = r) s s' → s'.size = s.size → MapM s' r (updM M m z) → K s') : MUP Pg 117 (.map (some r)) (.int .i64 (m : Nat)) (.int .i64 (z : Nat)) K s := by
  obtain ⟨g, h1, h2⟩ := h
  obtain ⟨e, ht, _⟩ := und_117
  refine MUP_v ht h1 fun s1 k1 z1 m1 => hk s1 k1 z1 ⟨_, m1, fun k => ?_⟩
  unfold updI updM
  by_cases hkm : k = m
  · subst hkm
    rw [if_pos rfl, if_pos rfl]; rfl
  · rw [if_neg (by omega), if_neg hkm]
    exact h2 k
theorem MapM.get {m : Nat} {K : VK} (h : MapM s r M) (h1 : ∀ z, M m = some z → K (.tuple #[.int .i64 (z : Nat), .bool true]) s) (h2 : M m = none → K (.tuple #[.int .i64 0, .bool false]) s) : LKP Pg 117 (.map (some r)) (.int .i64 (m : Nat)) true K s := by
  obtain ⟨g, g1, g2⟩ := h
  obtain ⟨e, ht, hz⟩ := und_117
  refine LKP_v ht hz g1 (fun v hv => ?_) (fun hv => ?_)
  · rw [g2 m] at hv
    cases hM : M m with
    | none => rw [hM] at hv; cases hv
    | some z => rw [hM] at hv; cases hv; exact h1 z hM
  · have hM : M m = none := by
      rw [g2 m] at hv
      cases hM : M m with
      | none => rfl
      | some z => rw [hM] at hv; cases hv
    exact h2 hM
end
/-- Where a search keeps its things. -/
structure Pl where
  a2 : Addr
  a3 : Addr
  a4 : Addr
  a5 : Addr
  a6 : Addr
  rs : Nat
  rp : Nat
def Pl.val (c : Pl) : Value := .func (.func 83) #[] #[.pointer (some c.a2), .pointer (some c.a3), .pointer (some c.a4), .pointer (some c.a5), .pointer (some c.a6)]
structure PlS (s0 : Hp) (p : Addr) (v : Value) (c : Pl) (S : Nat → Bool) (M : Nat → Option Nat) (s : Hp) : Prop where
  ext : Ext s0 s
  c2 : cellAt s c.a2 = some (.pointer (some p))
  c3 : cellAt s c.a3 = some v
  c4 : cellAt s c.a4 = some (.map (some c.rs))
  c5 : cellAt s c.a5 = some (.map (some c.rp))
  c6 : cellAt s c.a6 = some c.val
  seen : TkN s c.rs S
  has : MapM s c.rp M
structure PlA (s0 : Hp) (c : Pl) : Prop where
  ne : c.rs ≠ c.rp
  ls : s0.size ≤ c.rs
  lp : s0.size ≤ c.rp
section
variable {W : World} {s0 s s' : Hp} {p : Addr} {T : PT} {v : Value} {R : Hp → Prop} {f : Nat → Bool} {c : Pl} {S : Nat → Bool} {M : Nat → Option Nat}
theorem PlS.to (e : Ext s s') (h : PlS s0 p v c S M s) : PlS s0 p v c S M s' := ⟨h.ext.trans e, e.cell h.c2, e.cell h.c3, e.cell h.c4, e.cell h.c5, e.cell h.c6, h.seen.ext e, h.has.ext e⟩
theorem PlS.putS {S' : Nat → Bool} (ha : PlA s0 c) (k : Kp (· = c.rs) s s') (ht : TkN s' c.rs S') (h : PlS s0 p v c S M s) : PlS s0 p v c S' M s' :=
  ⟨ext_kp h.ext ha.ls k, k.cell (h.seen.cell h.c2) h.c2, k.cell (h.seen.cell h.c3) h.c3, k.cell (h.seen.cell h.c4) h.c4, k.cell (h.seen.cell h.c5) h.c5, k.cell (h.seen.cell h.c6) h.c6, ht, h.has.kp k (fun e => ha.ne e.symm)⟩
theorem PlS.putM {M' : Nat → Option Nat} (ha : PlA s0 c) (k : Kp (· = c.rp) s s') (ht : MapM s' c.rp M') (h : PlS s0 p v c S M s) : PlS s0 p v c S M' s' :=
  ⟨ext_kp h.ext ha.lp k, k.cell (h.has.cell h.c2) h.c2, k.cell (h.has.cell h.c3) h.c3, k.cell (h.has.cell h.c4) h.c4, k.cell (h.has.cell h.c5) h.c5, k.cell (h.has.cell h.c6) h.c6, h.seen.kp k (fun e => ha.ne e), ht⟩
theorem PlS.set {a : Addr} {x y : Value} (hl : s0.size ≤ a.block) (ho : Own s a x) (hx : ∀ q, x ≠ .pointer q) (hx3 : x ≠ v) (hxm : ∀ q, x ≠ .map q) (hxf : x ≠ c.val) (h : PlS s0 p v c S M s) : PlS s0 p v c S M (setC s a y) := by
  have ne : ∀ {b : Addr} {w : Value}, cellAt s b = some w → x ≠ w → b.block ≠ a.block ∨ b.off ≠ a.off := fun {b w} hb hw => by
    by_cases h1 : b.block = a.block
    · refine .inr fun h2 => hw ?_
      have e : b = a := by
        have h3 := cell_spot hb
        have h4 := cell_spot ho.cell
        cases b; cases a; simp_all
      rw [e, ho.cell] at hb
      exact Option.some.inj hb
    · exact .inl h1
  have k : Kp (· = a.block) s (setC s a y) := Kp.setC (Kp.refl s) (.inl rfl)
  have hs := h.seen.cell ho.cell
  have hh := h.has.cell ho.cell
  exact ⟨Ext.setC h.ext hl, cell_set_ne (ne h.c2 (hx _)) h.c2, cell_set_ne (ne h.c3 hx3) h.c3, cell_set_ne (ne h.c4 (hxm _)) h.c4, cell_set_ne (ne h.c5 (hxm _)) h.c5, cell_set_ne (ne h.c6 hxf) h.c6, h.seen.kp k (fun e => hs e.symm), h.has.kp k (fun e => hh e.symm)⟩
def uns (n : Nat) (S : Nat → Bool) : Nat := ((List.range n).filter fun m => !S m).length
theorem uns_less {n m : Nat} {S S' : Nat → Bool} (hle : ∀ k, S k = true → S' k = true) (hm : m < n) (h1 : S m = false) (h2 : S' m = true) : uns n S' < uns n S := by
  unfold uns
  have key : ∀ l : List Nat, (l.filter fun k => !S' k).length ≤ (l.filter fun k => !S k).length ∧ (m ∈ l → (l.filter fun k => !S' k).length < (l.filter fun k => !S k).length) := by
    intro l
    induction l with
    | nil => exact ⟨Nat.le_refl _, fun h => by cases h⟩
    | cons x l ih =>
      rw [List.filter_cons, List.filter_cons]
      have hx : S' x = false → S x = false := fun h => by
        cases hs : S x with
        | false => rfl
        | true => rw [hle x hs] at h; cases h
      refine ⟨?_, fun hmem => ?_⟩
      · cases h3 : S' x with
        | true => cases h4 : S x <;> simp <;> omega
        | false => rw [hx h3]; simp; omega
      · rcases List.mem_cons.1 hmem with rfl | hmem
        · rw [h1, h2]; simp; omega
        · have := ih.2 hmem
          cases h3 : S' x with
          | true => cases h4 : S x <;> simp <;> omega
          | false => rw [hx h3]; simp; omega
  exact (key (List.range n)).2 (List.mem_range.2 hm)
theorem zc_4 : zc Pg 4 = [.bool false] := by kernel_rfl
theorem c_place (hp : PrO s0 p T) (hf : IsFn W v T.n R f) (hR : R s0) (ha : PlA s0 c) (hv0 : ∀ b, Value.bool b ≠ v) : ∀ (u : Nat) (S : Nat → Bool) (M : Nat → Option Nat) (z : Nat) (s : Hp) (K : VK) (E : List PanicEntry → Hp → Prop), uns T.n S = u → z < T.z → (∀ m q, M m = some q → q < T.z) → PlS s0 p v c S M s →
    (∀ s' (b : Bool) S' M', PlS s0 p v c S' M' s' → Kp (fun b => b = c.rs ∨ b = c.rp) s s' → (b = true → Tr T f S M z M') → (b = false → M' = M ∧ Fa T f S M z S') → K (.bool b) s') →
    CALL Pg W 83 [.int .i64 (z : Nat), .pointer (some c.a2), .pointer (some c.a3), .pointer (some c.a4), .pointer (some c.a5), .pointer (some c.a6)] K E s := by
  have hvd := okP_vd hp.ok
  intro u
  induction u using Nat.strongRecOn with
  | _ u ih =>
  intro S M z s K E hu hz hM hs h
  refine does_prize_prizes_most_c1 W z c.a2 c.a3 c.a4 c.a5 c.a6 _ s ?_
  unfold T_prize_prizes_most_c1
  refine ne1 fun s1 e1 z1 o1 => ?_
  refine nz1 zc_4 fun s2 e2 z2 o2 => ?_
  have hs2 := hs.to (e1.trans e2)
  refine ⟨_, hs2.c2, _, hs2.c3, ?_⟩
  refine c_order hf.one fun s3 a b e3 ga gb ca cb => ?_
  have hs3 := hs2.to e3
  have e03 := e1.trans (e2.trans e3)
  have c7 := (e2.trans e3).cell o1.cell
  have c8 := e3.own o2
  have no : ∀ {q : Addr} {w : Value}, cellAt s3 q = some w → ¬ (q.block = c.rs ∨ q.block = c.rp) := fun hq hh => hh.elim (hs3.seen.cell hq) (hs3.has.cell hq)
  have hs1 : s1.size = s.size + 1 := z1
  have hsz : s.size ≤ s3.size := e03.1
  have kpC : ∀ {t : Hp}, Kp (fun b => b = c.rs ∨ b = c.rp) s3 t → Kp (fun b => b = c.rs ∨ b = c.rp) s t := fun k => e03.kp.trans k
  refine rng_order (p := p) hf (fun k t => ∃ Sk, PlS s0 p v c Sk M t ∧ Kp (fun b => b = c.rs ∨ b = c.rp) s3 t ∧ (∀ m, S m = true → Sk m = true) ∧ (∀ j x, j < k → (ordF T f)[j]? = some x → canP T x z = true → Sk x = true) ∧ (∀ m, Sk m = true → S m = false → ∃ q, M m = some q ∧ ∀ m', Cand T f q m' → Sk m' = true))
    (fun cd t => cd = Code.ret ∧ ∃ S' M', PlS s0 p v c S' M' t ∧ Kp (fun b => b = c.rs ∨ b = c.rp) s t ∧ cellAt t ⟨s1.size, 0, none⟩ = some (.bool true) ∧ Tr T f S M z M') ?_ ?_ ?_ ?_ ?_ ?_
  · rintro k t ⟨Sk, g1, g2, _⟩
    exact ⟨hp.ext g1.ext, g2.cell (no ca) ca, g2.cell (no cb) cb, hf.ext _ _ hR g1.ext⟩
  · rintro k t t' ⟨Sk, g1, g2, g3⟩ e
    exact ⟨Sk, g1.to e, g2.ext e, g3⟩
  · exact ⟨S, hs3, Kp.refl _, fun m h => h, fun j x hj => by omega, fun m h1 h2 => by rw [h1] at h2; cases h2⟩
  · rintro k m hkm hmn t ⟨Sk, g1, g2, g3, g4, g5⟩
    try simp only [TUP_mk, AGG_mk, HD_mk, NL_mk, TYI_mk, TYB_mk, TYP_mk, TYL_mk, TYS_mk, TYM_mk, SO_mk, NX_mk, endK_mk, endK_mk', add_0]
    have c7t := g2.cell (no c7) c7
    have c8t := g2.own (no c8.cell) c8
    have hfm : f m = true := (List.mem_filter.1 (List.mem_of_getElem? hkm)).2
    refine ⟨_, g1.c4, ?_⟩
    refine g1.seen.get ?_
    try simp only [TUP_mk, AGG_mk, HD_mk, NL_mk, TYI_mk, TYB_mk, TYP_mk, TYL_mk, TYS_mk, TYM_mk, SO_mk, NX_mk, endK_mk, endK_mk', add_0]
    -- the man is passed over
    have pass : ∀ t', Ext t t' → (canP T m z = true → Sk m = true) → ∃ Sk, PlS s0 p v c Sk M t' ∧ Kp (fun b => b = c.rs ∨ b = c.rp) s3 t' ∧ (∀ m, S m = true → Sk m = true) ∧ (∀ j x, j < k + 1 → (ordF T f)[j]? = some x → canP T x z = true → Sk x = true) ∧ (∀ m, Sk m = true → S m = false → ∃ q, M m = some q ∧ ∀ m', Cand T f q m' → Sk m' = true) := by
      intro t' e hh
      refine ⟨Sk, g1.to e, g2.ext e, g3, fun j x hj hx hc => ?_, g5⟩
      by_cases ej : j = k
      · subst ej; rw [hkm] at hx; cases hx; exact hh hc
      · exact g4 j x (by omega) hx hc
    refine BR_bool (fun hsk => ?_) (fun hsk => ?_)
    · unfold J_prize_prizes_most_c1_0
      exact BR_tt rfl (pass t (Ext.refl _) (fun _ => hsk))
    refine ⟨_, g1.c2, _, c7t, ?_⟩
    refine c_can (hp.ext g1.ext) hmn hz fun t1 f1 => ?_
    try simp only [TUP_mk, AGG_mk, HD_mk, NL_mk, TYI_mk, TYB_mk, TYP_mk, TYL_mk, TYS_mk, TYM_mk, SO_mk, NX_mk, endK_mk, endK_mk', add_0]
    unfold J_prize_prizes_most_c1_0
    refine BR_not (fun hc => ?_) (fun hc => ?_)
    · exact pass t1 f1 (fun h => by rw [hc] at h; cases h)
    have hS : S m = false := by
      cases h1 : S m with
      | false => rfl
      | true => rw [g3 m h1] at hsk; cases hsk
    have hcand : Cand T f z m := ⟨hmn, hfm, hc⟩
    have g1' := g1.to f1
    refine ⟨_, g1'.c4, ?_⟩
    refine TkN.put g1'.seen fun t2 k2 z2' htk => ?_
    have g6 := g1'.putS ha k2 htk
    have kk2 : Kp (fun b => b = c.rs ∨ b = c.rp) s3 t2 := (g2.ext f1).trans (k2.mono fun b hb => .inl hb)
    have c7u := kk2.cell (no c7) c7
    have c8u := kk2.own (no c8.cell) c8
    generalize hSk2 : (fun k => if k = m then true else Sk k) = Sk2 at *
    have hle2 : ∀ k, Sk k = true → Sk2 k = true := fun k hk => by rw [← hSk2]; show (if k = m then true else Sk k) = true; split <;> first | rfl | exact hk
    have hm2 : Sk2 m = true := by rw [← hSk2]; simp
    -- the man gets the prize
    have give : ∀ t3 S3 M3, PlS s0 p v c S3 M3 t3 → Kp (fun b => b = c.rs ∨ b = c.rp) s3 t3 → Tr T f S M z (updM M3 m z) → (RDM c.a5 fun m32 => RDI .i64 ⟨s.size, 0, none⟩ fun n33 => MUP Pg 117 (.map m32) (.int .i64 (m : Nat)) (.int .i64 n33) <| WR (Addr.add ⟨s1.size, 0, none⟩ 0) (.bool true) <| fun t' => True ∧ ∃ S' M', PlS s0 p v c S' M' t' ∧ Kp (fun b => b = c.rs ∨ b = c.rp) s t' ∧ cellAt t' ⟨s1.size, 0, none⟩ = some (.bool true) ∧ Tr T f S M z M') t3 := by
      intro t3 S3 M3 q1 q2 q3
      refine ⟨_, q1.c5, _, q2.cell (no c7) c7, ?_⟩
      refine MapM.put q1.has fun t4 k4 z4 h4 => ?_
      have q4 := q1.putM ha k4 h4
      have kk4 := q2.trans (k4.mono fun b hb => .inr hb : Kp (fun b => b = c.rs ∨ b = c.rp) t3 t4)
      have c84 := kk4.own (no c8.cell) c8
      refine WR_own c84 rfl ?_
      refine ⟨trivial, S3, updM M3 m z, q4.set (by have := hs.ext.1; show s0.size ≤ s1.size; omega) c84 (by simp) (hv0 _) (by simp) (by unfold Pl.val; simp), ?_, (own_set c84).cell, q3⟩
      exact Kp.setC (kpC kk4) (.inr (by show s.size ≤ s1.size; omega))
    refine ⟨_, g6.c5, ?_⟩
    refine MapM.get g6.has (fun old hold => ?_) (fun hnone => ?_)
    · try simp only [TUP_mk, AGG_mk, HD_mk, NL_mk, TYI_mk, TYB_mk, TYP_mk, TYL_mk, TYS_mk, TYM_mk, SO_mk, NX_mk, endK_mk, endK_mk', add_0]
      refine ⟨_, g6.c6, ?_⟩
      unfold Pl.val
      refine CALLV_func ?_
      have hless : uns T.n Sk2 < u := by
        rw [← hu]
        exact uns_less (fun k hk => hle2 k (g3 k hk)) hmn hS hm2
      refine ih (uns T.n Sk2) hless Sk2 M old t2 _ _ rfl (hM m old hold) hM g6 fun t3 b S3 M3 q1 q2 q3 q4 => ?_
      try simp only [TUP_mk, AGG_mk, HD_mk, NL_mk, TYI_mk, TYB_mk, TYP_mk, TYL_mk, TYS_mk, TYM_mk, SO_mk, NX_mk, endK_mk, endK_mk', add_0]
      have kk3 := kk2.trans q2
      refine BR_bool (fun hb => ?_) (fun hb => ?_)
      · have hT := q3 hb
        exact give t3 S3 M3 q1 kk3 (Tr.next hcand hold hS (fun k hk => hle2 k (g3 k hk)) hm2 hT)
      · obtain ⟨rfl, hFa⟩ := q4 hb
        refine ⟨S3, q1, kk3, fun k hk => hFa.le k (hle2 k (g3 k hk)), fun j x hj hx hcx => ?_, fun k hk hk0 => ?_⟩
        · by_cases ej : j = k
          · subst ej; rw [hkm] at hx; cases hx; exact hFa.le m hm2
          · exact hFa.le x (hle2 x (g4 j x (by omega) hx hcx))
        · by_cases hk2 : Sk2 k = true
          · by_cases ekm : k = m
            · subst ekm
              exact ⟨old, hold, hFa.all⟩
            · have hkk : Sk k = true := by rw [← hSk2] at hk2; simpa [ekm] using hk2
              obtain ⟨q, hq1, hq2⟩ := g5 k hkk hk0
              exact ⟨q, hq1, fun m' hm' => hFa.le m' (hle2 m' (hq2 m' hm'))⟩
          · exact hFa.cl k hk (by cases h3 : Sk2 k with
              | false => rfl
              | true => exact absurd h3 hk2)
    · try simp only [TUP_mk, AGG_mk, HD_mk, NL_mk, TYI_mk, TYB_mk, TYP_mk, TYL_mk, TYS_mk, TYM_mk, SO_mk, NX_mk, endK_mk, endK_mk', add_0]
      refine BR_tt rfl ?_
      exact give t2 Sk2 M g6 kk2 (Tr.free (S2 := S) hcand hnone hS)
  · rintro t ⟨Sk, g1, g2, g3, g4, g5⟩
    have c8t := g2.own (no c8.cell) c8
    refine WR_own c8t rfl ?_
    refine ⟨_, (own_set c8t).cell, ?_⟩
    refine h _ false Sk M (g1.set (by have := hs.ext.1; show s0.size ≤ s1.size; omega) c8t (by simp) (hv0 _) (by simp) (by unfold Pl.val; simp)) (Kp.setC (kpC g2) (.inr (by show s.size ≤ s1.size; omega))) (fun hh => by cases hh) (fun _ => ⟨rfl, g3, fun m hm => ?_, g5⟩)
    have hmem : m ∈ ordF T f := List.mem_filter.2 ⟨(ord_mem hvd).2 hm.1, hm.2.1⟩
    obtain ⟨j, hj, e⟩ := List.mem_iff_getElem.1 hmem
    exact g4 j m hj (by rw [List.getElem?_eq_getElem hj, e]) hm.2.2
  · rintro cd t ⟨rfl, S', M', g1, g2, g3, g4⟩
    exact ⟨_, g3, h t true S' M' g1 g2 (fun _ => g4) (fun hh => by cases hh)⟩
end
end Go.Proofs.Ytfaeokcbfnlgbaa.G

/- Prize: how many prizes can be given. -/
set_option linter.unusedSimpArgs false
set_option linter.unusedVariables false
set_option maxRecDepth 20000
namespace Go.Proofs.Ytfaeokcbfnlgbaa.G
open Go.V
theorem zc_117 : zc Pg 117 = [.map none] := by kernel_rfl
theorem zc_88 : zc Pg 88 = [.map none] := by kernel_rfl
theorem zc_62 : zc Pg 62 = [.nilFunc] := by kernel_rfl
section
variable {W : World} {K : VK} {E : List PanicEntry → Hp → Prop} {s : Hp} {p : Addr} {T : PT} {v : Value} {R : Hp → Prop} {f : Nat → Bool}
theorem suc_le (T : PT) (M : Nat → Option Nat) (a k : Nat) : suc T M a k ≤ k := by
  unfold suc
  exact Nat.le_trans (List.length_filter_le _ _) (by simp)
theorem c_most {a : Nat} (hp : PrO s p T) (hf : IsFn W v T.n R f) (hR : R s) (hv0 : ∀ b, Value.bool b ≠ v) (ha : a ≤ T.z) (h : ∀ s', Ext s s' → K (.int .i64 (optN T (T.z - a) a f : Nat)) s') :
    CALL Pg W F_prize_prizes_most [.pointer (some p), .int .i64 (a : Nat), v] K E s := by
  have hvd := okP_vd hp.ok
  have h6 := hvd.z6
  refine does_prize_prizes_most W (some p) a v _ s ?_
  unfold T_prize_prizes_most
  refine ne1 fun s1 e1 z1 o1 => ?_
  unfold ONE
  rw [hf.one]
  refine ne1 fun s2 e2 z2 o2 => ?_
  refine MKM_rule fun s3 e3 z3 m3 => ?_
  refine nw1 zc_117 rfl fun s4 e4 z4 o4 => ?_
  have e14 := e2.trans (e3.trans e4)
  have e04 := e1.trans e14
  refine L_prize_prizes_most_0_rule W _ ⟨s.size, 0, none⟩ ⟨s1.size, 0, none⟩ ⟨s3.size, 0, none⟩ (fun n8 n9 t => Ext s t ∧ cellAt t ⟨s.size, 0, none⟩ = some (.pointer (some p)) ∧ cellAt t ⟨s1.size, 0, none⟩ = some v ∧ cellAt t ⟨s3.size, 0, none⟩ = some (.map (some s2.size)) ∧ ∃ k M C, k ≤ T.z - a ∧ n9 = ((a + k : Nat) : Int) ∧ n8 = (suc T M a k : Nat) ∧ MapM t s2.size M ∧ MI T f M a k C)
    (fun _ n9 _ => (T.z - n9).toNat) 0 a s4 ⟨e04, e14.cell o1.cell, (e3.trans e4).cell o2.cell, o4.cell, 0, _, _, by omega, rfl, rfl, (MapM.new m3).ext e4, MI.zero T f a⟩ ?_
  rintro n8 n9 t ⟨et, c2, c3, c5, k, M, C, hk, rfl, rfl, hmp, hmi⟩
  unfold B_prize_prizes_most_0
  obtain ⟨y, cy, y1, y2⟩ := (hp.ext et).lst
  refine ⟨_, c2, _, _, _, y1, ?_⟩
  refine BR_dec (fun hlt => ?_) (fun hlt => ?_)
  · have hz : a + k < T.z := by omega
    generalize hnx : (fun vs : List Value => _) = nx
    refine MKM_rule fun t1 f1 y1' m1 => ?_
    refine nw1 zc_88 rfl fun t2 f2 y2' q2 => ?_
    refine nz1 zc_62 fun t2b f2b y2b q2b => ?_
    refine wr1 (a := ⟨t2.size, 0, none⟩) q2b rfl fun t3 k3 y3' q3 => ?_
    have f3 : Ext t2 t3 := ext_kp f2b (Nat.le_refl _) k3
    refine ⟨_, q3.cell, ?_⟩
    have f23 := f2.trans f3
    have f13 := f1.trans f23
    let c : Pl := ⟨⟨s.size, 0, none⟩, ⟨s1.size, 0, none⟩, ⟨t1.size, 0, none⟩, ⟨s3.size, 0, none⟩, ⟨t2.size, 0, none⟩, t.size, s2.size⟩
    have hlt2 : s2.size < t.size := by obtain ⟨g, g1, _⟩ := hmp; exact g1.lt
    have hA : PlA s c := ⟨by show t.size ≠ s2.size; omega, et.1, by show s.size ≤ s2.size; have := (e1.trans e2).1; omega⟩
    have hs : PlS s p v c S0 M t3 := ⟨et.trans f13, f13.cell c2, f13.cell c3, f3.cell q2.cell, f13.cell c5, q3.cell, (TkN.new m1).ext f23, hmp.ext f13⟩
    refine CALLV_func ?_
    refine c_place (c := c) hp hf hR hA hv0 (uns T.n S0) S0 M (a + k) t3 _ _ rfl hz (fun m q hm => by have := (hmi.ed m q hm).1; omega) hs fun t4 b S' M' g1 g2 g3 g4 => ?_
    try simp only [TUP_mk, AGG_mk, HD_mk, NL_mk, TYI_mk, TYB_mk, TYP_mk, TYL_mk, TYS_mk, TYM_mk, SO_mk, NX_mk, endK_mk, endK_mk', add_0]
    have hle := suc_le T M a k
    have hms : (T.z - (IntKind.i64.wrap (((a + k : Nat) : Int) + 1))).toNat < ((T.z : Int) - ((a + k : Nat) : Int)).toNat := by rw [wrap_succ (by omega)]; omega
    rw [← hnx]
    refine BR_bool (fun hb => ?_) (fun hb => ?_)
    · obtain ⟨r1, r2⟩ := hmi.yes (g3 hb)
      refine ⟨_, _, rfl, ⟨g1.ext, g1.c2, g1.c3, g1.c5, k + 1, M', C, by omega, ?_, ?_, g1.has, r1⟩, hms⟩
      · rw [wrap_succ (by omega)]; rfl
      · rw [r2, wrap_succ (by omega)]
    · obtain ⟨rfl, hF⟩ := g4 hb
      obtain ⟨r1, r2⟩ := hmi.nay hF
      refine ⟨_, _, rfl, ⟨g1.ext, g1.c2, g1.c3, g1.c5, k + 1, M', _, by omega, ?_, ?_, g1.has, r1⟩, hms⟩
      · rw [wrap_succ (by omega)]; rfl
      · rw [r2]
  · have hkz : k = T.z - a := by omega
    subst hkz
    rw [suc_opt hmi]
    exact h t et
end
end Go.Proofs.Ytfaeokcbfnlgbaa.G

/- Prize: Most. -/
set_option linter.unusedSimpArgs false
set_option linter.unusedVariables false
set_option maxRecDepth 20000
namespace Go.Proofs.Ytfaeokcbfnlgbaa.G
open Go.V
/-- The first giving with the most prizes, of so many from one on. -/
def bestG (T : PT) : Nat → Nat → (Nat → Bool) → List (Option Nat)
  | 0, _, _ => []
  | r + 1, z, f => if optN T r (z + 1) f = optN T (r + 1) z f then none :: bestG T r (z + 1) f else
    match (candL T f z).find? fun m => decide (1 + optN T r (z + 1) (less f m) = optN T (r + 1) z f) with
    | some m => some m :: bestG T r (z + 1) (less f m)
    | none => none :: bestG T r (z + 1) f
def allF : Nat → Bool := fun _ => true
def mostR (T : PT) : Int × List Int × Int := if okP T then ((optN T T.z 0 allF : Nat), manL (bestG T T.z 0 allF), 0) else (0, [], 1)
theorem bestG_len (T : PT) : ∀ (r z : Nat) (f : Nat → Bool), (bestG T r z f).length = r
  | 0, _, _ => rfl
  | r + 1, z, f => by
    unfold bestG
    split
    · simp [bestG_len T r]
    · split <;> simp [bestG_len T r]
theorem opt_le (T : PT) : ∀ (r z : Nat) (f : Nat → Bool), optN T r z f ≤ r
  | 0, _, _ => Nat.le_refl _
  | r + 1, z, f => by
    rcases opt_or (T := T) (r := r) (z := z) (f := f) with h | ⟨m, _, h⟩
    · have := opt_le T r (z + 1) f; omega
    · have := opt_le T r (z + 1) (less f m); omega
theorem less_F {F : Nat → Bool} {m : Nat} : (fun k => !(if k = m then true else F k)) = less (fun k => !F k) m := by
  funext k
  unfold less
  by_cases h : k = m
  · rw [if_pos h, decide_eq_true h]; simp
  · rw [if_neg h, decide_eq_false h]; simp
theorem back_F {F : Nat → Bool} {m : Nat} (h : F m = false) : (fun k => if k = m then false else (if k = m then true else F k)) = F := by
  funext k
  by_cases hk : k = m
  · rw [if_pos hk, hk, h]
  · rw [if_neg hk, if_neg hk]
section
variable {W : World} {K : VK} {E : List PanicEntry → Hp → Prop} {s : Hp} {p : Addr} {T : PT}
theorem c_Most {x y : Option Addr} {c c' : Nat} (hx : MnAt s x T.men) (hy : PzAt s y T.list) (h : ∀ s' q cq, Ext s s' → Fr s.size s' q (mostR T).2.1.length cq 1 (ints (mostR T).2.1) → K (.tuple #[.int .i64 (mostR T).1, .slice q (mostR T).2.1.length cq, .int .i64 (mostR T).2.2]) s') :
    CALL Pg W F_prize_Most [.agg #[.slice x T.n c, .slice y T.z c']] K E s := by
  refine does_prize_Most W x T.n c y T.z c' _ s ?_
  unfold T_prize_Most
  refine ne2 fun s1 e1 z1 o1 o2 => ?_
  refine nz1 zc_29 fun s2 e2 z2 o3 => ?_
  have e02 := e1.trans e2
  refine ⟨_, _, _, e2.cell o1.cell, _, _, _, e2.cell o2.cell, ?_⟩
  have hs1 : s.size ≤ s1.size := e1.1
  refine c_open (hx.ext e02) (hy.ext e02) (fun hok s3 p e3 hp => ?_) (fun hok s3 e3 => ?_)
  · try simp only [TUP_mk, AGG_mk, HD_mk, NL_mk, TYI_mk, TYB_mk, TYP_mk, TYL_mk, TYS_mk, TYM_mk, SO_mk, NX_mk, endK_mk, endK_mk', add_0]
    have e03 := e02.trans e3
    have hs3 : s1.size < s3.size := by have := e3.1; omega
    have hvd := okP_vd hok
    have h6 := hvd.z6
    have h8 := hvd.n8
    refine MKM_rule fun s4 e4 z4 m4 => ?_
    have hR : mostR T = (((optN T T.z 0 allF : Nat) : Int), manL (bestG T T.z 0 allF), 0) := by unfold mostR; rw [if_pos hok]
    refine c_most (a := 0) (hp.ext e4) isLeft (TkN.new m4) (fun b => by simp) (by omega) fun s5 e5 => ?_
    try simp only [TUP_mk, AGG_mk, HD_mk, NL_mk, TYI_mk, TYB_mk, TYP_mk, TYL_mk, TYS_mk, TYM_mk, SO_mk, NX_mk, endK_mk, endK_mk', add_0]
    refine NEW_rule fun s6 e6 z6 _ _ => ?_
    have e46 := e5.trans e6
    have e36 := e4.trans e46
    obtain ⟨l, cl, l1, l2⟩ := (hp.ext e36).lst
    refine ⟨_, _, _, l1, ?_⟩
    rw [Nat.sub_zero]
    have hall : (fun m : Nat => !(fun _ : Nat => false) m) = allF := rfl
    rw [hall]
    have hlen : (mostR T).2.1.length = T.z := by rw [hR]; unfold manL; simp [bestG_len]
    have hs43 : s3.size < s4.size := by omega
    refine L_prize_Most_0_rule W _ (optN T T.z 0 allF : Nat) ⟨s1.size, 0, none⟩ (some p) (some s3.size) T.z (fun qx ql qc n32 n33 t => Ext s3 t ∧ ∃ z F L, z ≤ T.z ∧ n33 = ((z : Nat) : Int) ∧ n32 = (optN T (T.z - z) z (fun m => !F m) : Nat) ∧ TkN t s3.size F ∧ L.length = z ∧ L ++ bestG T (T.z - z) z (fun m => !F m) = bestG T T.z 0 allF ∧ Fr s3.size t qx ql qc 1 (ints (manL L)) ∧ ∀ y, qx = some y → y.block ≠ s3.size)
      (fun _ _ _ _ n33 _ => (T.z - n33).toNat) (some ⟨s5.size, 0, none⟩) 0 0 (optN T T.z 0 allF : Nat) 0 s6
      ⟨e36, 0, fun _ => false, [], by omega, rfl, rfl, (TkN.new m4).ext e46, rfl, rfl, ⟨⟨Nat.le_refl _, fun i hi => by omega⟩, rfl, fun a ha => by cases ha; show s3.size ≤ s5.size; have := e5.1; omega, by omega⟩, fun y hy => by cases hy; show s5.size ≠ s3.size; have := e5.1; omega⟩ ?_
    rintro qx ql qc n32 n33 t ⟨et, z, F, L, hz, rfl, rfl, htk, hLl, hL, hfr, hqx⟩
    unfold B_prize_Most_0
    have hql : ql = z := by have := hfr.len; rw [ints_len] at this; unfold manL at this; rw [List.length_map] at this; omega
    have oB := et.own (e3.own o3)
    refine BR_dec (fun hlt => ?_) (fun hlt => ?_)
    · have hzz : z < T.z := by omega
      obtain ⟨r, hr⟩ : ∃ r, T.z - z = r + 1 := ⟨T.z - z - 1, by omega⟩
      rw [hr] at hL ⊢
      have hr' : T.z - (z + 1) = r := by omega
      generalize hf : (fun m => !F m) = f at *
      have hF : ∀ m, F m = !f m := fun m => by rw [← hf]; simp
      have hole := opt_le T (r + 1) z f
      rw [wrap_succ (by omega)]
      generalize hnx : (fun vs : List Value => _) = nx
      -- somebody, or nobody, gets it
      have app : ∀ t' (o : Option Nat) (F' : Nat → Bool) (w : Int), Ext s3 t' → TkN t' s3.size F' → Fr s3.size t' qx ql qc 1 (ints (manL L)) → (L ++ [o]) ++ bestG T r (z + 1) (fun m => !F' m) = bestG T T.z 0 allF → w = (optN T r (z + 1) (fun m => !F' m) : Nat) →
          (NEW 3 [(.int .i64 (manI o))] fun B57 => APP Pg 3 1 qx ql qc (some ⟨B57, 0, none⟩) 1 fun x58 l59 c60 => nx [(.slice x58 l59 c60), (.int .i64 w), (.int .i64 ((z + 1 : Nat) : Int))]) t' := by
        intro t' o F' w et' htk' hfr' hL' hw
        refine ne1 fun t3 e3' z3' q3 => ?_
        have et3 := et'.trans e3'
        refine APP_fr (lo := s3.size) (hfr'.ext e3') et3.1 (ws := [.int .i64 (manI o)]) (fun i hi => ⟨⟨t'.size, 0, none⟩, rfl, ?_⟩) rfl zc_3 rfl (by omega) (by simp [oneCell]) (by omega) fun t4 x4 c4 k4 hx4 g4 => ?_
        · have hi0 : i = 0 := by simp at hi; omega
          subst hi0; exact q3.cell
        have e4' : Ext s3 t4 := kp_nil et3 (fun b hb => by obtain ⟨y, hy, rfl⟩ := hb; exact hfr'.fr y hy) k4
        rw [← hnx]
        refine ⟨_, _, _, _, _, rfl, ⟨e4', z + 1, F', L ++ [o], hzz, rfl, by rw [hr']; exact hw, ?_, by simp [hLl], by rw [hr']; exact hL', ?_, fun y hy => ?_⟩, ?_⟩
        · refine (htk'.ext e3').kp k4 (fun hb => ?_)
          obtain ⟨y, hy, hyb⟩ := hb
          exact hqx y hy hyb
        · rw [manL_app, ints_app]; exact g4
        · rcases hx4 y hy with ⟨y', hy', hyb⟩ | hyb
          · rw [← hyb]; exact hqx y' hy'
          · have := e3'.1; have := htk'.lt; omega
        · show ((T.z : Int) - ((z + 1 : Nat) : Int)).toNat < ((T.z : Int) - (z : Int)).toNat
          omega
      refine c_most (a := z + 1) (hp.ext et) isLeft htk (fun b => by simp) (by omega) fun t1 f1 => ?_
      try simp only [TUP_mk, AGG_mk, HD_mk, NL_mk, TYI_mk, TYB_mk, TYP_mk, TYL_mk, TYS_mk, TYM_mk, SO_mk, NX_mk, endK_mk, endK_mk', add_0]
      rw [hf, hr']
      have et1 := et.trans f1
      refine BR_dec (fun h1 => ?_) (fun h1 => ?_)
      · have hne : ¬ optN T r (z + 1) f = optN T (r + 1) z f := by omega
        have hG : bestG T (r + 1) z f = (match (candL T f z).find? fun m => decide (1 + optN T r (z + 1) (less f m) = optN T (r + 1) z f) with
          | some m => some m :: bestG T r (z + 1) (less f m)
          | none => none :: bestG T r (z + 1) f) := by conv => lhs; unfold bestG; rw [if_neg hne]
        obtain ⟨mx, mc, mm1, mm2⟩ := (hp.ext et1).men
        refine ⟨_, _, _, mm1, ?_⟩
        have hopt : 1 ≤ optN T (r + 1) z f := by omega
        have hw1 : IntKind.i64.wrap (((optN T (r + 1) z f : Nat) : Int) - 1) = ((optN T (r + 1) z f - 1 : Nat) : Int) := by rw [wrap_i64 (by omega) (by omega)]; omega
        refine L_prize_Most_1_rule W _ nx (optN T T.z 0 allF : Nat) qx ql qc ⟨s1.size, 0, none⟩ (some p) (some s3.size) (optN T (r + 1) z f : Nat) z T.z T.n (fun n47 n48 t' => Ext s3 t' ∧ n47 = -1 ∧ ∃ k : Nat, k ≤ T.n ∧ n48 = k ∧ TkN t' s3.size F ∧ Fr s3.size t' qx ql qc 1 (ints (manL L)) ∧ ∀ j, j < k → Cand T f z j → 1 + optN T r (z + 1) (less f j) ≠ optN T (r + 1) z f) (fun _ n48 _ => (T.n - n48).toNat) (-1) 0 t1
          ⟨et1, rfl, 0, by omega, rfl, htk.ext f1, hfr.ext f1, fun j hj => by omega⟩ ?_
        rintro n47 n48 t2 ⟨et2, rfl, k, hk, rfl, htk2, hfr2, hno⟩
        unfold B_prize_Most_1
        refine BR_dec (fun h2 => ?_) (fun h2 => ?_)
        · have hkn : k < T.n := by omega
          generalize hnx1 : (fun vs : List Value => N_prize_Most_1 _ _ _ _ _ vs) = nx1
          have next : ∀ t', Ext s3 t' → TkN t' s3.size F → Fr s3.size t' qx ql qc 1 (ints (manL L)) → (Cand T f z k → 1 + optN T r (z + 1) (less f k) ≠ optN T (r + 1) z f) → J_prize_Most_0 W (endK K E) (optN T T.z 0 allF : Nat) qx ql qc ⟨s1.size, 0, none⟩ (some p) (some s3.size) (optN T (r + 1) z f : Nat) z T.z T.n nx1 (-1) k t' := by
            intro t' a1 a2 a3 a4
            unfold J_prize_Most_0
            rw [← hnx1]
            refine ⟨rfl, _, _, rfl, ⟨a1, rfl, k + 1, hkn, wrap_succ (by omega), a2, a3, fun j hj hc => ?_⟩, ms_succ hkn (by omega)⟩
            by_cases e : j = k
            · subst e; exact a4 hc
            · exact hno j (by omega) hc
          refine c_left htk2 ?_
          try simp only [TUP_mk, AGG_mk, HD_mk, NL_mk, TYI_mk, TYB_mk, TYP_mk, TYL_mk, TYS_mk, TYM_mk, SO_mk, NX_mk, endK_mk, endK_mk', add_0]
          refine BR_not (fun h3 => ?_) (fun h3 => ?_)
          · unfold J_prize_Most_1
            refine BR_tt rfl (next t2 et2 htk2 hfr2 fun hc => ?_)
            have : f k = true := hc.2.1
            rw [hF, this] at h3; cases h3
          · have hfk : f k = true := by rw [hF] at h3; simpa using h3
            have hFk : F k = false := by rw [hF, hfk]; rfl
            refine c_can (hp.ext et2) hkn hzz fun t3 f3 => ?_
            try simp only [TUP_mk, AGG_mk, HD_mk, NL_mk, TYI_mk, TYB_mk, TYP_mk, TYL_mk, TYS_mk, TYM_mk, SO_mk, NX_mk, endK_mk, endK_mk', add_0]
            have et3 := et2.trans f3
            unfold J_prize_Most_1
            refine BR_not (fun h4 => ?_) (fun h4 => ?_)
            · refine next t3 et3 (htk2.ext f3) (hfr2.ext f3) fun hc => ?_
              rw [hc.2.2] at h4; cases h4
            · have hcand : Cand T f z k := ⟨hkn, hfk, h4⟩
              refine TkN.put (htk2.ext f3) fun t4 k4 z4' htk4 => ?_
              have et4 := ext_kp et3 (Nat.le_refl _) k4
              rw [wrap_succ (by omega)]
              refine c_most (a := z + 1) (hp.ext et4) isLeft htk4 (fun b => by simp) (by omega) fun t5 f5 => ?_
              try simp only [TUP_mk, AGG_mk, HD_mk, NL_mk, TYI_mk, TYB_mk, TYP_mk, TYL_mk, TYS_mk, TYM_mk, SO_mk, NX_mk, endK_mk, endK_mk', add_0]
              have hl : (fun m => !(if m = k then true else F m)) = less f k := by rw [less_F, hf]
              rw [hl, hr', hw1]
              have et5 := et4.trans f5
              have hfr5 := ((hfr2.ext f3).kp k4 (fun y hy => hqx y hy)).ext f5
              refine BR_eq (fun h5 => ?_) (fun h5 => ?_)
              · have h5' : 1 + optN T r (z + 1) (less f k) = optN T (r + 1) z f := by omega
                have hfind : (candL T f z).find? (fun m => decide (1 + optN T r (z + 1) (less f m) = optN T (r + 1) z f)) = some k := by
                  unfold candL
                  rw [List.find?_filter]
                  refine find_at (k := k) (List.getElem?_range hkn) ?_ fun j x hj hx => ?_
                  · rw [hfk, h4]; simp [h5']
                  · have : x = j := by rw [List.getElem?_range (by omega)] at hx; exact (Option.some.inj hx).symm
                    subst this
                    rw [decide_eq_false_iff_not]
                    rintro ⟨hc1, hc2⟩
                    simp only [Bool.and_eq_true] at hc1
                    exact hno x hj ⟨by omega, hc1.1, hc1.2⟩ (of_decide_eq_true hc2)
                have := app t5 (some k) _ ((optN T (r + 1) z f - 1 : Nat) : Int) et5 (htk4.ext f5) hfr5 (by
                  rw [hl, ← hL, hG, hfind]
                  simp) (by rw [hl]; omega)
                exact this
              · refine TkN.put (htk4.ext f5) fun t6 k6 z6' htk6 => ?_
                rw [back_F hFk] at htk6
                refine next t6 (ext_kp et5 (Nat.le_refl _) k6) htk6 (hfr5.kp k6 (fun y hy => hqx y hy)) fun _ => by omega
        · exfalso
          have hkn : k = T.n := by omega
          subst hkn
          rcases opt_or (T := T) (r := r) (z := z) (f := f) with he | ⟨m, hm, he⟩
          · exact hne he.symm
          · exact hno m hm.1 hm he.symm
      · have he : optN T r (z + 1) f = optN T (r + 1) z f := by have := opt_none (T := T) (r := r) (z := z) (f := f); omega
        have hG : bestG T (r + 1) z f = none :: bestG T r (z + 1) f := by conv => lhs; unfold bestG; rw [if_pos he]
        have := app t1 none F ((optN T (r + 1) z f : Nat) : Int) et1 (htk.ext f1) (hfr.ext f1) (by
          rw [hf, ← hL, hG]
          simp) (by rw [hf, he])
        exact this
    · have hzz : z = T.z := by omega
      subst hzz
      have hL' : L = bestG T T.z 0 allF := by rw [Nat.sub_self] at hL; rw [← hL]; exact (List.append_nil _).symm
      refine ep_ok oB fun t5 k5 => ?_
      have := h t5 qx qc (ext_kp (e03.trans et) hs1 k5)
      rw [hlen, hR] at this
      subst hql
      rw [hL'] at hfr
      have e03t : s.size ≤ s3.size := e03.1
      exact this ((hfr.le e03t).kp k5 (fun a ha hb => by have := hfr.fr a ha; have : a.block = s1.size := hb; omega))
  · try simp only [TUP_mk, AGG_mk, HD_mk, NL_mk, TYI_mk, TYB_mk, TYP_mk, TYL_mk, TYS_mk, TYM_mk, SO_mk, NX_mk, endK_mk, endK_mk', add_0]
    refine ep_err (e3.own o3) fun s5 k5 => ?_
    have := h s5 none 0 (ext_kp (e02.trans e3) hs1 k5)
    unfold mostR at this
    rw [hok] at this
    exact this (Fr.nil _ _ _)
end
end Go.Proofs.Ytfaeokcbfnlgbaa.G

/- More of the functions' shallow texts, by gen.py. -/
set_option linter.unusedVariables false
set_option maxRecDepth 100000
namespace Go.Proofs.Ytfaeokcbfnlgbaa.G
open Go.V
def an_25 : Nat → Ann := fun b => match b with
  | 0 => { ms := [4, 5], ks := [.b, .i .i64], us := [0, 1, 26], rt := false, ex := [] }
  | _ => {}
abbrev rv_25 : List ResultVar := [.tmp 4]
abbrev rs_25 : List Nat := [26, 4]
def L_ref13_Ints_0 (W : World) (R : Ending → Hp → Prop) (zp0 : Option Addr) (zl1 : Nat) (zl2 : Nat) (zp3 : Option Addr) (zl4 : Nat) (zl5 : Nat) (b7 : Bool) (n8 : Int) : Hp → Prop :=
  LOOPN [.b, .i .i64] (fun ys next s => ∀ j : Tm, vc Pg W 26 rs_25 an_25 false (sub (bodyOf Try.f25) [1, 1, 0, 1, 0, 0]) 0 (KLoop [4, 5] [0, 1, 26] [(.slice zp0 zl1 zl2), (.slice zp3 zl4 zl5), (.tuple #[])] next (KBlk 0 (KS Pg W 26 rs_25 an_25 false (sub (bodyOf Try.f25) [1, 1, 1]) 0 (fin Pg W 26 rv_25 R)))) (known [4, 5] ys (known [0, 1, 26] [(.slice zp0 zl1 zl2), (.slice zp3 zl4 zl5), (.tuple #[])] j)) s) [(.bool b7), (.int .i64 n8)]
def B_ref13_Ints_0 (W : World) (R : Ending → Hp → Prop) (zp0 : Option Addr) (zl1 : Nat) (zl2 : Nat) (zp3 : Option Addr) (zl4 : Nat) (zl5 : Nat) (b7 : Bool) (n8 : Int) (nx0 : List Value → Hp → Prop) : Hp → Prop :=
  BR (decide (n8 < (↑zl1 : Int)))
    (IXS zp0 zl1 n8 1 fun a9 =>
      RDI .i64 a9 fun n10 =>
        IXS zp3 zl4 n8 1 fun a11 =>
          RDI .i64 a11 fun n12 =>
            BR (n10 != n12)
              (R (.returned (.bool false)))
              (NX [(.slice zp0 zl1 zl2), (.slice zp3 zl4 zl5), (.tuple #[])] [(.slice zp0 zl1 zl2), (.slice zp3 zl4 zl5), (.tuple #[])] (nx0 [(.bool b7), (.int .i64 (IntKind.wrap .i64 (n8 + 1)))])))
    (R (.returned (.bool true)))
theorem B_ref13_Ints_0_eq (W : World) (R : Ending → Hp → Prop) (zp0 : Option Addr) (zl1 : Nat) (zl2 : Nat) (zp3 : Option Addr) (zl4 : Nat) (zl5 : Nat) (b7 : Bool) (n8 : Int) (nx0 : List Value → Hp → Prop) (j : Tm) : vc Pg W 26 rs_25 an_25 false (sub (bodyOf Try.f25) [1, 1, 0, 1, 0, 0]) 0 (KLoop [4, 5] [0, 1, 26] [(.slice zp0 zl1 zl2), (.slice zp3 zl4 zl5), (.tuple #[])] nx0 (KBlk 0 (KS Pg W 26 rs_25 an_25 false (sub (bodyOf Try.f25) [1, 1, 1]) 0 (fin Pg W 26 rv_25 R)))) (known [4, 5] [(.bool b7), (.int .i64 n8)] (known [0, 1, 26] [(.slice zp0 zl1 zl2), (.slice zp3 zl4 zl5), (.tuple #[])] j)) = B_ref13_Ints_0 W R zp0 zl1 zl2 zp3 zl4 zl5 b7 n8 nx0 := by kernel_rfl
def N_ref13_Ints_0 (I : Bool → Int → Hp → Prop) (μ : Bool → Int → Hp → Nat) (b70 : Bool) (n80 : Int) (s : Hp) (vs : List Value) : Hp → Prop := fun s' => ∃ b7 n8, vs = [(.bool b7), (.int .i64 n8)] ∧ I b7 n8 s' ∧ μ b7 n8 s' < μ b70 n80 s
theorem L_ref13_Ints_0_rule (W : World) (R : Ending → Hp → Prop) (zp0 : Option Addr) (zl1 : Nat) (zl2 : Nat) (zp3 : Option Addr) (zl4 : Nat) (zl5 : Nat) (I : Bool → Int → Hp → Prop) (μ : Bool → Int → Hp → Nat) (b70 : Bool) (n80 : Int) (s : Hp) (h0 : I b70 n80 s)
    (hr : ∀ (b7 : Bool) (n8 : Int) (s : Hp), I b7 n8 s → B_ref13_Ints_0 W R zp0 zl1 zl2 zp3 zl4 zl5 b7 n8 (fun vs => N_ref13_Ints_0 I μ b7 n8 s vs) s) : L_ref13_Ints_0 W R zp0 zl1 zl2 zp3 zl4 zl5 b70 n80 s := by
  refine ⟨fun vs s => ∃ b7 n8, vs = [(.bool b7), (.int .i64 n8)] ∧ I b7 n8 s, fun vs s => (match vs with | [.bool b7, .int _ n8] => μ b7 n8 s | _ => 0), ⟨⟨⟨_, rfl⟩, ⟨⟨_, rfl⟩, trivial⟩⟩, ⟨_, _, rfl, h0⟩⟩, ?_⟩
  intro b7 n8 s hI j
  obtain ⟨b7', n8', hy, hI⟩ := hI
  have hI' : I b7 n8 s := by cases hy; exact hI
  have hh := hr b7 n8 s hI'
  rw [← B_ref13_Ints_0_eq W R zp0 zl1 zl2 zp3 zl4 zl5 b7 n8 _ j] at hh
  refine vc_mono ?_ _ _ hh
  exact KLoop_mono (fun vs s' h => by obtain ⟨b71, n81, rfl, h1, h2⟩ := h; exact ⟨⟨⟨_, rfl⟩, ⟨⟨_, rfl⟩, trivial⟩⟩, ⟨_, _, rfl, h1⟩, h2⟩)
def T_ref13_Ints (W : World) (x1 : Option Addr) (l2 : Nat) (c3 : Nat) (x4 : Option Addr) (l5 : Nat) (c6 : Nat) (R : Ending → Hp → Prop) : Hp → Prop :=
  BR ((↑l2 : Int) != (↑l5 : Int))
    (R (.returned (.bool false)))
    (L_ref13_Ints_0 W R x1 l2 c3 x4 l5 c6 false 0)
theorem T_ref13_Ints_eq (W : World) (x1 : Option Addr) (l2 : Nat) (c3 : Nat) (x4 : Option Addr) (l5 : Nat) (c6 : Nat) (R : Ending → Hp → Prop) : vfun Pg W an_25 Try.f25 [(.slice x1 l2 c3), (.slice x4 l5 c6)] R = T_ref13_Ints W x1 l2 c3 x4 l5 c6 R := by kernel_rfl
theorem does_ref13_Ints (W : World) (x1 : Option Addr) (l2 : Nat) (c3 : Nat) (x4 : Option Addr) (l5 : Nat) (c6 : Nat) (R : Ending → Hp → Prop) (s : Hp) (h : T_ref13_Ints W x1 l2 c3 x4 l5 c6 R s) : Does Pg W F_ref13_Ints #[(.slice x1 l2 c3), (.slice x4 l5 c6)] s R :=
  does_of_vfun Pg W an_25 Try.func25 rfl (by kernel_rfl) (by rw [T_ref13_Ints_eq]; exact h)
def an_26 : Nat → Ann := fun b => match b with
  | 0 => { ms := [2, 3], ks := [.b, .i .i64], us := [1, 82], rt := false, ex := [] }
  | 2 => { ms := [2, 5], ks := [.b, .i .i64], us := [1, 3, 4, 82], rt := false, ex := [] }
  | 4 => { ms := [2, 6], ks := [.b, .i .i64], us := [1, 82], rt := false, ex := [] }
  | _ => {}
abbrev rv_26 : List ResultVar := [.tmp 2]
abbrev rs_26 : List Nat := [82, 2]
def L_ref13_Prizes_0 (W : World) (R : Ending → Hp → Prop) (za0 : Addr) (b18 : Bool) (n19 : Int) : Hp → Prop :=
  LOOPN [.b, .i .i64] (fun ys next s => ∀ j : Tm, vc Pg W 82 rs_26 an_26 false (sub (bodyOf Try.f26) [1, 1, 0, 1, 0, 0]) 0 (KLoop [2, 3] [1, 82] [(.pointer (some za0)), (.tuple #[])] next (KBlk 0 (KS Pg W 82 rs_26 an_26 false (sub (bodyOf Try.f26) [1, 1, 1]) 0 (fin Pg W 82 rv_26 R)))) (known [2, 3] ys (known [1, 82] [(.pointer (some za0)), (.tuple #[])] j)) s) [(.bool b18), (.int .i64 n19)]
def L_ref13_Prizes_1 (W : World) (R : Ending → Hp → Prop) (nx0 : List Value → Hp → Prop) (za0 : Addr) (zn1 : Int) (za2 : Addr) (b44 : Bool) (n45 : Int) : Hp → Prop :=
  LOOPN [.b, .i .i64] (fun ys next s => ∀ j : Tm, vc Pg W 82 rs_26 an_26 false (sub (bodyOf Try.f26) [1, 1, 0, 1, 0, 0, 1, 0, 0, 1, 1, 1, 0, 0]) 2 (KLoop [2, 5] [1, 3, 4, 82] [(.pointer (some za0)), (.int .i64 zn1), (.pointer (some za2)), (.tuple #[])] next (KBlk 2 (KBlk 1 (KS Pg W 82 rs_26 an_26 false (sub (bodyOf Try.f26) [1, 1, 0, 1, 0, 0, 1, 1]) 0 (KLoop [2, 3] [1, 82] [(.pointer (some za0)), (.tuple #[])] nx0 (KBlk 0 (KS Pg W 82 rs_26 an_26 false (sub (bodyOf Try.f26) [1, 1, 1]) 0 (fin Pg W 82 rv_26 R)))))))) (known [2, 5] ys (known [1, 3, 4, 82] [(.pointer (some za0)), (.int .i64 zn1), (.pointer (some za2)), (.tuple #[])] j)) s) [(.bool b44), (.int .i64 n45)]
def L_ref13_Prizes_2 (W : World) (R : Ending → Hp → Prop) (za0 : Addr) (b52 : Bool) (n53 : Int) : Hp → Prop :=
  LOOPN [.b, .i .i64] (fun ys next s => ∀ j : Tm, vc Pg W 82 rs_26 an_26 false (sub (bodyOf Try.f26) [1, 1, 1, 0, 1, 0, 0]) 4 (KLoop [2, 6] [1, 82] [(.pointer (some za0)), (.tuple #[])] next (KBlk 4 (KS Pg W 82 rs_26 an_26 false (sub (bodyOf Try.f26) [1, 1, 1, 1]) 0 (fin Pg W 82 rv_26 R)))) (known [2, 6] ys (known [1, 82] [(.pointer (some za0)), (.tuple #[])] j)) s) [(.bool b52), (.int .i64 n53)]
def J_ref13_Prizes_0 (W : World) (R : Ending → Hp → Prop) (b14 : Bool) (B7 : Nat) : Hp → Prop :=
  BR b14
    (R (.returned (.bool false)))
    (L_ref13_Prizes_0 W R ⟨B7, 0, none⟩ false 0)
def J_ref13_Prizes_1 (W : World) (R : Ending → Hp → Prop) (b39 : Bool) (nx0 : List Value → Hp → Prop) (za0 : Addr) (n19 : Int) (B31 : Nat) (b18 : Bool) : Hp → Prop :=
  BR b39
    (R (.returned (.bool false)))
    (L_ref13_Prizes_1 W R nx0 za0 n19 ⟨B31, 0, none⟩ b18 0)
def B_ref13_Prizes_0 (W : World) (R : Ending → Hp → Prop) (za0 : Addr) (b18 : Bool) (n19 : Int) (nx0 : List Value → Hp → Prop) : Hp → Prop :=
  RDL (Addr.add za0 0) fun x20 l21 c22 =>
    BR (decide (n19 < (↑l21 : Int)))
      (RDL (Addr.add za0 0) fun x23 l24 c25 =>
        IXS x23 l24 n19 4 fun a26 =>
          RDI .i64 (Addr.add a26 0) fun n27 =>
            RDI .i64 (Addr.add a26 1) fun n28 =>
              RDB (Addr.add a26 2) fun b29 =>
                RDB (Addr.add a26 3) fun b30 =>
                  NEWZ Pg 48 fun B31 =>
                    WR (Addr.add ⟨B31, 0, none⟩ 0) (.int .i64 n27) <|
                      WR (Addr.add ⟨B31, 0, none⟩ 1) (.int .i64 n28) <|
                        WR (Addr.add ⟨B31, 0, none⟩ 2) (.bool b29) <|
                          WR (Addr.add ⟨B31, 0, none⟩ 3) (.bool b30) <|
                            RDI .i64 (Addr.add ⟨B31, 0, none⟩ 0) fun n32 =>
                              RDL (Addr.add za0 0) fun x33 l34 c35 =>
                                CALL Pg W F_ref13_in [(.int .i64 n32), (.int .i64 1), (.int .i64 (↑l34 : Int))]
                                  (fun v36 => TYB v36 fun b38 =>
                                    BR (!b38)
                                      (J_ref13_Prizes_1 W R true nx0 za0 n19 B31 b18)
                                      (RDI .i64 (Addr.add ⟨B31, 0, none⟩ 1) fun n40 =>
                                        CALL Pg W F_ref13_in [(.int .i64 n40), (.int .i64 0), (.int .i64 5)]
                                          (fun v41 => TYB v41 fun b43 =>
                                            J_ref13_Prizes_1 W R (!b43) nx0 za0 n19 B31 b18)
                                            (fun e42 => R (.panicked e42))))
                                    (fun e37 => R (.panicked e37)))
      (L_ref13_Prizes_2 W R za0 b18 0)
theorem B_ref13_Prizes_0_eq (W : World) (R : Ending → Hp → Prop) (za0 : Addr) (b18 : Bool) (n19 : Int) (nx0 : List Value → Hp → Prop) (j : Tm) : vc Pg W 82 rs_26 an_26 false (sub (bodyOf Try.f26) [1, 1, 0, 1, 0, 0]) 0 (KLoop [2, 3] [1, 82] [(.pointer (some za0)), (.tuple #[])] nx0 (KBlk 0 (KS Pg W 82 rs_26 an_26 false (sub (bodyOf Try.f26) [1, 1, 1]) 0 (fin Pg W 82 rv_26 R)))) (known [2, 3] [(.bool b18), (.int .i64 n19)] (known [1, 82] [(.pointer (some za0)), (.tuple #[])] j)) = B_ref13_Prizes_0 W R za0 b18 n19 nx0 := by kernel_rfl
def N_ref13_Prizes_0 (I : Bool → Int → Hp → Prop) (μ : Bool → Int → Hp → Nat) (b180 : Bool) (n190 : Int) (s : Hp) (vs : List Value) : Hp → Prop := fun s' => ∃ b18 n19, vs = [(.bool b18), (.int .i64 n19)] ∧ I b18 n19 s' ∧ μ b18 n19 s' < μ b180 n190 s
theorem L_ref13_Prizes_0_rule (W : World) (R : Ending → Hp → Prop) (za0 : Addr) (I : Bool → Int → Hp → Prop) (μ : Bool → Int → Hp → Nat) (b180 : Bool) (n190 : Int) (s : Hp) (h0 : I b180 n190 s)
    (hr : ∀ (b18 : Bool) (n19 : Int) (s : Hp), I b18 n19 s → B_ref13_Prizes_0 W R za0 b18 n19 (fun vs => N_ref13_Prizes_0 I μ b18 n19 s vs) s) : L_ref13_Prizes_0 W R za0 b180 n190 s := by
  refine ⟨fun vs s => ∃ b18 n19, vs = [(.bool b18), (.int .i64 n19)] ∧ I b18 n19 s, fun vs s => (match vs with | [.bool b18, .int _ n19] => μ b18 n19 s | _ => 0), ⟨⟨⟨_, rfl⟩, ⟨⟨_, rfl⟩, trivial⟩⟩, ⟨_, _, rfl, h0⟩⟩, ?_⟩
  intro b18 n19 s hI j
  obtain ⟨b18', n19', hy, hI⟩ := hI
  have hI' : I b18 n19 s := by cases hy; exact hI
  have hh := hr b18 n19 s hI'
  rw [← B_ref13_Prizes_0_eq W R za0 b18 n19 _ j] at hh
  refine vc_mono ?_ _ _ hh
  exact KLoop_mono (fun vs s' h => by obtain ⟨b181, n191, rfl, h1, h2⟩ := h; exact ⟨⟨⟨_, rfl⟩, ⟨⟨_, rfl⟩, trivial⟩⟩, ⟨_, _, rfl, h1⟩, h2⟩)
def B_ref13_Prizes_1 (W : World) (R : Ending → Hp → Prop) (nx0 : List Value → Hp → Prop) (za0 : Addr) (zn1 : Int) (za2 : Addr) (b44 : Bool) (n45 : Int) (nx1 : List Value → Hp → Prop) : Hp → Prop :=
  BR (decide (n45 < zn1))
    (RDL (Addr.add za0 0) fun x46 l47 c48 =>
      IXS x46 l47 n45 4 fun a49 =>
        RDI .i64 (Addr.add a49 0) fun n50 =>
          RDI .i64 (Addr.add za2 0) fun n51 =>
            BR (n50 == n51)
              (R (.returned (.bool false)))
              (NX [(.pointer (some za0)), (.int .i64 zn1), (.pointer (some za2)), (.tuple #[])] [(.pointer (some za0)), (.int .i64 zn1), (.pointer (some za2)), (.tuple #[])] (nx1 [(.bool b44), (.int .i64 (IntKind.wrap .i64 (n45 + 1)))])))
    (NX [(.pointer (some za0)), (.tuple #[])] [(.pointer (some za0)), (.tuple #[])] (nx0 [(.bool b44), (.int .i64 (IntKind.wrap .i64 (zn1 + 1)))]))
theorem B_ref13_Prizes_1_eq (W : World) (R : Ending → Hp → Prop) (nx0 : List Value → Hp → Prop) (za0 : Addr) (zn1 : Int) (za2 : Addr) (b44 : Bool) (n45 : Int) (nx1 : List Value → Hp → Prop) (j : Tm) : vc Pg W 82 rs_26 an_26 false (sub (bodyOf Try.f26) [1, 1, 0, 1, 0, 0, 1, 0, 0, 1, 1, 1, 0, 0]) 2 (KLoop [2, 5] [1, 3, 4, 82] [(.pointer (some za0)), (.int .i64 zn1), (.pointer (some za2)), (.tuple #[])] nx1 (KBlk 2 (KBlk 1 (KS Pg W 82 rs_26 an_26 false (sub (bodyOf Try.f26) [1, 1, 0, 1, 0, 0, 1, 1]) 0 (KLoop [2, 3] [1, 82] [(.pointer (some za0)), (.tuple #[])] nx0 (KBlk 0 (KS Pg W 82 rs_26 an_26 false (sub (bodyOf Try.f26) [1, 1, 1]) 0 (fin Pg W 82 rv_26 R)))))))) (known [2, 5] [(.bool b44), (.int .i64 n45)] (known [1, 3, 4, 82] [(.pointer (some za0)), (.int .i64 zn1), (.pointer (some za2)), (.tuple #[])] j)) = B_ref13_Prizes_1 W R nx0 za0 zn1 za2 b44 n45 nx1 := by kernel_rfl
def N_ref13_Prizes_1 (I : Bool → Int → Hp → Prop) (μ : Bool → Int → Hp → Nat) (b440 : Bool) (n450 : Int) (s : Hp) (vs : List Value) : Hp → Prop := fun s' => ∃ b44 n45, vs = [(.bool b44), (.int .i64 n45)] ∧ I b44 n45 s' ∧ μ b44 n45 s' < μ b440 n450 s
theorem L_ref13_Prizes_1_rule (W : World) (R : Ending → Hp → Prop) (nx0 : List Value → Hp → Prop) (za0 : Addr) (zn1 : Int) (za2 : Addr) (I : Bool → Int → Hp → Prop) (μ : Bool → Int → Hp → Nat) (b440 : Bool) (n450 : Int) (s : Hp) (h0 : I b440 n450 s)
    (hr : ∀ (b44 : Bool) (n45 : Int) (s : Hp), I b44 n45 s → B_ref13_Prizes_1 W R nx0 za0 zn1 za2 b44 n45 (fun vs => N_ref13_Prizes_1 I μ b44 n45 s vs) s) : L_ref13_Prizes_1 W R nx0 za0 zn1 za2 b440 n450 s := by
  refine ⟨fun vs s => ∃ b44 n45, vs = [(.bool b44), (.int .i64 n45)] ∧ I b44 n45 s, fun vs s => (match vs with | [.bool b44, .int _ n45] => μ b44 n45 s | _ => 0), ⟨⟨⟨_, rfl⟩, ⟨⟨_, rfl⟩, trivial⟩⟩, ⟨_, _, rfl, h0⟩⟩, ?_⟩
  intro b44 n45 s hI j
  obtain ⟨b44', n45', hy, hI⟩ := hI
  have hI' : I b44 n45 s := by cases hy; exact hI
  have hh := hr b44 n45 s hI'
  rw [← B_ref13_Prizes_1_eq W R nx0 za0 zn1 za2 b44 n45 _ j] at hh
  refine vc_mono ?_ _ _ hh
  exact KLoop_mono (fun vs s' h => by obtain ⟨b441, n451, rfl, h1, h2⟩ := h; exact ⟨⟨⟨_, rfl⟩, ⟨⟨_, rfl⟩, trivial⟩⟩, ⟨_, _, rfl, h1⟩, h2⟩)
def B_ref13_Prizes_2 (W : World) (R : Ending → Hp → Prop) (za0 : Addr) (b52 : Bool) (n53 : Int) (nx2 : List Value → Hp → Prop) : Hp → Prop :=
  RDL (Addr.add za0 1) fun x54 l55 c56 =>
    BR (decide (n53 < (↑l55 : Int)))
      (RDL (Addr.add za0 1) fun x57 l58 c59 =>
        IXS x57 l58 n53 2 fun a60 =>
          RDI .i64 (Addr.add a60 0) fun n61 =>
            CALL Pg W F_ref13_in [(.int .i64 n61), (.int .i64 0), (.int .i64 4)]
              (fun v62 => TYB v62 fun b64 =>
                BR (!b64)
                  (R (.returned (.bool false)))
                  (RDL (Addr.add za0 1) fun x65 l66 c67 =>
                    IXS x65 l66 n53 2 fun a68 =>
                      RDI .i64 (Addr.add a68 1) fun n69 =>
                        CALL Pg W F_ref13_in [(.int .i64 n69), (.int .i64 0), (.int .i64 1000)]
                          (fun v70 => TYB v70 fun b72 =>
                            BR (!b72)
                              (R (.returned (.bool false)))
                              (NX [(.pointer (some za0)), (.tuple #[])] [(.pointer (some za0)), (.tuple #[])] (nx2 [(.bool b52), (.int .i64 (IntKind.wrap .i64 (n53 + 1)))])))
                            (fun e71 => R (.panicked e71))))
                (fun e63 => R (.panicked e63)))
      (R (.returned (.bool true)))
theorem B_ref13_Prizes_2_eq (W : World) (R : Ending → Hp → Prop) (za0 : Addr) (b52 : Bool) (n53 : Int) (nx2 : List Value → Hp → Prop) (j : Tm) : vc Pg W 82 rs_26 an_26 false (sub (bodyOf Try.f26) [1, 1, 1, 0, 1, 0, 0]) 4 (KLoop [2, 6] [1, 82] [(.pointer (some za0)), (.tuple #[])] nx2 (KBlk 4 (KS Pg W 82 rs_26 an_26 false (sub (bodyOf Try.f26) [1, 1, 1, 1]) 0 (fin Pg W 82 rv_26 R)))) (known [2, 6] [(.bool b52), (.int .i64 n53)] (known [1, 82] [(.pointer (some za0)), (.tuple #[])] j)) = B_ref13_Prizes_2 W R za0 b52 n53 nx2 := by kernel_rfl
def N_ref13_Prizes_2 (I : Bool → Int → Hp → Prop) (μ : Bool → Int → Hp → Nat) (b520 : Bool) (n530 : Int) (s : Hp) (vs : List Value) : Hp → Prop := fun s' => ∃ b52 n53, vs = [(.bool b52), (.int .i64 n53)] ∧ I b52 n53 s' ∧ μ b52 n53 s' < μ b520 n530 s
theorem L_ref13_Prizes_2_rule (W : World) (R : Ending → Hp → Prop) (za0 : Addr) (I : Bool → Int → Hp → Prop) (μ : Bool → Int → Hp → Nat) (b520 : Bool) (n530 : Int) (s : Hp) (h0 : I b520 n530 s)
    (hr : ∀ (b52 : Bool) (n53 : Int) (s : Hp), I b52 n53 s → B_ref13_Prizes_2 W R za0 b52 n53 (fun vs => N_ref13_Prizes_2 I μ b52 n53 s vs) s) : L_ref13_Prizes_2 W R za0 b520 n530 s := by
  refine ⟨fun vs s => ∃ b52 n53, vs = [(.bool b52), (.int .i64 n53)] ∧ I b52 n53 s, fun vs s => (match vs with | [.bool b52, .int _ n53] => μ b52 n53 s | _ => 0), ⟨⟨⟨_, rfl⟩, ⟨⟨_, rfl⟩, trivial⟩⟩, ⟨_, _, rfl, h0⟩⟩, ?_⟩
  intro b52 n53 s hI j
  obtain ⟨b52', n53', hy, hI⟩ := hI
  have hI' : I b52 n53 s := by cases hy; exact hI
  have hh := hr b52 n53 s hI'
  rw [← B_ref13_Prizes_2_eq W R za0 b52 n53 _ j] at hh
  refine vc_mono ?_ _ _ hh
  exact KLoop_mono (fun vs s' h => by obtain ⟨b521, n531, rfl, h1, h2⟩ := h; exact ⟨⟨⟨_, rfl⟩, ⟨⟨_, rfl⟩, trivial⟩⟩, ⟨_, _, rfl, h1⟩, h2⟩)
def T_ref13_Prizes (W : World) (x1 : Option Addr) (l2 : Nat) (c3 : Nat) (x4 : Option Addr) (l5 : Nat) (c6 : Nat) (R : Ending → Hp → Prop) : Hp → Prop :=
  NEW 25 [(.slice x1 l2 c3), (.slice x4 l5 c6)] fun B7 =>
    RDL (Addr.add ⟨B7, 0, none⟩ 0) fun x8 l9 c10 =>
      CALL Pg W F_ref13_in [(.int .i64 (↑l9 : Int)), (.int .i64 1), (.int .i64 8)]
        (fun v11 => TYB v11 fun b13 =>
          BR (!b13)
            (J_ref13_Prizes_0 W R true B7)
            (RDL (Addr.add ⟨B7, 0, none⟩ 1) fun x15 l16 c17 =>
              J_ref13_Prizes_0 W R (decide ((↑l16 : Int) > 6)) B7))
          (fun e12 => R (.panicked e12))
theorem T_ref13_Prizes_eq (W : World) (x1 : Option Addr) (l2 : Nat) (c3 : Nat) (x4 : Option Addr) (l5 : Nat) (c6 : Nat) (R : Ending → Hp → Prop) : vfun Pg W an_26 Try.f26 [(.agg #[(.slice x1 l2 c3), (.slice x4 l5 c6)])] R = T_ref13_Prizes W x1 l2 c3 x4 l5 c6 R := by kernel_rfl
theorem does_ref13_Prizes (W : World) (x1 : Option Addr) (l2 : Nat) (c3 : Nat) (x4 : Option Addr) (l5 : Nat) (c6 : Nat) (R : Ending → Hp → Prop) (s : Hp) (h : T_ref13_Prizes W x1 l2 c3 x4 l5 c6 R s) : Does Pg W F_ref13_Prizes #[(.agg #[(.slice x1 l2 c3), (.slice x4 l5 c6)])] s R :=
  does_of_vfun Pg W an_26 Try.func26 rfl (by kernel_rfl) (by rw [T_ref13_Prizes_eq]; exact h)
def an_48 : Nat → Ann := fun b => match b with
  | _ => {}
abbrev rv_48 : List ResultVar := [.tmp 4]
abbrev rs_48 : List Nat := [10, 4]
def T_ref13_check (W : World) (x1 : Option Addr) (l2 : Nat) (c3 : Nat) (x4 : Option Addr) (l5 : Nat) (c6 : Nat) (b7 : Bool) (R : Ending → Hp → Prop) : Hp → Prop :=
  NEW 25 [(.slice x1 l2 c3), (.slice x4 l5 c6)] fun B8 =>
    RDL (Addr.add ⟨B8, 0, none⟩ 0) fun x9 l10 c11 =>
      RDL (Addr.add ⟨B8, 0, none⟩ 1) fun x12 l13 c14 =>
        CALL Pg W F_ref13_Prizes [(.agg #[(.slice x9 l10 c11), (.slice x12 l13 c14)])]
          (fun v15 => TYB v15 fun b17 =>
            BR (!b17)
              (R (.returned (.int .i64 1)))
              (BR (!b7)
                (R (.returned (.int .i64 2)))
                (R (.returned (.int .i64 0)))))
            (fun e16 => R (.panicked e16))
theorem T_ref13_check_eq (W : World) (x1 : Option Addr) (l2 : Nat) (c3 : Nat) (x4 : Option Addr) (l5 : Nat) (c6 : Nat) (b7 : Bool) (R : Ending → Hp → Prop) : vfun Pg W an_48 Try.f48 [(.agg #[(.slice x1 l2 c3), (.slice x4 l5 c6)]), (.bool b7)] R = T_ref13_check W x1 l2 c3 x4 l5 c6 b7 R := by kernel_rfl
theorem does_ref13_check (W : World) (x1 : Option Addr) (l2 : Nat) (c3 : Nat) (x4 : Option Addr) (l5 : Nat) (c6 : Nat) (b7 : Bool) (R : Ending → Hp → Prop) (s : Hp) (h : T_ref13_check W x1 l2 c3 x4 l5 c6 b7 R s) : Does Pg W F_ref13_check #[(.agg #[(.slice x1 l2 c3), (.slice x4 l5 c6)]), (.bool b7)] s R :=
  does_of_vfun Pg W an_48 Try.func48 rfl (by kernel_rfl) (by rw [T_ref13_check_eq]; exact h)
def an_49 : Nat → Ann := fun b => match b with
  | _ => {}
abbrev rv_49 : List ResultVar := [.tmp 4]
abbrev rs_49 : List Nat := [11, 4]
def T_ref13_Man (W : World) (x1 : Option Addr) (l2 : Nat) (c3 : Nat) (x4 : Option Addr) (l5 : Nat) (c6 : Nat) (n7 : Int) (R : Ending → Hp → Prop) : Hp → Prop :=
  NEW 25 [(.slice x1 l2 c3), (.slice x4 l5 c6)] fun B8 =>
    RDL (Addr.add ⟨B8, 0, none⟩ 0) fun x9 l10 c11 =>
      CALL Pg W F_ref13_in [(.int .i64 n7), (.int .i64 0), (.int .i64 (IntKind.wrap .i64 ((↑l10 : Int) - 1)))]
        (fun v12 => TYB v12 fun b14 =>
          R (.returned (.bool b14)))
          (fun e13 => R (.panicked e13))
theorem T_ref13_Man_eq (W : World) (x1 : Option Addr) (l2 : Nat) (c3 : Nat) (x4 : Option Addr) (l5 : Nat) (c6 : Nat) (n7 : Int) (R : Ending → Hp → Prop) : vfun Pg W an_49 Try.f49 [(.agg #[(.slice x1 l2 c3), (.slice x4 l5 c6)]), (.int .i64 n7)] R = T_ref13_Man W x1 l2 c3 x4 l5 c6 n7 R := by kernel_rfl
theorem does_ref13_Man (W : World) (x1 : Option Addr) (l2 : Nat) (c3 : Nat) (x4 : Option Addr) (l5 : Nat) (c6 : Nat) (n7 : Int) (R : Ending → Hp → Prop) (s : Hp) (h : T_ref13_Man W x1 l2 c3 x4 l5 c6 n7 R s) : Does Pg W F_ref13_Man #[(.agg #[(.slice x1 l2 c3), (.slice x4 l5 c6)]), (.int .i64 n7)] s R :=
  does_of_vfun Pg W an_49 Try.func49 rfl (by kernel_rfl) (by rw [T_ref13_Man_eq]; exact h)
def an_50 : Nat → Ann := fun b => match b with
  | _ => {}
abbrev rv_50 : List ResultVar := [.tmp 4]
abbrev rs_50 : List Nat := [11, 4]
def T_ref13_Prize (W : World) (x1 : Option Addr) (l2 : Nat) (c3 : Nat) (x4 : Option Addr) (l5 : Nat) (c6 : Nat) (n7 : Int) (R : Ending → Hp → Prop) : Hp → Prop :=
  NEW 25 [(.slice x1 l2 c3), (.slice x4 l5 c6)] fun B8 =>
    RDL (Addr.add ⟨B8, 0, none⟩ 1) fun x9 l10 c11 =>
      CALL Pg W F_ref13_in [(.int .i64 n7), (.int .i64 0), (.int .i64 (IntKind.wrap .i64 ((↑l10 : Int) - 1)))]
        (fun v12 => TYB v12 fun b14 =>
          R (.returned (.bool b14)))
          (fun e13 => R (.panicked e13))
theorem T_ref13_Prize_eq (W : World) (x1 : Option Addr) (l2 : Nat) (c3 : Nat) (x4 : Option Addr) (l5 : Nat) (c6 : Nat) (n7 : Int) (R : Ending → Hp → Prop) : vfun Pg W an_50 Try.f50 [(.agg #[(.slice x1 l2 c3), (.slice x4 l5 c6)]), (.int .i64 n7)] R = T_ref13_Prize W x1 l2 c3 x4 l5 c6 n7 R := by kernel_rfl
theorem does_ref13_Prize (W : World) (x1 : Option Addr) (l2 : Nat) (c3 : Nat) (x4 : Option Addr) (l5 : Nat) (c6 : Nat) (n7 : Int) (R : Ending → Hp → Prop) (s : Hp) (h : T_ref13_Prize W x1 l2 c3 x4 l5 c6 n7 R s) : Does Pg W F_ref13_Prize #[(.agg #[(.slice x1 l2 c3), (.slice x4 l5 c6)]), (.int .i64 n7)] s R :=
  does_of_vfun Pg W an_50 Try.func50 rfl (by kernel_rfl) (by rw [T_ref13_Prize_eq]; exact h)
def an_51 : Nat → Ann := fun b => match b with
  | _ => {}
abbrev rv_51 : List ResultVar := [.tmp 6]
abbrev rs_51 : List Nat := [40, 6]
def T_ref13_can (W : World) (x1 : Option Addr) (l2 : Nat) (c3 : Nat) (x4 : Option Addr) (l5 : Nat) (c6 : Nat) (n7 : Int) (n8 : Int) (R : Ending → Hp → Prop) : Hp → Prop :=
  NEW 25 [(.slice x1 l2 c3), (.slice x4 l5 c6)] fun B9 =>
    RDL (Addr.add ⟨B9, 0, none⟩ 0) fun x10 l11 c12 =>
      IXS x10 l11 n7 4 fun a13 =>
        RDI .i64 (Addr.add a13 0) fun n14 =>
          RDI .i64 (Addr.add a13 1) fun n15 =>
            RDB (Addr.add a13 2) fun b16 =>
              RDB (Addr.add a13 3) fun b17 =>
                NEWZ Pg 48 fun B18 =>
                  WR (Addr.add ⟨B18, 0, none⟩ 0) (.int .i64 n14) <|
                    WR (Addr.add ⟨B18, 0, none⟩ 1) (.int .i64 n15) <|
                      WR (Addr.add ⟨B18, 0, none⟩ 2) (.bool b16) <|
                        WR (Addr.add ⟨B18, 0, none⟩ 3) (.bool b17) <|
                          RDL (Addr.add ⟨B9, 0, none⟩ 1) fun x19 l20 c21 =>
                            IXS x19 l20 n8 2 fun a22 =>
                              RDI .i64 (Addr.add a22 0) fun n23 =>
                                BR (n23 == 1)
                                  (RDB (Addr.add ⟨B18, 0, none⟩ 2) fun b24 =>
                                    R (.returned (.bool b24)))
                                  (BR (n23 == 2)
                                    (RDB (Addr.add ⟨B18, 0, none⟩ 3) fun b25 =>
                                      R (.returned (.bool b25)))
                                    (BR (n23 == 3)
                                      (RDB (Addr.add ⟨B18, 0, none⟩ 2) fun b26 =>
                                        BR b26
                                          (RDB (Addr.add ⟨B18, 0, none⟩ 3) fun b27 =>
                                            R (.returned (.bool b27)))
                                          (R (.returned (.bool false))))
                                      (BR (n23 == 4)
                                        (RDI .i64 (Addr.add ⟨B18, 0, none⟩ 1) fun n28 =>
                                          R (.returned (.bool (n28 != 0))))
                                        (R (.returned (.bool true))))))
theorem T_ref13_can_eq (W : World) (x1 : Option Addr) (l2 : Nat) (c3 : Nat) (x4 : Option Addr) (l5 : Nat) (c6 : Nat) (n7 : Int) (n8 : Int) (R : Ending → Hp → Prop) : vfun Pg W an_51 Try.f51 [(.agg #[(.slice x1 l2 c3), (.slice x4 l5 c6)]), (.int .i64 n7), (.int .i64 n8)] R = T_ref13_can W x1 l2 c3 x4 l5 c6 n7 n8 R := by kernel_rfl
theorem does_ref13_can (W : World) (x1 : Option Addr) (l2 : Nat) (c3 : Nat) (x4 : Option Addr) (l5 : Nat) (c6 : Nat) (n7 : Int) (n8 : Int) (R : Ending → Hp → Prop) (s : Hp) (h : T_ref13_can W x1 l2 c3 x4 l5 c6 n7 n8 R s) : Does Pg W F_ref13_can #[(.agg #[(.slice x1 l2 c3), (.slice x4 l5 c6)]), (.int .i64 n7), (.int .i64 n8)] s R :=
  does_of_vfun Pg W an_51 Try.func51 rfl (by kernel_rfl) (by rw [T_ref13_can_eq]; exact h)
def an_53 : Nat → Ann := fun b => match b with
  | 0 => { ms := [3, 4], ks := [.l, .i .i64], us := [1, 2, 67], rt := false, ex := [] }
  | 2 => { ms := [5, 6], ks := [.i .i64, .i .i64], us := [1, 2, 3, 4, 67], rt := false, ex := [] }
  | _ => {}
abbrev rv_53 : List ResultVar := [.tmp 2]
abbrev rs_53 : List Nat := [67, 2]
def L_ref13_due_0 (W : World) (R : Ending → Hp → Prop) (za0 : Addr) (x8 : Option Addr) (l9 : Nat) (c10 : Nat) (n11 : Int) : Hp → Prop :=
  LOOPN [.l, .i .i64] (fun ys next s => ∀ j : Tm, vc Pg W 67 rs_53 an_53 false (sub (bodyOf Try.f53) [1, 1, 0, 1, 0, 0]) 0 (KLoop [3, 4] [1, 2, 67] [(.pointer (some za0)), (.slice none 0 0), (.tuple #[])] next (KBlk 0 (KS Pg W 67 rs_53 an_53 false (sub (bodyOf Try.f53) [1, 1, 1]) 0 (fin Pg W 67 rv_53 R)))) (known [3, 4] ys (known [1, 2, 67] [(.pointer (some za0)), (.slice none 0 0), (.tuple #[])] j)) s) [(.slice x8 l9 c10), (.int .i64 n11)]
def L_ref13_due_1 (W : World) (R : Ending → Hp → Prop) (nx0 : List Value → Hp → Prop) (za0 : Addr) (zp1 : Option Addr) (zl2 : Nat) (zl3 : Nat) (zn4 : Int) (n15 : Int) (n16 : Int) : Hp → Prop :=
  LOOPN [.i .i64, .i .i64] (fun ys next s => ∀ j : Tm, vc Pg W 67 rs_53 an_53 false (sub (bodyOf Try.f53) [1, 1, 0, 1, 0, 0, 1, 0, 0, 1, 0, 1, 0, 0]) 2 (KLoop [5, 6] [1, 2, 3, 4, 67] [(.pointer (some za0)), (.slice none 0 0), (.slice zp1 zl2 zl3), (.int .i64 zn4), (.tuple #[])] next (KBlk 2 (KS Pg W 67 rs_53 an_53 false (sub (bodyOf Try.f53) [1, 1, 0, 1, 0, 0, 1, 0, 0, 1, 1]) 1 (KBlk 1 (KS Pg W 67 rs_53 an_53 false (sub (bodyOf Try.f53) [1, 1, 0, 1, 0, 0, 1, 1]) 0 (KLoop [3, 4] [1, 2, 67] [(.pointer (some za0)), (.slice none 0 0), (.tuple #[])] nx0 (KBlk 0 (KS Pg W 67 rs_53 an_53 false (sub (bodyOf Try.f53) [1, 1, 1]) 0 (fin Pg W 67 rv_53 R))))))))) (known [5, 6] ys (known [1, 2, 3, 4, 67] [(.pointer (some za0)), (.slice none 0 0), (.slice zp1 zl2 zl3), (.int .i64 zn4), (.tuple #[])] j)) s) [(.int .i64 n15), (.int .i64 n16)]
def J_ref13_due_0 (W : World) (R : Ending → Hp → Prop) (za0 : Addr) (zp1 : Option Addr) (zl2 : Nat) (zl3 : Nat) (zn4 : Int) (nx1 : List Value → Hp → Prop) (n50 : Int) (n16 : Int) : Hp → Prop :=
  NX [(.pointer (some za0)), (.slice none 0 0), (.slice zp1 zl2 zl3), (.int .i64 zn4), (.tuple #[])] [(.pointer (some za0)), (.slice none 0 0), (.slice zp1 zl2 zl3), (.int .i64 zn4), (.tuple #[])] (nx1 [(.int .i64 n50), (.int .i64 (IntKind.wrap .i64 (n16 + 1)))])
def J_ref13_due_1 (W : World) (R : Ending → Hp → Prop) (b49 : Bool) (za0 : Addr) (zp1 : Option Addr) (zl2 : Nat) (zl3 : Nat) (zn4 : Int) (nx1 : List Value → Hp → Prop) (n29 : Int) (n16 : Int) (n15 : Int) : Hp → Prop :=
  BR b49
    (J_ref13_due_0 W R za0 zp1 zl2 zl3 zn4 nx1 n29 n16)
    (J_ref13_due_0 W R za0 zp1 zl2 zl3 zn4 nx1 n15 n16)
def J_ref13_due_2 (W : World) (R : Ending → Hp → Prop) (b45 : Bool) (zp1 : Option Addr) (zl2 : Nat) (zl3 : Nat) (n29 : Int) (za0 : Addr) (zn4 : Int) (nx1 : List Value → Hp → Prop) (n16 : Int) (n15 : Int) : Hp → Prop :=
  BR b45
    (CALL Pg W F_ref13_has [(.slice zp1 zl2 zl3), (.int .i64 n29)]
      (fun v46 => TYB v46 fun b48 =>
        J_ref13_due_1 W R (!b48) za0 zp1 zl2 zl3 zn4 nx1 n29 n16 n15)
        (fun e47 => R (.panicked e47)))
    (J_ref13_due_1 W R false za0 zp1 zl2 zl3 zn4 nx1 n29 n16 n15)
def J_ref13_due_3 (W : World) (R : Ending → Hp → Prop) (za0 : Addr) (n29 : Int) (zn4 : Int) (b35 : Bool) (zp1 : Option Addr) (zl2 : Nat) (zl3 : Nat) (nx1 : List Value → Hp → Prop) (n16 : Int) (n15 : Int) : Hp → Prop :=
  RDL (Addr.add za0 0) fun x36 l37 c38 =>
    RDL (Addr.add za0 1) fun x39 l40 c41 =>
      CALL Pg W F_ref13_can [(.agg #[(.slice x36 l37 c38), (.slice x39 l40 c41)]), (.int .i64 n29), (.int .i64 zn4)]
        (fun v42 => TYB v42 fun b44 =>
          BR b44
            (J_ref13_due_2 W R b35 zp1 zl2 zl3 n29 za0 zn4 nx1 n16 n15)
            (J_ref13_due_2 W R false zp1 zl2 zl3 n29 za0 zn4 nx1 n16 n15))
          (fun e43 => R (.panicked e43))
def J_ref13_due_4 (W : World) (R : Ending → Hp → Prop) (b20 : Bool) (za0 : Addr) (n16 : Int) (zn4 : Int) (zp1 : Option Addr) (zl2 : Nat) (zl3 : Nat) (nx1 : List Value → Hp → Prop) (n15 : Int) (nx0 : List Value → Hp → Prop) : Hp → Prop :=
  BR b20
    (RDL (Addr.add za0 0) fun x21 l22 c23 =>
      RDL (Addr.add za0 1) fun x24 l25 c26 =>
        CALL Pg W F_ref13_at [(.agg #[(.slice x21 l22 c23), (.slice x24 l25 c26)]), (.int .i64 n16)]
          (fun v27 => TYI .i64 v27 fun n29 =>
            RDL (Addr.add za0 1) fun x30 l31 c32 =>
              IXS x30 l31 zn4 2 fun a33 =>
                RDI .i64 (Addr.add a33 0) fun n34 =>
                  BR (n34 != 4)
                    (J_ref13_due_3 W R za0 n29 zn4 true zp1 zl2 zl3 nx1 n16 n15)
                    (RDL (Addr.add za0 0) fun x51 l52 c53 =>
                      IXS x51 l52 n29 4 fun a54 =>
                        RDI .i64 (Addr.add a54 1) fun n55 =>
                          RDL (Addr.add za0 0) fun x56 l57 c58 =>
                            RDL (Addr.add za0 1) fun x59 l60 c61 =>
                              CALL Pg W F_ref13_best [(.agg #[(.slice x56 l57 c58), (.slice x59 l60 c61)])]
                                (fun v62 => TYI .i64 v62 fun n64 =>
                                  ANDS (RDI .i64 (Addr.add a54 1) fun n66 =>
                                    fun _ => ((.int .i64 n66) : Value) = (.int .i64 n55)) <|
                                    ANDS (RDL (Addr.add za0 0) fun x70 l71 c72 =>
                                      fun _ => ((.slice x70 l71 c72) : Value) = (.slice x51 l52 c53)) <|
                                      J_ref13_due_3 W R za0 n29 zn4 (n55 == n64) zp1 zl2 zl3 nx1 n16 n15)
                                  (fun e63 => R (.panicked e63))))
            (fun e28 => R (.panicked e28)))
    (NEW 3 [(.int .i64 n15)] fun B73 =>
      APP Pg 3 1 zp1 zl2 zl3 (some ⟨B73, 0, none⟩) 1 fun x74 l75 c76 =>
        NX [(.pointer (some za0)), (.slice none 0 0), (.tuple #[])] [(.pointer (some za0)), (.slice none 0 0), (.tuple #[])] (nx0 [(.slice x74 l75 c76), (.int .i64 (IntKind.wrap .i64 (zn4 + 1)))]))
def B_ref13_due_0 (W : World) (R : Ending → Hp → Prop) (za0 : Addr) (x8 : Option Addr) (l9 : Nat) (c10 : Nat) (n11 : Int) (nx0 : List Value → Hp → Prop) : Hp → Prop :=
  RDL (Addr.add za0 1) fun x12 l13 c14 =>
    BR (decide (n11 < (↑l13 : Int)))
      (L_ref13_due_1 W R nx0 za0 x8 l9 c10 n11 (-1) 1)
      (R (.returned (.slice x8 l9 c10)))
theorem B_ref13_due_0_eq (W : World) (R : Ending → Hp → Prop) (za0 : Addr) (x8 : Option Addr) (l9 : Nat) (c10 : Nat) (n11 : Int) (nx0 : List Value → Hp → Prop) (j : Tm) : vc Pg W 67 rs_53 an_53 false (sub (bodyOf Try.f53) [1, 1, 0, 1, 0, 0]) 0 (KLoop [3, 4] [1, 2, 67] [(.pointer (some za0)), (.slice none 0 0), (.tuple #[])] nx0 (KBlk 0 (KS Pg W 67 rs_53 an_53 false (sub (bodyOf Try.f53) [1, 1, 1]) 0 (fin Pg W 67 rv_53 R)))) (known [3, 4] [(.slice x8 l9 c10), (.int .i64 n11)] (known [1, 2, 67] [(.pointer (some za0)), (.slice none 0 0), (.tuple #[])] j)) = B_ref13_due_0 W R za0 x8 l9 c10 n11 nx0 := by kernel_rfl
def N_ref13_due_0 (I : Option Addr → Nat → Nat → Int → Hp → Prop) (μ : Option Addr → Nat → Nat → Int → Hp → Nat) (x80 : Option Addr) (l90 : Nat) (c100 : Nat) (n110 : Int) (s : Hp) (vs : List Value) : Hp → Prop := fun s' => ∃ x8 l9 c10 n11, vs = [(.slice x8 l9 c10), (.int .i64 n11)] ∧ I x8 l9 c10 n11 s' ∧ μ x8 l9 c10 n11 s' < μ x80 l90 c100 n110 s
theorem L_ref13_due_0_rule (W : World) (R : Ending → Hp → Prop) (za0 : Addr) (I : Option Addr → Nat → Nat → Int → Hp → Prop) (μ : Option Addr → Nat → Nat → Int → Hp → Nat) (x80 : Option Addr) (l90 : Nat) (c100 : Nat) (n110 : Int) (s : Hp) (h0 : I x80 l90 c100 n110 s)
    (hr : ∀ (x8 : Option Addr) (l9 : Nat) (c10 : Nat) (n11 : Int) (s : Hp), I x8 l9 c10 n11 s → B_ref13_due_0 W R za0 x8 l9 c10 n11 (fun vs => N_ref13_due_0 I μ x8 l9 c10 n11 s vs) s) : L_ref13_due_0 W R za0 x80 l90 c100 n110 s := by
  refine ⟨fun vs s => ∃ x8 l9 c10 n11, vs = [(.slice x8 l9 c10), (.int .i64 n11)] ∧ I x8 l9 c10 n11 s, fun vs s => (match vs with | [.slice x8 l9 c10, .int _ n11] => μ x8 l9 c10 n11 s | _ => 0), ⟨⟨⟨_, _, _, rfl⟩, ⟨⟨_, rfl⟩, trivial⟩⟩, ⟨_, _, _, _, rfl, h0⟩⟩, ?_⟩
  intro x8 l9 c10 n11 s hI j
  obtain ⟨x8', l9', c10', n11', hy, hI⟩ := hI
  have hI' : I x8 l9 c10 n11 s := by cases hy; exact hI
  have hh := hr x8 l9 c10 n11 s hI'
  rw [← B_ref13_due_0_eq W R za0 x8 l9 c10 n11 _ j] at hh
  refine vc_mono ?_ _ _ hh
  exact KLoop_mono (fun vs s' h => by obtain ⟨x81, l91, c101, n111, rfl, h1, h2⟩ := h; exact ⟨⟨⟨_, _, _, rfl⟩, ⟨⟨_, rfl⟩, trivial⟩⟩, ⟨_, _, _, _, rfl, h1⟩, h2⟩)
def B_ref13_due_1 (W : World) (R : Ending → Hp → Prop) (nx0 : List Value → Hp → Prop) (za0 : Addr) (zp1 : Option Addr) (zl2 : Nat) (zl3 : Nat) (zn4 : Int) (n15 : Int) (n16 : Int) (nx1 : List Value → Hp → Prop) : Hp → Prop :=
  RDL (Addr.add za0 0) fun x17 l18 c19 =>
    BR (decide (n16 ≤ (↑l18 : Int)))
      (J_ref13_due_4 W R (decide (n15 < 0)) za0 n16 zn4 zp1 zl2 zl3 nx1 n15 nx0)
      (J_ref13_due_4 W R false za0 n16 zn4 zp1 zl2 zl3 nx1 n15 nx0)
theorem B_ref13_due_1_eq (W : World) (R : Ending → Hp → Prop) (nx0 : List Value → Hp → Prop) (za0 : Addr) (zp1 : Option Addr) (zl2 : Nat) (zl3 : Nat) (zn4 : Int) (n15 : Int) (n16 : Int) (nx1 : List Value → Hp → Prop) (j : Tm) : vc Pg W 67 rs_53 an_53 false (sub (bodyOf Try.f53) [1, 1, 0, 1, 0, 0, 1, 0, 0, 1, 0, 1, 0, 0]) 2 (KLoop [5, 6] [1, 2, 3, 4, 67] [(.pointer (some za0)), (.slice none 0 0), (.slice zp1 zl2 zl3), (.int .i64 zn4), (.tuple #[])] nx1 (KBlk 2 (KS Pg W 67 rs_53 an_53 false (sub (bodyOf Try.f53) [1, 1, 0, 1, 0, 0, 1, 0, 0, 1, 1]) 1 (KBlk 1 (KS Pg W 67 rs_53 an_53 false (sub (bodyOf Try.f53) [1, 1, 0, 1, 0, 0, 1, 1]) 0 (KLoop [3, 4] [1, 2, 67] [(.pointer (some za0)), (.slice none 0 0), (.tuple #[])] nx0 (KBlk 0 (KS Pg W 67 rs_53 an_53 false (sub (bodyOf Try.f53) [1, 1, 1]) 0 (fin Pg W 67 rv_53 R))))))))) (known [5, 6] [(.int .i64 n15), (.int .i64 n16)] (known [1, 2, 3, 4, 67] [(.pointer (some za0)), (.slice none 0 0), (.slice zp1 zl2 zl3), (.int .i64 zn4), (.tuple #[])] j)) = B_ref13_due_1 W R nx0 za0 zp1 zl2 zl3 zn4 n15 n16 nx1 := by kernel_rfl
def N_ref13_due_1 (I : Int → Int → Hp → Prop) (μ : Int → Int → Hp → Nat) (n150 : Int) (n160 : Int) (s : Hp) (vs : List Value) : Hp → Prop := fun s' => ∃ n15 n16, vs = [(.int .i64 n15), (.int .i64 n16)] ∧ I n15 n16 s' ∧ μ n15 n16 s' < μ n150 n160 s
theorem L_ref13_due_1_rule (W : World) (R : Ending → Hp → Prop) (nx0 : List Value → Hp → Prop) (za0 : Addr) (zp1 : Option Addr) (zl2 : Nat) (zl3 : Nat) (zn4 : Int) (I : Int → Int → Hp → Prop) (μ : Int → Int → Hp → Nat) (n150 : Int) (n160 : Int) (s : Hp) (h0 : I n150 n160 s)
    (hr : ∀ (n15 : Int) (n16 : Int) (s : Hp), I n15 n16 s → B_ref13_due_1 W R nx0 za0 zp1 zl2 zl3 zn4 n15 n16 (fun vs => N_ref13_due_1 I μ n15 n16 s vs) s) : L_ref13_due_1 W R nx0 za0 zp1 zl2 zl3 zn4 n150 n160 s := by
  refine ⟨fun vs s => ∃ n15 n16, vs = [(.int .i64 n15), (.int .i64 n16)] ∧ I n15 n16 s, fun vs s => (match vs with | [.int _ n15, .int _ n16] => μ n15 n16 s | _ => 0), ⟨⟨⟨_, rfl⟩, ⟨⟨_, rfl⟩, trivial⟩⟩, ⟨_, _, rfl, h0⟩⟩, ?_⟩
  intro n15 n16 s hI j
  obtain ⟨n15', n16', hy, hI⟩ := hI
  have hI' : I n15 n16 s := by cases hy; exact hI
  have hh := hr n15 n16 s hI'
  rw [← B_ref13_due_1_eq W R nx0 za0 zp1 zl2 zl3 zn4 n15 n16 _ j] at hh
  refine vc_mono ?_ _ _ hh
  exact KLoop_mono (fun vs s' h => by obtain ⟨n151, n161, rfl, h1, h2⟩ := h; exact ⟨⟨⟨_, rfl⟩, ⟨⟨_, rfl⟩, trivial⟩⟩, ⟨_, _, rfl, h1⟩, h2⟩)
def T_ref13_due (W : World) (x1 : Option Addr) (l2 : Nat) (c3 : Nat) (x4 : Option Addr) (l5 : Nat) (c6 : Nat) (R : Ending → Hp → Prop) : Hp → Prop :=
  NEW 25 [(.slice x1 l2 c3), (.slice x4 l5 c6)] fun B7 =>
    L_ref13_due_0 W R ⟨B7, 0, none⟩ none 0 0 0
theorem T_ref13_due_eq (W : World) (x1 : Option Addr) (l2 : Nat) (c3 : Nat) (x4 : Option Addr) (l5 : Nat) (c6 : Nat) (R : Ending → Hp → Prop) : vfun Pg W an_53 Try.f53 [(.agg #[(.slice x1 l2 c3), (.slice x4 l5 c6)])] R = T_ref13_due W x1 l2 c3 x4 l5 c6 R := by kernel_rfl
theorem does_ref13_due (W : World) (x1 : Option Addr) (l2 : Nat) (c3 : Nat) (x4 : Option Addr) (l5 : Nat) (c6 : Nat) (R : Ending → Hp → Prop) (s : Hp) (h : T_ref13_due W x1 l2 c3 x4 l5 c6 R s) : Does Pg W F_ref13_due #[(.agg #[(.slice x1 l2 c3), (.slice x4 l5 c6)])] s R :=
  does_of_vfun Pg W an_53 Try.func53 rfl (by kernel_rfl) (by rw [T_ref13_due_eq]; exact h)
def an_57 : Nat → Ann := fun b => match b with
  | 0 => { ms := [3, 4], ks := [.i .i64, .i .i64], us := [1, 2, 28], rt := false, ex := [] }
  | _ => {}
abbrev rv_57 : List ResultVar := [.tmp 2]
abbrev rs_57 : List Nat := [28, 2]
def L_ref13_best_0 (W : World) (R : Ending → Hp → Prop) (za0 : Addr) (n8 : Int) (n9 : Int) : Hp → Prop :=
  LOOPN [.i .i64, .i .i64] (fun ys next s => ∀ j : Tm, vc Pg W 28 rs_57 an_57 false (sub (bodyOf Try.f57) [1, 1, 0, 1, 0, 0]) 0 (KLoop [3, 4] [1, 2, 28] [(.pointer (some za0)), (.int .i64 0), (.tuple #[])] next (KBlk 0 (KS Pg W 28 rs_57 an_57 false (sub (bodyOf Try.f57) [1, 1, 1]) 0 (fin Pg W 28 rv_57 R)))) (known [3, 4] ys (known [1, 2, 28] [(.pointer (some za0)), (.int .i64 0), (.tuple #[])] j)) s) [(.int .i64 n8), (.int .i64 n9)]
def J_ref13_best_0 (W : World) (R : Ending → Hp → Prop) (b19 : Bool) (za0 : Addr) (nx0 : List Value → Hp → Prop) (n9 : Int) (n8 : Int) : Hp → Prop :=
  BR b19
    (NX [(.pointer (some za0)), (.int .i64 0), (.tuple #[])] [(.pointer (some za0)), (.int .i64 0), (.tuple #[])] (nx0 [(.int .i64 n9), (.int .i64 (IntKind.wrap .i64 (n9 + 1)))]))
    (NX [(.pointer (some za0)), (.int .i64 0), (.tuple #[])] [(.pointer (some za0)), (.int .i64 0), (.tuple #[])] (nx0 [(.int .i64 n8), (.int .i64 (IntKind.wrap .i64 (n9 + 1)))]))
def B_ref13_best_0 (W : World) (R : Ending → Hp → Prop) (za0 : Addr) (n8 : Int) (n9 : Int) (nx0 : List Value → Hp → Prop) : Hp → Prop :=
  BR (decide (n9 ≤ 5))
    (RDL (Addr.add za0 0) fun x10 l11 c12 =>
      RDL (Addr.add za0 1) fun x13 l14 c15 =>
        CALL Pg W F_ref13_sum [(.agg #[(.slice x10 l11 c12), (.slice x13 l14 c15)]), (.int .i64 n9)]
          (fun v16 => TYI .i64 v16 fun n18 =>
            BR (decide (n18 > 0))
              (BR (n8 == 0)
                (J_ref13_best_0 W R true za0 nx0 n9 n8)
                (RDL (Addr.add za0 0) fun x20 l21 c22 =>
                  RDL (Addr.add za0 1) fun x23 l24 c25 =>
                    RDL (Addr.add za0 0) fun x26 l27 c28 =>
                      RDL (Addr.add za0 1) fun x29 l30 c31 =>
                        CALL Pg W F_ref13_sum [(.agg #[(.slice x20 l21 c22), (.slice x23 l24 c25)]), (.int .i64 n9)]
                          (fun v32 => TYI .i64 v32 fun n34 =>
                            ANDS (RDL (Addr.add za0 0) fun x41 l42 c43 =>
                              RDL (Addr.add za0 1) fun x44 l45 c46 =>
                                fun _ => ((.agg #[(.slice x41 l42 c43), (.slice x44 l45 c46)]) : Value) = (.agg #[(.slice x26 l27 c28), (.slice x29 l30 c31)])) <|
                              CALL Pg W F_ref13_sum [(.agg #[(.slice x26 l27 c28), (.slice x29 l30 c31)]), (.int .i64 n8)]
                                (fun v47 => TYI .i64 v47 fun n49 =>
                                  J_ref13_best_0 W R (decide (n34 < n49)) za0 nx0 n9 n8)
                                  (fun e48 => R (.panicked e48)))
                            (fun e33 => R (.panicked e33))))
              (J_ref13_best_0 W R false za0 nx0 n9 n8))
            (fun e17 => R (.panicked e17)))
    (R (.returned (.int .i64 n8)))
theorem B_ref13_best_0_eq (W : World) (R : Ending → Hp → Prop) (za0 : Addr) (n8 : Int) (n9 : Int) (nx0 : List Value → Hp → Prop) (j : Tm) : vc Pg W 28 rs_57 an_57 false (sub (bodyOf Try.f57) [1, 1, 0, 1, 0, 0]) 0 (KLoop [3, 4] [1, 2, 28] [(.pointer (some za0)), (.int .i64 0), (.tuple #[])] nx0 (KBlk 0 (KS Pg W 28 rs_57 an_57 false (sub (bodyOf Try.f57) [1, 1, 1]) 0 (fin Pg W 28 rv_57 R)))) (known [3, 4] [(.int .i64 n8), (.int .i64 n9)] (known [1, 2, 28] [(.pointer (some za0)), (.int .i64 0), (.tuple #[])] j)) = B_ref13_best_0 W R za0 n8 n9 nx0 := by kernel_rfl
def N_ref13_best_0 (I : Int → Int → Hp → Prop) (μ : Int → Int → Hp → Nat) (n80 : Int) (n90 : Int) (s : Hp) (vs : List Value) : Hp → Prop := fun s' => ∃ n8 n9, vs = [(.int .i64 n8), (.int .i64 n9)] ∧ I n8 n9 s' ∧ μ n8 n9 s' < μ n80 n90 s
theorem L_ref13_best_0_rule (W : World) (R : Ending → Hp → Prop) (za0 : Addr) (I : Int → Int → Hp → Prop) (μ : Int → Int → Hp → Nat) (n80 : Int) (n90 : Int) (s : Hp) (h0 : I n80 n90 s)
    (hr : ∀ (n8 : Int) (n9 : Int) (s : Hp), I n8 n9 s → B_ref13_best_0 W R za0 n8 n9 (fun vs => N_ref13_best_0 I μ n8 n9 s vs) s) : L_ref13_best_0 W R za0 n80 n90 s := by
  refine ⟨fun vs s => ∃ n8 n9, vs = [(.int .i64 n8), (.int .i64 n9)] ∧ I n8 n9 s, fun vs s => (match vs with | [.int _ n8, .int _ n9] => μ n8 n9 s | _ => 0), ⟨⟨⟨_, rfl⟩, ⟨⟨_, rfl⟩, trivial⟩⟩, ⟨_, _, rfl, h0⟩⟩, ?_⟩
  intro n8 n9 s hI j
  obtain ⟨n8', n9', hy, hI⟩ := hI
  have hI' : I n8 n9 s := by cases hy; exact hI
  have hh := hr n8 n9 s hI'
  rw [← B_ref13_best_0_eq W R za0 n8 n9 _ j] at hh
  refine vc_mono ?_ _ _ hh
  exact KLoop_mono (fun vs s' h => by obtain ⟨n81, n91, rfl, h1, h2⟩ := h; exact ⟨⟨⟨_, rfl⟩, ⟨⟨_, rfl⟩, trivial⟩⟩, ⟨_, _, rfl, h1⟩, h2⟩)
def T_ref13_best (W : World) (x1 : Option Addr) (l2 : Nat) (c3 : Nat) (x4 : Option Addr) (l5 : Nat) (c6 : Nat) (R : Ending → Hp → Prop) : Hp → Prop :=
  NEW 25 [(.slice x1 l2 c3), (.slice x4 l5 c6)] fun B7 =>
    L_ref13_best_0 W R ⟨B7, 0, none⟩ 0 1
theorem T_ref13_best_eq (W : World) (x1 : Option Addr) (l2 : Nat) (c3 : Nat) (x4 : Option Addr) (l5 : Nat) (c6 : Nat) (R : Ending → Hp → Prop) : vfun Pg W an_57 Try.f57 [(.agg #[(.slice x1 l2 c3), (.slice x4 l5 c6)])] R = T_ref13_best W x1 l2 c3 x4 l5 c6 R := by kernel_rfl
theorem does_ref13_best (W : World) (x1 : Option Addr) (l2 : Nat) (c3 : Nat) (x4 : Option Addr) (l5 : Nat) (c6 : Nat) (R : Ending → Hp → Prop) (s : Hp) (h : T_ref13_best W x1 l2 c3 x4 l5 c6 R s) : Does Pg W F_ref13_best #[(.agg #[(.slice x1 l2 c3), (.slice x4 l5 c6)])] s R :=
  does_of_vfun Pg W an_57 Try.func57 rfl (by kernel_rfl) (by rw [T_ref13_best_eq]; exact h)
def an_58 : Nat → Ann := fun b => match b with
  | 0 => { ms := [5, 6, 7], ks := [.i .i64, .i .i64, .i .i64], us := [1, 2, 4, 43], rt := false, ex := [] }
  | _ => {}
abbrev rv_58 : List ResultVar := [.tmp 4]
abbrev rs_58 : List Nat := [43, 4]
def L_ref13_sum_0 (W : World) (R : Ending → Hp → Prop) (zn0 : Int) (za1 : Addr) (n9 : Int) (n10 : Int) (n11 : Int) : Hp → Prop :=
  LOOPN [.i .i64, .i .i64, .i .i64] (fun ys next s => ∀ j : Tm, vc Pg W 43 rs_58 an_58 false (sub (bodyOf Try.f58) [1, 1, 0, 1, 0, 0]) 0 (KLoop [5, 6, 7] [1, 2, 4, 43] [(.int .i64 zn0), (.pointer (some za1)), (.int .i64 0), (.tuple #[])] next (KBlk 0 (KS Pg W 43 rs_58 an_58 false (sub (bodyOf Try.f58) [1, 1, 1]) 0 (fin Pg W 43 rv_58 R)))) (known [5, 6, 7] ys (known [1, 2, 4, 43] [(.int .i64 zn0), (.pointer (some za1)), (.int .i64 0), (.tuple #[])] j)) s) [(.int .i64 n9), (.int .i64 n10), (.int .i64 n11)]
def J_ref13_sum_0 (W : World) (R : Ending → Hp → Prop) (b32 : Bool) (zn0 : Int) (za1 : Addr) (nx0 : List Value → Hp → Prop) (n9 : Int) (n10 : Int) (n11 : Int) : Hp → Prop :=
  BR b32
    (NX [(.int .i64 zn0), (.pointer (some za1)), (.int .i64 0), (.tuple #[])] [(.int .i64 zn0), (.pointer (some za1)), (.int .i64 0), (.tuple #[])] (nx0 [(.int .i64 (IntKind.wrap .i64 (n9 + 1))), (.int .i64 (IntKind.wrap .i64 (n10 + n11))), (.int .i64 (IntKind.wrap .i64 (n11 + 1)))]))
    (NX [(.int .i64 zn0), (.pointer (some za1)), (.int .i64 0), (.tuple #[])] [(.int .i64 zn0), (.pointer (some za1)), (.int .i64 0), (.tuple #[])] (nx0 [(.int .i64 n9), (.int .i64 n10), (.int .i64 (IntKind.wrap .i64 (n11 + 1)))]))
def B_ref13_sum_0 (W : World) (R : Ending → Hp → Prop) (zn0 : Int) (za1 : Addr) (n9 : Int) (n10 : Int) (n11 : Int) (nx0 : List Value → Hp → Prop) : Hp → Prop :=
  RDL (Addr.add za1 0) fun x12 l13 c14 =>
    BR (decide (n11 ≤ (↑l13 : Int)))
      (RDL (Addr.add za1 0) fun x15 l16 c17 =>
        RDL (Addr.add za1 0) fun x18 l19 c20 =>
          RDL (Addr.add za1 1) fun x21 l22 c23 =>
            CALL Pg W F_ref13_at [(.agg #[(.slice x18 l19 c20), (.slice x21 l22 c23)]), (.int .i64 n11)]
              (fun v24 => TYI .i64 v24 fun n26 =>
                ANDS (RDL (Addr.add za1 0) fun x27 l28 c29 =>
                  fun _ => ((.slice x27 l28 c29) : Value) = (.slice x15 l16 c17)) <|
                  IXS x15 l16 n26 4 fun a30 =>
                    RDI .i64 (Addr.add a30 1) fun n31 =>
                      BR (n31 == zn0)
                        (J_ref13_sum_0 W R (decide (n9 < 2)) zn0 za1 nx0 n9 n10 n11)
                        (J_ref13_sum_0 W R false zn0 za1 nx0 n9 n10 n11))
                (fun e25 => R (.panicked e25)))
      (BR (n9 == 1)
        (RDL (Addr.add za1 0) fun x33 l34 c35 =>
          R (.returned (.int .i64 (IntKind.wrap .i64 ((IntKind.wrap .i64 (n10 + (↑l34 : Int))) + 1)))))
        (R (.returned (.int .i64 n10))))
theorem B_ref13_sum_0_eq (W : World) (R : Ending → Hp → Prop) (zn0 : Int) (za1 : Addr) (n9 : Int) (n10 : Int) (n11 : Int) (nx0 : List Value → Hp → Prop) (j : Tm) : vc Pg W 43 rs_58 an_58 false (sub (bodyOf Try.f58) [1, 1, 0, 1, 0, 0]) 0 (KLoop [5, 6, 7] [1, 2, 4, 43] [(.int .i64 zn0), (.pointer (some za1)), (.int .i64 0), (.tuple #[])] nx0 (KBlk 0 (KS Pg W 43 rs_58 an_58 false (sub (bodyOf Try.f58) [1, 1, 1]) 0 (fin Pg W 43 rv_58 R)))) (known [5, 6, 7] [(.int .i64 n9), (.int .i64 n10), (.int .i64 n11)] (known [1, 2, 4, 43] [(.int .i64 zn0), (.pointer (some za1)), (.int .i64 0), (.tuple #[])] j)) = B_ref13_sum_0 W R zn0 za1 n9 n10 n11 nx0 := by kernel_rfl
def N_ref13_sum_0 (I : Int → Int → Int → Hp → Prop) (μ : Int → Int → Int → Hp → Nat) (n90 : Int) (n100 : Int) (n110 : Int) (s : Hp) (vs : List Value) : Hp → Prop := fun s' => ∃ n9 n10 n11, vs = [(.int .i64 n9), (.int .i64 n10), (.int .i64 n11)] ∧ I n9 n10 n11 s' ∧ μ n9 n10 n11 s' < μ n90 n100 n110 s
theorem L_ref13_sum_0_rule (W : World) (R : Ending → Hp → Prop) (zn0 : Int) (za1 : Addr) (I : Int → Int → Int → Hp → Prop) (μ : Int → Int → Int → Hp → Nat) (n90 : Int) (n100 : Int) (n110 : Int) (s : Hp) (h0 : I n90 n100 n110 s)
    (hr : ∀ (n9 : Int) (n10 : Int) (n11 : Int) (s : Hp), I n9 n10 n11 s → B_ref13_sum_0 W R zn0 za1 n9 n10 n11 (fun vs => N_ref13_sum_0 I μ n9 n10 n11 s vs) s) : L_ref13_sum_0 W R zn0 za1 n90 n100 n110 s := by
  refine ⟨fun vs s => ∃ n9 n10 n11, vs = [(.int .i64 n9), (.int .i64 n10), (.int .i64 n11)] ∧ I n9 n10 n11 s, fun vs s => (match vs with | [.int _ n9, .int _ n10, .int _ n11] => μ n9 n10 n11 s | _ => 0), ⟨⟨⟨_, rfl⟩, ⟨⟨_, rfl⟩, ⟨⟨_, rfl⟩, trivial⟩⟩⟩, ⟨_, _, _, rfl, h0⟩⟩, ?_⟩
  intro n9 n10 n11 s hI j
  obtain ⟨n9', n10', n11', hy, hI⟩ := hI
  have hI' : I n9 n10 n11 s := by cases hy; exact hI
  have hh := hr n9 n10 n11 s hI'
  rw [← B_ref13_sum_0_eq W R zn0 za1 n9 n10 n11 _ j] at hh
  refine vc_mono ?_ _ _ hh
  exact KLoop_mono (fun vs s' h => by obtain ⟨n91, n101, n111, rfl, h1, h2⟩ := h; exact ⟨⟨⟨_, rfl⟩, ⟨⟨_, rfl⟩, ⟨⟨_, rfl⟩, trivial⟩⟩⟩, ⟨_, _, _, rfl, h1⟩, h2⟩)
def T_ref13_sum (W : World) (x1 : Option Addr) (l2 : Nat) (c3 : Nat) (x4 : Option Addr) (l5 : Nat) (c6 : Nat) (n7 : Int) (R : Ending → Hp → Prop) : Hp → Prop :=
  NEW 25 [(.slice x1 l2 c3), (.slice x4 l5 c6)] fun B8 =>
    L_ref13_sum_0 W R n7 ⟨B8, 0, none⟩ 0 0 1
theorem T_ref13_sum_eq (W : World) (x1 : Option Addr) (l2 : Nat) (c3 : Nat) (x4 : Option Addr) (l5 : Nat) (c6 : Nat) (n7 : Int) (R : Ending → Hp → Prop) : vfun Pg W an_58 Try.f58 [(.agg #[(.slice x1 l2 c3), (.slice x4 l5 c6)]), (.int .i64 n7)] R = T_ref13_sum W x1 l2 c3 x4 l5 c6 n7 R := by kernel_rfl
theorem does_ref13_sum (W : World) (x1 : Option Addr) (l2 : Nat) (c3 : Nat) (x4 : Option Addr) (l5 : Nat) (c6 : Nat) (n7 : Int) (R : Ending → Hp → Prop) (s : Hp) (h : T_ref13_sum W x1 l2 c3 x4 l5 c6 n7 R s) : Does Pg W F_ref13_sum #[(.agg #[(.slice x1 l2 c3), (.slice x4 l5 c6)]), (.int .i64 n7)] s R :=
  does_of_vfun Pg W an_58 Try.func58 rfl (by kernel_rfl) (by rw [T_ref13_sum_eq]; exact h)
def an_63 : Nat → Ann := fun b => match b with
  | _ => {}
abbrev rv_63 : List ResultVar := [.tmp 6]
abbrev rs_63 : List Nat := [15, 6]
def T_ref13_in (W : World) (n1 : Int) (n2 : Int) (n3 : Int) (R : Ending → Hp → Prop) : Hp → Prop :=
  BR (decide (n2 ≤ n1))
    (R (.returned (.bool (decide (n1 ≤ n3)))))
    (R (.returned (.bool false)))
theorem T_ref13_in_eq (W : World) (n1 : Int) (n2 : Int) (n3 : Int) (R : Ending → Hp → Prop) : vfun Pg W an_63 Try.f63 [(.int .i64 n1), (.int .i64 n2), (.int .i64 n3)] R = T_ref13_in W n1 n2 n3 R := by kernel_rfl
theorem does_ref13_in (W : World) (n1 : Int) (n2 : Int) (n3 : Int) (R : Ending → Hp → Prop) (s : Hp) (h : T_ref13_in W n1 n2 n3 R s) : Does Pg W F_ref13_in #[(.int .i64 n1), (.int .i64 n2), (.int .i64 n3)] s R :=
  does_of_vfun Pg W an_63 Try.func63 rfl (by kernel_rfl) (by rw [T_ref13_in_eq]; exact h)
def an_76 : Nat → Ann := fun b => match b with
  | 0 => { ms := [4, 5], ks := [.b, .i .i64], us := [0, 1, 18], rt := false, ex := [] }
  | _ => {}
abbrev rv_76 : List ResultVar := [.tmp 4]
abbrev rs_76 : List Nat := [18, 4]
def L_ref13_has_0 (W : World) (R : Ending → Hp → Prop) (zp0 : Option Addr) (zl1 : Nat) (zl2 : Nat) (zn3 : Int) (b5 : Bool) (n6 : Int) : Hp → Prop :=
  LOOPN [.b, .i .i64] (fun ys next s => ∀ j : Tm, vc Pg W 18 rs_76 an_76 false (sub (bodyOf Try.f76) [1, 0, 1, 0, 0]) 0 (KLoop [4, 5] [0, 1, 18] [(.slice zp0 zl1 zl2), (.int .i64 zn3), (.tuple #[])] next (KBlk 0 (KS Pg W 18 rs_76 an_76 false (sub (bodyOf Try.f76) [1, 1]) 0 (fin Pg W 18 rv_76 R)))) (known [4, 5] ys (known [0, 1, 18] [(.slice zp0 zl1 zl2), (.int .i64 zn3), (.tuple #[])] j)) s) [(.bool b5), (.int .i64 n6)]
def B_ref13_has_0 (W : World) (R : Ending → Hp → Prop) (zp0 : Option Addr) (zl1 : Nat) (zl2 : Nat) (zn3 : Int) (b5 : Bool) (n6 : Int) (nx0 : List Value → Hp → Prop) : Hp → Prop :=
  BR (decide (n6 < (↑zl1 : Int)))
    (IXS zp0 zl1 n6 1 fun a7 =>
      RDI .i64 a7 fun n8 =>
        BR (n8 == zn3)
          (R (.returned (.bool true)))
          (NX [(.slice zp0 zl1 zl2), (.int .i64 zn3), (.tuple #[])] [(.slice zp0 zl1 zl2), (.int .i64 zn3), (.tuple #[])] (nx0 [(.bool b5), (.int .i64 (IntKind.wrap .i64 (n6 + 1)))])))
    (R (.returned (.bool false)))
theorem B_ref13_has_0_eq (W : World) (R : Ending → Hp → Prop) (zp0 : Option Addr) (zl1 : Nat) (zl2 : Nat) (zn3 : Int) (b5 : Bool) (n6 : Int) (nx0 : List Value → Hp → Prop) (j : Tm) : vc Pg W 18 rs_76 an_76 false (sub (bodyOf Try.f76) [1, 0, 1, 0, 0]) 0 (KLoop [4, 5] [0, 1, 18] [(.slice zp0 zl1 zl2), (.int .i64 zn3), (.tuple #[])] nx0 (KBlk 0 (KS Pg W 18 rs_76 an_76 false (sub (bodyOf Try.f76) [1, 1]) 0 (fin Pg W 18 rv_76 R)))) (known [4, 5] [(.bool b5), (.int .i64 n6)] (known [0, 1, 18] [(.slice zp0 zl1 zl2), (.int .i64 zn3), (.tuple #[])] j)) = B_ref13_has_0 W R zp0 zl1 zl2 zn3 b5 n6 nx0 := by kernel_rfl
def N_ref13_has_0 (I : Bool → Int → Hp → Prop) (μ : Bool → Int → Hp → Nat) (b50 : Bool) (n60 : Int) (s : Hp) (vs : List Value) : Hp → Prop := fun s' => ∃ b5 n6, vs = [(.bool b5), (.int .i64 n6)] ∧ I b5 n6 s' ∧ μ b5 n6 s' < μ b50 n60 s
theorem L_ref13_has_0_rule (W : World) (R : Ending → Hp → Prop) (zp0 : Option Addr) (zl1 : Nat) (zl2 : Nat) (zn3 : Int) (I : Bool → Int → Hp → Prop) (μ : Bool → Int → Hp → Nat) (b50 : Bool) (n60 : Int) (s : Hp) (h0 : I b50 n60 s)
    (hr : ∀ (b5 : Bool) (n6 : Int) (s : Hp), I b5 n6 s → B_ref13_has_0 W R zp0 zl1 zl2 zn3 b5 n6 (fun vs => N_ref13_has_0 I μ b5 n6 s vs) s) : L_ref13_has_0 W R zp0 zl1 zl2 zn3 b50 n60 s := by
  refine ⟨fun vs s => ∃ b5 n6, vs = [(.bool b5), (.int .i64 n6)] ∧ I b5 n6 s, fun vs s => (match vs with | [.bool b5, .int _ n6] => μ b5 n6 s | _ => 0), ⟨⟨⟨_, rfl⟩, ⟨⟨_, rfl⟩, trivial⟩⟩, ⟨_, _, rfl, h0⟩⟩, ?_⟩
  intro b5 n6 s hI j
  obtain ⟨b5', n6', hy, hI⟩ := hI
  have hI' : I b5 n6 s := by cases hy; exact hI
  have hh := hr b5 n6 s hI'
  rw [← B_ref13_has_0_eq W R zp0 zl1 zl2 zn3 b5 n6 _ j] at hh
  refine vc_mono ?_ _ _ hh
  exact KLoop_mono (fun vs s' h => by obtain ⟨b51, n61, rfl, h1, h2⟩ := h; exact ⟨⟨⟨_, rfl⟩, ⟨⟨_, rfl⟩, trivial⟩⟩, ⟨_, _, rfl, h1⟩, h2⟩)
def T_ref13_has (W : World) (x1 : Option Addr) (l2 : Nat) (c3 : Nat) (n4 : Int) (R : Ending → Hp → Prop) : Hp → Prop :=
  L_ref13_has_0 W R x1 l2 c3 n4 false 0
theorem T_ref13_has_eq (W : World) (x1 : Option Addr) (l2 : Nat) (c3 : Nat) (n4 : Int) (R : Ending → Hp → Prop) : vfun Pg W an_76 Try.f76 [(.slice x1 l2 c3), (.int .i64 n4)] R = T_ref13_has W x1 l2 c3 n4 R := by kernel_rfl
theorem does_ref13_has (W : World) (x1 : Option Addr) (l2 : Nat) (c3 : Nat) (n4 : Int) (R : Ending → Hp → Prop) (s : Hp) (h : T_ref13_has W x1 l2 c3 n4 R s) : Does Pg W F_ref13_has #[(.slice x1 l2 c3), (.int .i64 n4)] s R :=
  does_of_vfun Pg W an_76 Try.func76 rfl (by kernel_rfl) (by rw [T_ref13_has_eq]; exact h)
def an_79 : Nat → Ann := fun b => match b with
  | 0 => { ms := [4, 5], ks := [.i .i64, .i .i64], us := [1, 2, 22], rt := false, ex := [] }
  | _ => {}
abbrev rv_79 : List ResultVar := [.tmp 4]
abbrev rs_79 : List Nat := [22, 4]
def L_ref13_at_0 (W : World) (R : Ending → Hp → Prop) (zn0 : Int) (za1 : Addr) (n9 : Int) (n10 : Int) : Hp → Prop :=
  LOOPN [.i .i64, .i .i64] (fun ys next s => ∀ j : Tm, vc Pg W 22 rs_79 an_79 false (sub (bodyOf Try.f79) [1, 0, 1, 0, 0]) 0 (KLoop [4, 5] [1, 2, 22] [(.int .i64 zn0), (.pointer (some za1)), (.tuple #[])] next (KBlk 0 (KS Pg W 22 rs_79 an_79 false (sub (bodyOf Try.f79) [1, 1]) 0 (fin Pg W 22 rv_79 R)))) (known [4, 5] ys (known [1, 2, 22] [(.int .i64 zn0), (.pointer (some za1)), (.tuple #[])] j)) s) [(.int .i64 n9), (.int .i64 n10)]
def B_ref13_at_0 (W : World) (R : Ending → Hp → Prop) (zn0 : Int) (za1 : Addr) (n9 : Int) (n10 : Int) (nx0 : List Value → Hp → Prop) : Hp → Prop :=
  RDL (Addr.add za1 0) fun x11 l12 c13 =>
    BR (decide (n10 < (↑l12 : Int)))
      (RDL (Addr.add za1 0) fun x14 l15 c16 =>
        IXS x14 l15 n10 4 fun a17 =>
          RDI .i64 (Addr.add a17 0) fun n18 =>
            BR (n18 == zn0)
              (R (.returned (.int .i64 n10)))
              (NX [(.int .i64 zn0), (.pointer (some za1)), (.tuple #[])] [(.int .i64 zn0), (.pointer (some za1)), (.tuple #[])] (nx0 [(.int .i64 n9), (.int .i64 (IntKind.wrap .i64 (n10 + 1)))])))
      (R (.returned (.int .i64 (-1))))
theorem B_ref13_at_0_eq (W : World) (R : Ending → Hp → Prop) (zn0 : Int) (za1 : Addr) (n9 : Int) (n10 : Int) (nx0 : List Value → Hp → Prop) (j : Tm) : vc Pg W 22 rs_79 an_79 false (sub (bodyOf Try.f79) [1, 0, 1, 0, 0]) 0 (KLoop [4, 5] [1, 2, 22] [(.int .i64 zn0), (.pointer (some za1)), (.tuple #[])] nx0 (KBlk 0 (KS Pg W 22 rs_79 an_79 false (sub (bodyOf Try.f79) [1, 1]) 0 (fin Pg W 22 rv_79 R)))) (known [4, 5] [(.int .i64 n9), (.int .i64 n10)] (known [1, 2, 22] [(.int .i64 zn0), (.pointer (some za1)), (.tuple #[])] j)) = B_ref13_at_0 W R zn0 za1 n9 n10 nx0 := by kernel_rfl
def N_ref13_at_0 (I : Int → Int → Hp → Prop) (μ : Int → Int → Hp → Nat) (n90 : Int) (n100 : Int) (s : Hp) (vs : List Value) : Hp → Prop := fun s' => ∃ n9 n10, vs = [(.int .i64 n9), (.int .i64 n10)] ∧ I n9 n10 s' ∧ μ n9 n10 s' < μ n90 n100 s
theorem L_ref13_at_0_rule (W : World) (R : Ending → Hp → Prop) (zn0 : Int) (za1 : Addr) (I : Int → Int → Hp → Prop) (μ : Int → Int → Hp → Nat) (n90 : Int) (n100 : Int) (s : Hp) (h0 : I n90 n100 s)
    (hr : ∀ (n9 : Int) (n10 : Int) (s : Hp), I n9 n10 s → B_ref13_at_0 W R zn0 za1 n9 n10 (fun vs => N_ref13_at_0 I μ n9 n10 s vs) s) : L_ref13_at_0 W R zn0 za1 n90 n100 s := by
  refine ⟨fun vs s => ∃ n9 n10, vs = [(.int .i64 n9), (.int .i64 n10)] ∧ I n9 n10 s, fun vs s => (match vs with | [.int _ n9, .int _ n10] => μ n9 n10 s | _ => 0), ⟨⟨⟨_, rfl⟩, ⟨⟨_, rfl⟩, trivial⟩⟩, ⟨_, _, rfl, h0⟩⟩, ?_⟩
  intro n9 n10 s hI j
  obtain ⟨n9', n10', hy, hI⟩ := hI
  have hI' : I n9 n10 s := by cases hy; exact hI
  have hh := hr n9 n10 s hI'
  rw [← B_ref13_at_0_eq W R zn0 za1 n9 n10 _ j] at hh
  refine vc_mono ?_ _ _ hh
  exact KLoop_mono (fun vs s' h => by obtain ⟨n91, n101, rfl, h1, h2⟩ := h; exact ⟨⟨⟨_, rfl⟩, ⟨⟨_, rfl⟩, trivial⟩⟩, ⟨_, _, rfl, h1⟩, h2⟩)
def T_ref13_at (W : World) (x1 : Option Addr) (l2 : Nat) (c3 : Nat) (x4 : Option Addr) (l5 : Nat) (c6 : Nat) (n7 : Int) (R : Ending → Hp → Prop) : Hp → Prop :=
  NEW 25 [(.slice x1 l2 c3), (.slice x4 l5 c6)] fun B8 =>
    L_ref13_at_0 W R n7 ⟨B8, 0, none⟩ 0 0
theorem T_ref13_at_eq (W : World) (x1 : Option Addr) (l2 : Nat) (c3 : Nat) (x4 : Option Addr) (l5 : Nat) (c6 : Nat) (n7 : Int) (R : Ending → Hp → Prop) : vfun Pg W an_79 Try.f79 [(.agg #[(.slice x1 l2 c3), (.slice x4 l5 c6)]), (.int .i64 n7)] R = T_ref13_at W x1 l2 c3 x4 l5 c6 n7 R := by kernel_rfl
theorem does_ref13_at (W : World) (x1 : Option Addr) (l2 : Nat) (c3 : Nat) (x4 : Option Addr) (l5 : Nat) (c6 : Nat) (n7 : Int) (R : Ending → Hp → Prop) (s : Hp) (h : T_ref13_at W x1 l2 c3 x4 l5 c6 n7 R s) : Does Pg W F_ref13_at #[(.agg #[(.slice x1 l2 c3), (.slice x4 l5 c6)]), (.int .i64 n7)] s R :=
  does_of_vfun Pg W an_79 Try.func79 rfl (by kernel_rfl) (by rw [T_ref13_at_eq]; exact h)
end Go.Proofs.Ytfaeokcbfnlgbaa.G

/- The document's functions of layer 13: are prizes valid; who can have one. -/
set_option linter.unusedSimpArgs false
set_option linter.unusedVariables false
set_option maxRecDepth 20000
namespace Go.Proofs.Ytfaeokcbfnlgbaa.G
open Go.V
/-- Prizes as an argument lie. -/
structure PtA (s : Hp) (za : Addr) (T : PT) : Prop where
  men : ∃ x c, cellAt s (za.add 0) = some (.slice x T.n c) ∧ MnAt s x T.men
  lst : ∃ x c, cellAt s (za.add 1) = some (.slice x T.z c) ∧ PzAt s x T.list
theorem PtA.ext {s s' : Hp} {za : Addr} {T : PT} (e : Ext s s') (h : PtA s za T) : PtA s' za T where
  men := by obtain ⟨x, c, h1, h2⟩ := h.men; exact ⟨x, c, e.cell h1, h2.ext e⟩
  lst := by obtain ⟨x, c, h1, h2⟩ := h.lst; exact ⟨x, c, e.cell h1, h2.ext e⟩
theorem ptA_new {s s1 : Hp} {b : Nat} {T : PT} {x y : Option Addr} {c c' : Nat} (e : Ext s s1) (hx : MnAt s x T.men) (hy : PzAt s y T.list) (o1 : Own s1 ⟨b, 0, none⟩ (.slice x T.n c)) (o2 : Own s1 ⟨b, 1, none⟩ (.slice y T.z c')) : PtA s1 ⟨b, 0, none⟩ T :=
  ⟨⟨x, c, o1.cell, hx.ext e⟩, ⟨y, c', o2.cell, hy.ext e⟩⟩
section
variable {W : World} {K : VK} {E : List PanicEntry → Hp → Prop} {s : Hp} {T : PT}
theorem f_in {a b c : Int} (h : K (.bool (decide (b ≤ a ∧ a ≤ c))) s) : CALL Pg W F_ref13_in [.int .i64 a, .int .i64 b, .int .i64 c] K E s := by
  refine does_ref13_in W a b c _ s ?_
  unfold T_ref13_in
  refine BR_dec (fun h1 => ?_) (fun h1 => ?_)
  · have : decide (b ≤ a ∧ a ≤ c) = decide (a ≤ c) := by simp [h1]
    rw [← this]; exact h
  · have : decide (b ≤ a ∧ a ≤ c) = false := by simp [h1]
    rw [← this]; exact h
theorem f_Prizes {x y : Option Addr} {c c' : Nat} (hx : MnAt s x T.men) (hy : PzAt s y T.list) (h : ∀ s', Ext s s' → K (.bool (okP T)) s') :
    CALL Pg W F_ref13_Prizes [.agg #[.slice x T.n c, .slice y T.z c']] K E s := by
  refine does_ref13_Prizes W x T.n c y T.z c' _ s ?_
  unfold T_ref13_Prizes
  refine ne2 fun s1 e1 z1 o1 o2 => ?_
  have no : okP T = false → ∀ t, Ext s1 t → (endK K E) (.returned (.bool false)) t := fun hf t et => by
    have := h t (e1.trans et)
    rw [hf] at this; exact this
  refine ⟨_, _, _, o1.cell, ?_⟩
  dsimp only
  refine f_in ?_
  try simp only [TUP_mk, AGG_mk, HD_mk, NL_mk, TYI_mk, TYB_mk, TYP_mk, TYL_mk, TYS_mk, TYM_mk, SO_mk, NX_mk, endK_mk, endK_mk', add_0]
  have bad : ¬ ((1 ≤ T.n ∧ T.n ≤ 8) ∧ T.z ≤ 6) → okP T = false := fun hn => by
    cases h : okP T with
    | false => rfl
    | true => exact absurd ⟨(okP_iff.1 h).1, (okP_iff.1 h).2.1⟩ hn
  refine BR_not (fun h1 => ?_) (fun h1 => ?_)
  · unfold J_ref13_Prizes_0
    refine BR_tt rfl (no (bad ?_) _ (Ext.refl _))
    have := of_decide_eq_false h1
    omega
  have hn := of_decide_eq_true h1
  refine ⟨_, _, _, o2.cell, ?_⟩
  dsimp only
  unfold J_ref13_Prizes_0
  refine BR_dec (fun h2 => no (bad (by omega)) _ (Ext.refl _)) (fun h2 => ?_)
  have hz : T.z ≤ 6 := by omega
  have hokP : okP T = (okMs T.n [] T.men && T.list.all okZ) := by
    unfold okP
    rw [decide_eq_true (by omega : 1 ≤ (T.n : Int) ∧ (T.n : Int) ≤ 8), decide_eq_true (show T.list.length ≤ 6 from hz)]
    rfl
  refine L_ref13_Prizes_0_rule W _ ⟨s.size, 0, none⟩ (fun _ n t => Ext s1 t ∧ ∃ k : Nat, k ≤ T.n ∧ n = k ∧ okMs T.n [] T.men = okMs T.n (T.men.take k) (T.men.drop k)) (fun _ n _ => (T.n - n).toNat) false 0 s1 ⟨Ext.refl _, 0, by omega, rfl, rfl⟩ ?_
  rintro b n t ⟨et, k, hk, rfl, hok⟩
  unfold B_ref13_Prizes_0
  have hA : ∀ {t'}, Ext s1 t' → cellAt t' (Addr.add ⟨s.size, 0, none⟩ 0) = some (.slice x T.n c) := fun e => e.cell o1.cell
  have hB : ∀ {t'}, Ext s1 t' → cellAt t' (Addr.add ⟨s.size, 0, none⟩ 1) = some (.slice y T.z c') := fun e => e.cell o2.cell
  refine ⟨_, _, _, hA et, ?_⟩
  refine BR_dec (fun hlt => ?_) (fun hlt => ?_)
  · have hkn : k < T.n := by omega
    obtain ⟨ax, w0, w1, w2, w3, w4⟩ := man_row (hx.ext (e1.trans et)) hkn
    refine ⟨_, _, _, hA et, ?_⟩
    refine IXS_at w0 hkn ?_
    obtain ⟨m, hm'⟩ : ∃ m, T.man k = m := ⟨_, rfl⟩
    rw [hm'] at w1 w2 w3 w4
    have hmk : T.men[k]'hkn = m := by rw [← hm']; unfold PT.man; rw [getD_lt hkn]
    have hstep := okMs_step (n := T.n) (l := T.men) hkn
    rw [hmk] at hstep
    refine ⟨_, w1, _, w2, _, w3, _, w4, ?_⟩
    generalize hnx : (fun vs : List Value => _) = nx
    refine nw4 zc_48 rfl rfl rfl rfl fun t2 e2 z2 q1 q2 q3 q4 => ?_
    have et2 := et.trans e2
    refine ⟨_, q1.cell, _, _, _, hA et2, ?_⟩
    dsimp only
    refine f_in ?_
    try simp only [TUP_mk, AGG_mk, HD_mk, NL_mk, TYI_mk, TYB_mk, TYP_mk, TYL_mk, TYS_mk, TYM_mk, SO_mk, NX_mk, endK_mk, endK_mk', add_0]
    have step : okMn T.n (T.men.take k) m = false → okP T = false := fun hf => by rw [hokP, hok, hstep, hf]; rfl
    refine BR_not (fun h3 => ?_) (fun h3 => ?_)
    · unfold J_ref13_Prizes_1
      refine BR_tt rfl (no (step ?_) _ et2)
      unfold okMn
      rw [h3]; rfl
    · refine ⟨_, q2.cell, ?_⟩
      refine f_in ?_
      try simp only [TUP_mk, AGG_mk, HD_mk, NL_mk, TYI_mk, TYB_mk, TYP_mk, TYL_mk, TYS_mk, TYM_mk, SO_mk, NX_mk, endK_mk, endK_mk', add_0]
      unfold J_ref13_Prizes_1
      refine BR_not (fun h4 => no (step ?_) _ et2) (fun h4 => ?_)
      · unfold okMn
        rw [h3, h4, Bool.and_false]; rfl
      refine L_ref13_Prizes_1_rule W _ nx ⟨s.size, 0, none⟩ k ⟨t.size, 0, none⟩ (fun _ n t' => Ext t2 t' ∧ ∃ j : Nat, j ≤ k ∧ n = j ∧ ∀ i, i < j → (T.man i).place ≠ m.place) (fun _ n _ => (k - n).toNat) _ 0 t2 ⟨Ext.refl _, 0, by omega, rfl, fun i hi => by omega⟩ ?_
      rintro b' n' t3 ⟨e3, j, hj, rfl, hall⟩
      unfold B_ref13_Prizes_1
      have et3 := et2.trans e3
      refine BR_dec (fun h5 => ?_) (fun h5 => ?_)
      · have hjk : j < k := by omega
        obtain ⟨a2, v0, v1, v2, v3, v4⟩ := man_row (hx.ext (e1.trans et3)) (show j < T.n by omega)
        refine ⟨_, _, _, hA et3, ?_⟩
        refine IXS_at v0 (by omega) ?_
        refine ⟨_, v1, _, e3.cell q1.cell, ?_⟩
        refine BR_eq (fun h6 => no (step ?_) _ et3) (fun h6 => ?_)
        · unfold okMn
          have : (T.men.take k).all (fun x => decide (x.place ≠ m.place)) = false := by
            rw [List.all_eq_false]
            refine ⟨T.man j, ?_, by simpa using h6⟩
            unfold PT.man
            rw [getD_lt (show j < T.men.length by have := hkn; unfold PT.n at this; omega)]
            exact List.mem_take_iff_getElem.2 ⟨j, by have : k < T.men.length := hkn
                                                     omega, rfl⟩
          rw [this, Bool.false_and, Bool.and_false]
        · refine ⟨rfl, _, _, rfl, ⟨e3, j + 1, hjk, wrap_succ (by omega), fun i hi => ?_⟩, ms_succ hjk (by omega)⟩
          by_cases e : i = j
          · subst e; exact h6
          · exact hall i (by omega)
      · have hjk : j = k := by omega
        subst hjk
        rw [← hnx]
        refine ⟨rfl, _, _, rfl, ⟨et3, j + 1, hkn, wrap_succ (by omega), ?_⟩, ms_succ hkn (by omega)⟩
        have : okMn T.n (T.men.take j) m = true := by
          unfold okMn
          have hall' : (T.men.take j).all (fun x => decide (x.place ≠ m.place)) = true := by
            rw [List.all_eq_true]
            intro z hz
            obtain ⟨i, hi, rfl⟩ := List.mem_take_iff_getElem.1 hz
            have := hall i (by omega)
            unfold PT.man at this
            rw [getD_lt (by omega)] at this
            simpa using this
          rw [h3, h4, hall']; rfl
        rw [hok, hstep, this, Bool.true_and]
  · have hkn : k = T.n := by omega
    subst hkn
    have hdl : T.men.drop T.n = [] := List.drop_length
    rw [hdl] at hok
    have hokM : okMs T.n [] T.men = true := hok
    refine L_ref13_Prizes_2_rule W _ ⟨s.size, 0, none⟩ (fun _ n t => Ext s1 t ∧ ∃ k : Nat, k ≤ T.z ∧ n = k ∧ ∀ j, j < k → okZ (T.pz j) = true) (fun _ n _ => (T.z - n).toNat) _ 0 t ⟨et, 0, by omega, rfl, fun i hi => by omega⟩ ?_
    rintro b' n' t3 ⟨e3, j, hj, rfl, hall⟩
    unfold B_ref13_Prizes_2
    refine ⟨_, _, _, hB e3, ?_⟩
    refine BR_dec (fun h5 => ?_) (fun h5 => ?_)
    · have hjz : j < T.z := by omega
      obtain ⟨a2, v0, v1, v2⟩ := pz_row (hy.ext (e1.trans e3)) hjz
      have hlist : okZ (T.pz j) = false → okP T = false := fun hf => by
        rw [hokP]
        have : T.list.all okZ = false := by
          rw [List.all_eq_false]
          refine ⟨T.pz j, ?_, by rw [hf]; simp⟩
          unfold PT.pz; rw [getD_lt hjz]; exact List.getElem_mem hjz
        rw [this, Bool.and_false]
      refine ⟨_, _, _, hB e3, ?_⟩
      refine IXS_at v0 hjz ?_
      refine ⟨_, v1, ?_⟩
      refine f_in ?_
      try simp only [TUP_mk, AGG_mk, HD_mk, NL_mk, TYI_mk, TYB_mk, TYP_mk, TYL_mk, TYS_mk, TYM_mk, SO_mk, NX_mk, endK_mk, endK_mk', add_0]
      refine BR_not (fun h6 => no (hlist ?_) _ e3) (fun h6 => ?_)
      · unfold okZ; rw [h6]; rfl
      refine ⟨_, _, _, hB e3, ?_⟩
      refine IXS_at v0 hjz ?_
      refine ⟨_, v2, ?_⟩
      refine f_in ?_
      try simp only [TUP_mk, AGG_mk, HD_mk, NL_mk, TYI_mk, TYB_mk, TYP_mk, TYL_mk, TYS_mk, TYM_mk, SO_mk, NX_mk, endK_mk, endK_mk', add_0]
      refine BR_not (fun h7 => no (hlist ?_) _ e3) (fun h7 => ?_)
      · unfold okZ; rw [h6, h7]; rfl
      refine ⟨_, _, rfl, ⟨e3, j + 1, hjz, wrap_succ (by omega), fun i hi => ?_⟩, ms_succ hjz (by omega)⟩
      by_cases e : i = j
      · subst e; unfold okZ; rw [h6, h7]; rfl
      · exact hall i (by omega)
    · have hjz : j = T.z := by omega
      subst hjz
      have hokl : T.list.all okZ = true := by
        rw [List.all_eq_true]
        intro z hz'
        obtain ⟨i, hi, rfl⟩ := List.mem_iff_getElem.1 hz'
        have := hall i hi
        unfold PT.pz at this
        rwa [getD_lt hi] at this
      have := h t3 (e1.trans e3)
      rw [hokP, hokM, hokl] at this
      exact this
theorem f_check {x y : Option Addr} {c c' : Nat} {v : Bool} (hx : MnAt s x T.men) (hy : PzAt s y T.list) (h : ∀ s', Ext s s' → K (.int .i64 (if okP T then (if v then 0 else 2) else 1)) s') :
    CALL Pg W F_ref13_check [.agg #[.slice x T.n c, .slice y T.z c'], .bool v] K E s := by
  refine does_ref13_check W x T.n c y T.z c' v _ s ?_
  unfold T_ref13_check
  refine ne2 fun s1 e1 z1 o1 o2 => ?_
  refine ⟨_, _, _, o1.cell, _, _, _, o2.cell, ?_⟩
  refine f_Prizes (hx.ext e1) (hy.ext e1) fun s2 e2 => ?_
  try simp only [TUP_mk, AGG_mk, HD_mk, NL_mk, TYI_mk, TYB_mk, TYP_mk, TYL_mk, TYS_mk, TYM_mk, SO_mk, NX_mk, endK_mk, endK_mk', add_0]
  have := h s2 (e1.trans e2)
  refine BR_not (fun h1 => ?_) (fun h1 => ?_)
  · rw [h1] at this; exact this
  · rw [h1] at this
    refine BR_not (fun h2 => ?_) (fun h2 => ?_)
    · rw [h2] at this; exact this
    · rw [h2] at this; exact this
theorem f_Man {x y : Option Addr} {c c' : Nat} {n : Int} (h4 : T.n ≤ 100000) (h : ∀ s', Ext s s' → K (.bool (decide (0 ≤ n ∧ n < T.n))) s') : CALL Pg W F_ref13_Man [.agg #[.slice x T.n c, .slice y T.z c'], .int .i64 n] K E s := by
  refine does_ref13_Man W x T.n c y T.z c' n _ s ?_
  unfold T_ref13_Man
  refine ne2 fun s1 e1 z1 o1 o2 => ?_
  refine ⟨_, _, _, o1.cell, ?_⟩
  dsimp only
  rw [wrap_i64 (by omega) (by omega)]
  refine f_in ?_
  try simp only [TUP_mk, AGG_mk, HD_mk, NL_mk, TYI_mk, TYB_mk, TYP_mk, TYL_mk, TYS_mk, TYM_mk, SO_mk, NX_mk, endK_mk, endK_mk', add_0]
  have e : decide (0 ≤ n ∧ n ≤ (T.n : Int) - 1) = decide (0 ≤ n ∧ n < T.n) := by congr 1; apply propext; omega
  rw [e]; exact h s1 e1
theorem f_Prize {x y : Option Addr} {c c' : Nat} {n : Int} (h4 : T.z ≤ 100000) (h : ∀ s', Ext s s' → K (.bool (decide (0 ≤ n ∧ n < T.z))) s') : CALL Pg W F_ref13_Prize [.agg #[.slice x T.n c, .slice y T.z c'], .int .i64 n] K E s := by
  refine does_ref13_Prize W x T.n c y T.z c' n _ s ?_
  unfold T_ref13_Prize
  refine ne2 fun s1 e1 z1 o1 o2 => ?_
  refine ⟨_, _, _, o2.cell, ?_⟩
  dsimp only
  rw [wrap_i64 (by omega) (by omega)]
  refine f_in ?_
  try simp only [TUP_mk, AGG_mk, HD_mk, NL_mk, TYI_mk, TYB_mk, TYP_mk, TYL_mk, TYS_mk, TYM_mk, SO_mk, NX_mk, endK_mk, endK_mk', add_0]
  have e : decide (0 ≤ n ∧ n ≤ (T.z : Int) - 1) = decide (0 ≤ n ∧ n < T.z) := by congr 1; apply propext; omega
  rw [e]; exact h s1 e1
theorem f_can {x y : Option Addr} {c c' m z : Nat} (hx : MnAt s x T.men) (hy : PzAt s y T.list) (hm : m < T.n) (hz : z < T.z) (h : ∀ s', Ext s s' → K (.bool (canP T m z)) s') :
    CALL Pg W F_ref13_can [.agg #[.slice x T.n c, .slice y T.z c'], .int .i64 (m : Nat), .int .i64 (z : Nat)] K E s := by
  refine does_ref13_can W x T.n c y T.z c' m z _ s ?_
  unfold T_ref13_can
  refine ne2 fun s1 e1 z1 o1 o2 => ?_
  obtain ⟨ax, w0, w1, w2, w3, w4⟩ := man_row (hx.ext e1) hm
  obtain ⟨ay, v0, v1, v2⟩ := pz_row (hy.ext e1) hz
  refine ⟨_, _, _, o1.cell, ?_⟩
  refine IXS_at w0 hm ?_
  refine ⟨_, w1, _, w2, _, w3, _, w4, ?_⟩
  refine nw4 zc_48 rfl rfl rfl rfl fun t e z2 q1 q2 q3 q4 => ?_
  refine ⟨_, _, _, e.cell o2.cell, ?_⟩
  refine IXS_at v0 hz ?_
  refine ⟨_, e.cell v1, ?_⟩
  have hh := h t (e1.trans e)
  unfold canP canK at hh
  refine BR_eq (fun h1 => ⟨_, q3.cell, ?_⟩) (fun h1 => ?_)
  · rw [if_pos h1] at hh; exact hh
  rw [if_neg h1] at hh
  refine BR_eq (fun h2 => ⟨_, q4.cell, ?_⟩) (fun h2 => ?_)
  · rw [if_pos h2] at hh; exact hh
  rw [if_neg h2] at hh
  refine BR_eq (fun h3 => ⟨_, q3.cell, ?_⟩) (fun h3 => ?_)
  · rw [if_pos h3] at hh
    refine BR_bool (fun h5 => ⟨_, q4.cell, ?_⟩) (fun h5 => ?_)
    · rw [h5, Bool.true_and] at hh; exact hh
    · rw [h5, Bool.false_and] at hh; exact hh
  rw [if_neg h3] at hh
  refine BR_eq (fun h4 => ⟨_, q2.cell, ?_⟩) (fun h4 => ?_)
  · rw [if_pos h4] at hh
    have e : ((T.man m).club != 0) = decide ((T.man m).club ≠ 0) := by by_cases hc : (T.man m).club = 0 <;> simp [hc]
    rw [← e] at hh; exact hh
  · rw [if_neg h4] at hh; exact hh
end
end Go.Proofs.Ytfaeokcbfnlgbaa.G

/- The document's functions of layer 13: who is at a place; sums of clubs, the best one. -/
set_option linter.unusedSimpArgs false
set_option linter.unusedVariables false
set_option maxRecDepth 20000
namespace Go.Proofs.Ytfaeokcbfnlgbaa.G
open Go.V
def plT (T : PT) (c : Int) (k : Nat) : List Int := (((ordP T).take k).filter fun m => (T.man m).club == c).map fun m => (T.man m).place
theorem plT_full (T : PT) (c : Int) : plT T c T.n = places T c := by
  unfold plT places ordF
  rw [← ord_len T, List.take_length]
theorem plT_succ {T : PT} (hv : VdP T) {c : Int} {k : Nat} (hk : k < T.n) : plT T c (k + 1) = plT T c k ++ (if (T.man (idx T ((k + 1 : Nat) : Int))).club = c then [((k + 1 : Nat) : Int)] else []) := by
  have hs := (hv.sur ((k + 1 : Nat) : Int) (by omega) (by omega)).2
  unfold plT
  rw [List.take_add_one, ord_get hk, List.filter_append, List.map_append]
  congr 1
  show List.map _ (List.filter _ [idx T ((k + 1 : Nat) : Int)]) = _
  generalize idx T ((k + 1 : Nat) : Int) = i at *
  by_cases h : (T.man i).club = c
  · rw [if_pos h]; simp [h, hs]
  · rw [if_neg h]; simp [h]
theorem plT_len {T : PT} {c : Int} {k : Nat} : (plT T c k).length ≤ k := by
  unfold plT
  rw [List.length_map]
  exact Nat.le_trans (List.length_filter_le _ _) (by rw [List.length_take]; omega)
theorem plT_mem {T : PT} (hv : VdP T) {c : Int} {k : Nat} {x : Int} (h : x ∈ plT T c k) : 1 ≤ x ∧ x ≤ T.n := by
  unfold plT at h
  obtain ⟨m, hm, rfl⟩ := List.mem_map.1 h
  exact hv.pl m ((ord_mem hv).1 (List.mem_of_mem_take (List.mem_filter.1 hm).1))
theorem sumC_pos {T : PT} (hv : VdP T) {c r : Int} (h : sumC T.n (places T c) = some r) : 0 < r ∧ r ≤ 20 := by
  have hm : ∀ x ∈ places T c, 1 ≤ x ∧ x ≤ T.n := fun x hx => places_mem hv hx
  have h8 := hv.n8
  unfold sumC at h
  split at h
  · cases h
  · rename_i a e
    have := hm a (by rw [e]; simp)
    cases h; omega
  · rename_i a b r' e
    have := hm a (by rw [e]; simp)
    have := hm b (by rw [e]; simp)
    cases h; omega
theorem clubs_mem {T : PT} {k : Nat} {x : Int × Int} (h : x ∈ clubsL T k) : (1 ≤ x.1 ∧ x.1 ≤ k) ∧ sumC T.n (places T x.1) = some x.2 := by
  unfold clubsL at h
  obtain ⟨i, hi, e⟩ := List.mem_filterMap.1 h
  have := List.mem_range.1 hi
  cases hs : sumC T.n (places T ((i + 1 : Nat) : Int)) with
  | none => rw [hs] at e; cases e
  | some r =>
    rw [hs] at e
    cases e
    exact ⟨⟨by show (1 : Int) ≤ ((i + 1 : Nat) : Int); omega, by show ((i + 1 : Nat) : Int) ≤ k; omega⟩, hs⟩
theorem firstL_mem : ∀ (l : List (Int × Int)), l ≠ [] → firstL l ∈ l
  | [], h => absurd rfl h
  | x :: r, _ => by
    have key : ∀ (r : List (Int × Int)) (b : Int × Int), r.foldl minC b = b ∨ r.foldl minC b ∈ r := by
      intro r
      induction r with
      | nil => exact fun b => .inl rfl
      | cons y r ih =>
        intro b
        rw [List.foldl_cons]
        rcases ih (minC b y) with h | h
        · unfold minC at h ⊢
          split at h
          · rw [if_pos (by assumption)]; rw [h]; exact .inr (by simp)
          · rw [if_neg (by assumption)]; exact .inl h
        · exact .inr (by simp [h])
    rcases key r x with h | h
    · show r.foldl minC x ∈ _; rw [h]; simp
    · exact List.mem_cons_of_mem _ h
section
variable {W : World} {K : VK} {E : List PanicEntry → Hp → Prop} {s : Hp} {T : PT}
theorem f_has {x : Option Addr} {c l : Nat} {ds : List Int} {n : Int} (hx : RowAt s x (ints ds)) (hl : l = ds.length) (h8 : ds.length ≤ 100000) (h : K (.bool (decide (n ∈ ds))) s) : CALL Pg W F_ref13_has [.slice x l c, .int .i64 n] K E s := by
  subst hl
  refine does_ref13_has W x _ c n _ s ?_
  unfold T_ref13_has
  refine L_ref13_has_0_rule W _ x ds.length c n (fun _ i t => t = s ∧ ∃ k : Nat, k ≤ ds.length ∧ i = k ∧ ∀ j, j < k → ds.getD j 0 ≠ n) (fun _ i _ => (ds.length - i).toNat) false 0 s ⟨rfl, 0, by omega, rfl, fun j hj => by omega⟩ ?_
  rintro b i t ⟨rfl, k, hk, rfl, hno⟩
  unfold B_ref13_has_0
  refine BR_dec (fun h1 => ?_) (fun h1 => ?_)
  · have hkl : k < ds.length := by omega
    obtain ⟨a, ha, g⟩ := row_int hx hkl
    refine IXS_at ha hkl ?_
    refine ⟨_, g, ?_⟩
    refine BR_eq (fun h2 => ?_) (fun h2 => ?_)
    · have : n ∈ ds := by rw [← h2, getD_lt hkl]; exact List.getElem_mem hkl
      rw [decide_eq_true this] at h
      exact h
    · refine ⟨rfl, _, _, rfl, ⟨rfl, k + 1, hkl, wrap_succ (by omega), fun j hj => ?_⟩, ms_succ hkl (by omega)⟩
      by_cases e : j = k
      · subst e; exact h2
      · exact hno j (by omega)
  · have : ¬ n ∈ ds := fun hm => by
      obtain ⟨j, hj, e⟩ := List.mem_iff_getElem.1 hm
      exact hno j (by omega) (by rw [getD_lt hj]; exact e)
    rw [decide_eq_false this] at h
    exact h
theorem f_at {x y : Option Addr} {c c' : Nat} {n : Int} (hx : MnAt s x T.men) (hy : PzAt s y T.list) (h4 : T.n ≤ 100000) (h : ∀ s', Ext s s' → K (.int .i64 (atL T.men n)) s') : CALL Pg W F_ref13_at [.agg #[.slice x T.n c, .slice y T.z c'], .int .i64 n] K E s := by
  refine does_ref13_at W x T.n c y T.z c' n _ s ?_
  unfold T_ref13_at
  refine ne2 fun s1 e1 z1 o1 o2 => ?_
  refine L_ref13_at_0_rule W _ n ⟨s.size, 0, none⟩ (fun _ i t => t = s1 ∧ ∃ k : Nat, k ≤ T.n ∧ i = k ∧ ∀ j, j < k → (T.man j).place ≠ n) (fun _ i _ => (T.n - i).toNat) 0 0 s1 ⟨rfl, 0, by omega, rfl, fun j hj => by omega⟩ ?_
  rintro b i t ⟨rfl, k, hk, rfl, hno⟩
  unfold B_ref13_at_0
  refine ⟨_, _, _, o1.cell, ?_⟩
  have hh := h t e1
  refine BR_dec (fun h1 => ?_) (fun h1 => ?_)
  · have hkn : k < T.n := by omega
    obtain ⟨ax, w0, w1, w2, w3, w4⟩ := man_row (hx.ext e1) hkn
    refine ⟨_, _, _, o1.cell, ?_⟩
    refine IXS_at w0 hkn ?_
    refine ⟨_, w1, ?_⟩
    refine BR_eq (fun h2 => ?_) (fun h2 => ?_)
    · have hf : T.men.findIdx? (fun m => decide (m.place = n)) = some k := by
        rw [List.findIdx?_eq_some_iff_getElem]
        refine ⟨hkn, ?_, fun j hj => ?_⟩
        · unfold PT.man at h2; rw [getD_lt hkn] at h2; simpa using h2
        · have := hno j hj
          have hjn : j < T.men.length := by have : k < T.men.length := hkn
                                            omega
          unfold PT.man at this; rw [getD_lt hjn] at this; simpa using this
      unfold atL at hh
      rw [hf] at hh
      exact hh
    · refine ⟨rfl, _, _, rfl, ⟨rfl, k + 1, hkn, wrap_succ (by omega), fun j hj => ?_⟩, ms_succ hkn (by omega)⟩
      by_cases e : j = k
      · subst e; exact h2
      · exact hno j (by omega)
  · have hf : T.men.findIdx? (fun m => decide (m.place = n)) = none := by
      rw [List.findIdx?_eq_none_iff]
      intro m hm
      obtain ⟨j, hj, rfl⟩ := List.mem_iff_getElem.1 hm
      have hjn : j < T.n := hj
      have := hno j (by omega)
      unfold PT.man at this; rw [getD_lt hj] at this
      simpa using this
    unfold atL at hh
    rw [hf] at hh
    exact hh
theorem take2_sum {l : List Int} {x : Int} : (l ++ [x]).length ≤ 100 → ((l ++ [x]).take 2).sum = (l.take 2).sum + (if l.length < 2 then x else 0) := by
  intro _
  match l with
  | [] => simp
  | [a] => simp
  | a :: b :: r => rw [if_neg (by simp)]; simp
theorem f_sum {x y : Option Addr} {c c' : Nat} {n : Int} (hok : okP T = true) (hx : MnAt s x T.men) (hy : PzAt s y T.list) (h : ∀ s', Ext s s' → K (.int .i64 ((sumC T.n (places T n)).getD 0)) s') : CALL Pg W F_ref13_sum [.agg #[.slice x T.n c, .slice y T.z c'], .int .i64 n] K E s := by
  have hv := okP_vd hok
  have h8 := hv.n8
  refine does_ref13_sum W x T.n c y T.z c' n _ s ?_
  unfold T_ref13_sum
  refine ne2 fun s1 e1 z1 o1 o2 => ?_
  have bd : ∀ k, k ≤ T.n → 0 ≤ ((plT T n k).take 2).sum ∧ ((plT T n k).take 2).sum ≤ 16 := by
    intro k hk
    have hm : ∀ x ∈ plT T n k, 1 ≤ x ∧ x ≤ T.n := fun x hx => plT_mem hv hx
    match plT T n k, hm with
    | [], _ => simp
    | [a], hm => have := hm a (by simp); simp; omega
    | a :: b :: r, hm => have := hm a (by simp); have := hm b (by simp); simp; omega
  refine L_ref13_sum_0_rule W _ n ⟨s.size, 0, none⟩ (fun a b i t => Ext s1 t ∧ ∃ k : Nat, k ≤ T.n ∧ i = ((k + 1 : Nat) : Int) ∧ a = ((min 2 (plT T n k).length : Nat) : Int) ∧ b = ((plT T n k).take 2).sum) (fun _ _ i _ => (T.n + 1 - i).toNat) 0 0 1 s1 ⟨Ext.refl _, 0, by omega, rfl, by simp [plT], by simp [plT]⟩ ?_
  rintro a b i t ⟨et, k, hk, rfl, rfl, rfl⟩
  unfold B_ref13_sum_0
  have hA := et.cell o1.cell
  have hB := et.cell o2.cell
  refine ⟨_, _, _, hA, ?_⟩
  refine BR_dec (fun h1 => ?_) (fun h1 => ?_)
  · have hkn : k < T.n := by omega
    refine ⟨_, _, _, hA, _, _, _, hA, _, _, _, hB, ?_⟩
    refine f_at (hx.ext (e1.trans et)) (hy.ext (e1.trans et)) (by omega) fun t2 e2 => ?_
    try simp only [TUP_mk, AGG_mk, HD_mk, NL_mk, TYI_mk, TYB_mk, TYP_mk, TYL_mk, TYS_mk, TYM_mk, SO_mk, NX_mk, endK_mk, endK_mk', add_0]
    have et2 := et.trans e2
    have hs := hv.sur ((k + 1 : Nat) : Int) (by omega) (by omega)
    refine ANDS_i ⟨_, _, _, e2.cell hA, rfl⟩ ?_
    rw [atL_idx hs.1]
    have hsucc := plT_succ hv (c := n) hkn
    have hbd := bd (k + 1) hkn
    have hlen := plT_len (T := T) (c := n) (k := k)
    generalize hi : idx T ((k + 1 : Nat) : Int) = m at *
    obtain ⟨ax, w0, w1, w2, w3, w4⟩ := man_row (hx.ext (e1.trans et2)) hs.1
    refine IXS_at w0 hs.1 ?_
    refine ⟨_, w2, ?_⟩
    have hms : (T.n + 1 - (IntKind.i64.wrap (((k + 1 : Nat) : Int) + 1))).toNat < ((T.n : Int) + 1 - ((k + 1 : Nat) : Int)).toNat := by rw [wrap_succ (by omega)]; omega
    refine BR_eq (fun h2 => ?_) (fun h2 => ?_)
    · rw [if_pos h2] at hsucc
      have hts := take2_sum (l := plT T n k) (x := ((k + 1 : Nat) : Int)) (by simp; omega)
      rw [← hsucc] at hts
      unfold J_ref13_sum_0
      refine BR_dec (fun h3 => ?_) (fun h3 => ?_)
      · have hl2 : (plT T n k).length < 2 := by omega
        rw [if_pos hl2] at hts
        refine ⟨rfl, _, _, _, rfl, ⟨et2, k + 1, hkn, ?_, ?_, ?_⟩, ?_⟩
        · exact wrap_succ (by omega)
        · rw [wrap_succ (by omega), hsucc, List.length_append]
          have : (min 2 (plT T n k).length + 1) = min 2 ((plT T n k).length + [((k + 1 : Nat) : Int)].length) := by simp; omega
          rw [this]
        · rw [hts, wrap_i64 (by omega) (by omega)]
        · exact hms
      · have hl2 : ¬ (plT T n k).length < 2 := by omega
        rw [if_neg hl2] at hts
        refine ⟨rfl, _, _, _, rfl, ⟨et2, k + 1, hkn, ?_, ?_, ?_⟩, ?_⟩
        · exact wrap_succ (by omega)
        · rw [hsucc, List.length_append]
          have : min 2 (plT T n k).length = min 2 ((plT T n k).length + [((k + 1 : Nat) : Int)].length) := by simp; omega
          rw [this]
        · rw [hts]; omega
        · exact hms
    · rw [if_neg h2, List.append_nil] at hsucc
      unfold J_ref13_sum_0
      refine BR_ff rfl ?_
      refine ⟨rfl, _, _, _, rfl, ⟨et2, k + 1, hkn, ?_, ?_, ?_⟩, ?_⟩
      · exact wrap_succ (by omega)
      · rw [hsucc]
      · rw [hsucc]
      · exact hms
  · have hkn : k = T.n := by omega
    subst hkn
    have hh := h t (e1.trans et)
    have hbd := bd T.n (Nat.le_refl _)
    rw [plT_full] at hbd ⊢
    unfold sumC at hh
    refine BR_eq (fun h2 => ?_) (fun h2 => ?_)
    · refine ⟨_, _, _, hA, ?_⟩
      have hl1 : (places T n).length = 1 := by omega
      obtain ⟨a, ha⟩ := List.length_eq_one_iff.1 hl1
      rw [ha] at hh hbd ⊢
      have e1' : ((([a] : List Int).take 2).sum) = a := by simp
      rw [e1'] at hbd ⊢
      dsimp only
      rw [wrap_i64 (n := a + T.n) (by omega) (by omega), wrap_i64 (by omega) (by omega)]
      exact hh
    · match hq : places T n with
      | [] => rw [hq] at hh; exact hh
      | [a] => rw [hq] at h2; exact absurd rfl h2
      | a :: b :: r =>
        rw [hq] at hh
        have e1' : (((a :: b :: r).take 2).sum) = a + b := by simp
        rw [e1']; exact hh
theorem f_best {x y : Option Addr} {c c' : Nat} (hok : okP T = true) (hx : MnAt s x T.men) (hy : PzAt s y T.list) (h : ∀ s', Ext s s' → K (.int .i64 (bestP T).1) s') : CALL Pg W F_ref13_best [.agg #[.slice x T.n c, .slice y T.z c']] K E s := by
  have hv := okP_vd hok
  refine does_ref13_best W x T.n c y T.z c' _ s ?_
  unfold T_ref13_best
  refine ne2 fun s1 e1 z1 o1 o2 => ?_
  refine L_ref13_best_0_rule W _ ⟨s.size, 0, none⟩ (fun a i t => Ext s1 t ∧ ∃ k : Nat, k ≤ 5 ∧ i = ((k + 1 : Nat) : Int) ∧ a = (firstL (clubsL T k)).1) (fun _ i _ => (6 - i).toNat) 0 1 s1 ⟨Ext.refl _, 0, by omega, rfl, rfl⟩ ?_
  rintro a i t ⟨et, k, hk, rfl, rfl⟩
  unfold B_ref13_best_0
  refine BR_dec (fun h1 => ?_) (fun h1 => ?_)
  · have hk5 : k < 5 := by omega
    have hA : ∀ {t'}, Ext t t' → cellAt t' (Addr.add ⟨s.size, 0, none⟩ 0) = some (.slice x T.n c) := fun e => (et.trans e).cell o1.cell
    have hB : ∀ {t'}, Ext t t' → cellAt t' (Addr.add ⟨s.size, 0, none⟩ 1) = some (.slice y T.z c') := fun e => (et.trans e).cell o2.cell
    have ex := e1.trans et
    generalize hnx : (fun vs : List Value => _) = nx
    have hms : (6 - (IntKind.i64.wrap (((k + 1 : Nat) : Int) + 1))).toNat < (6 - ((k + 1 : Nat) : Int)).toNat := by rw [wrap_succ (by omega)]; omega
    have hcl := clubsL_succ T k
    have fin : ∀ t' b, Ext t t' → (b = true → (firstL (clubsL T (k + 1))).1 = ((k + 1 : Nat) : Int)) → (b = false → (firstL (clubsL T (k + 1))).1 = (firstL (clubsL T k)).1) → J_ref13_best_0 W (endK K E) b ⟨s.size, 0, none⟩ nx ((k + 1 : Nat) : Int) (firstL (clubsL T k)).1 t' := by
      intro t' b e' hb1 hb2
      unfold J_ref13_best_0
      rw [← hnx]
      refine BR_bool (fun hb => ?_) (fun hb => ?_)
      · refine ⟨rfl, _, _, rfl, ⟨et.trans e', k + 1, hk5, wrap_succ (by omega), (hb1 hb).symm⟩, hms⟩
      · refine ⟨rfl, _, _, rfl, ⟨et.trans e', k + 1, hk5, wrap_succ (by omega), (hb2 hb).symm⟩, hms⟩
    refine ⟨_, _, _, hA (Ext.refl _), _, _, _, hB (Ext.refl _), ?_⟩
    refine f_sum hok (hx.ext ex) (hy.ext ex) fun t2 e2 => ?_
    try simp only [TUP_mk, AGG_mk, HD_mk, NL_mk, TYI_mk, TYB_mk, TYP_mk, TYL_mk, TYS_mk, TYM_mk, SO_mk, NX_mk, endK_mk, endK_mk', add_0]
    cases hsc : sumC T.n (places T ((k + 1 : Nat) : Int)) with
    | none =>
      rw [hsc] at hcl
      have hcl' : clubsL T (k + 1) = clubsL T k := by rw [hcl]; exact List.append_nil _
      refine BR_dec (fun h2 => ?_) (fun h2 => ?_)
      · exact absurd h2 (by show ¬ (0 : Int) > 0; omega)
      · refine fin t2 _ e2 (fun h3 => by cases h3) (fun _ => by rw [hcl'])
    | some r =>
      rw [hsc] at hcl
      have hr := sumC_pos hv hsc
      refine BR_dec (fun h2 => ?_) (fun h2 => absurd hr.1 h2)
      have hmemk : ∀ hne : clubsL T k ≠ [], (1 ≤ (firstL (clubsL T k)).1) ∧ sumC T.n (places T (firstL (clubsL T k)).1) = some (firstL (clubsL T k)).2 := fun hne => by
        have := clubs_mem (firstL_mem _ hne)
        exact ⟨this.1.1, this.2⟩
      refine BR_eq (fun h3 => ?_) (fun h3 => ?_)
      · have hnil : clubsL T k = [] := Classical.byContradiction fun hne => by have := (hmemk hne).1; omega
        refine fin t2 _ e2 (fun _ => ?_) (fun h4 => by cases h4)
        rw [hcl, hnil]; rfl
      · have hne : clubsL T k ≠ [] := fun hnil => h3 (by rw [hnil]; rfl)
        have hb := (hmemk hne).2
        have hs := firstL_snoc (clubsL T k) (((k + 1 : Nat) : Int), r) hne
        refine ⟨_, _, _, hA e2, _, _, _, hB e2, _, _, _, hA e2, _, _, _, hB e2, ?_⟩
        refine f_sum hok (hx.ext (ex.trans e2)) (hy.ext (ex.trans e2)) fun t3 e3 => ?_
        try simp only [TUP_mk, AGG_mk, HD_mk, NL_mk, TYI_mk, TYB_mk, TYP_mk, TYL_mk, TYS_mk, TYM_mk, SO_mk, NX_mk, endK_mk, endK_mk', add_0]
        have e23 := e2.trans e3
        refine ANDS_i ⟨_, _, _, hA e23, _, _, _, hB e23, rfl⟩ ?_
        refine f_sum hok (hx.ext (ex.trans e23)) (hy.ext (ex.trans e23)) fun t4 e4 => ?_
        try simp only [TUP_mk, AGG_mk, HD_mk, NL_mk, TYI_mk, TYB_mk, TYP_mk, TYL_mk, TYS_mk, TYM_mk, SO_mk, NX_mk, endK_mk, endK_mk', add_0]
        rw [hsc, hb]
        refine fin t4 _ (e23.trans e4) (fun h4 => ?_) (fun h4 => ?_)
        · have : r < (firstL (clubsL T k)).2 := of_decide_eq_true h4
          rw [hcl, hs]; unfold minC; rw [if_pos this]
        · have : ¬ r < (firstL (clubsL T k)).2 := of_decide_eq_false h4
          rw [hcl, hs]; unfold minC; rw [if_neg this]
  · have hk5 : k = 5 := by omega
    subst hk5
    exact h t (e1.trans et)
end
end Go.Proofs.Ytfaeokcbfnlgbaa.G

/- The document's functions of layer 13: who is due which prize. -/
set_option linter.unusedSimpArgs false
set_option linter.unusedVariables false
set_option maxRecDepth 20000
namespace Go.Proofs.Ytfaeokcbfnlgbaa.G
open Go.V
def qP (T : PT) (k m : Nat) : Bool := canP T m k && ((decide ((T.pz k).kind ≠ 4) || ((T.man m).club == (bestP T).1)) && !tkF (dueL T k) m)
theorem giv_find (T : PT) (k : Nat) : givB T (bestP T) (fun m => !tkF (dueL T k) m) k = (ordP T).find? (qP T k) := by
  unfold givB
  by_cases h4 : (T.pz k).kind = 4
  · rw [if_pos h4]
    by_cases hb : bestP T = (0, 0)
    · rw [if_pos hb]
      symm
      rw [List.find?_eq_none]
      intro m hm
      have hz : (bestP T).1 = 0 := by rw [hb]
      unfold qP canP canK
      rw [h4, hz]
      by_cases hc : (T.man m).club = 0 <;> simp [hc]
    · rw [if_neg hb]
      unfold givF ordF
      rw [List.find?_filter]
      congr 1
      funext m
      unfold qP
      rw [h4]
      have key : ∀ a b c : Bool, decide ((!a && b) = true ∧ c = true) = (c && ((decide ((4 : Int) ≠ 4) || b) && !a)) := by
        intro a b c; cases a <;> cases b <;> cases c <;> rfl
      exact key _ _ _
  · rw [if_neg h4]
    unfold givF ordF
    rw [List.find?_filter]
    congr 1
    funext m
    unfold qP
    rw [decide_eq_true h4]
    have key : ∀ a b c : Bool, decide ((!a) = true ∧ c = true) = (c && ((true || b) && !a)) := by
      intro a b c; cases a <;> cases b <;> cases c <;> rfl
    exact key _ _ _
theorem mem_manL {l : List (Option Nat)} {m : Nat} : decide (((m : Nat) : Int) ∈ manL l) = tkF l m := by
  unfold tkF manL
  congr 1
  apply propext
  constructor
  · intro h
    obtain ⟨o, ho, e⟩ := List.mem_map.1 h
    cases o with
    | none => have : (-1 : Int) = (m : Nat) := e; omega
    | some i => have : ((i : Nat) : Int) = (m : Nat) := e
                have : i = m := by omega
                subst this; exact ho
  · exact fun h => List.mem_map.2 ⟨_, h, rfl⟩
section
variable {W : World} {K : VK} {E : List PanicEntry → Hp → Prop} {s : Hp} {T : PT}
theorem f_due {x y : Option Addr} {c c' : Nat} (hok : okP T = true) (hx : MnAt s x T.men) (hy : PzAt s y T.list) (h : ∀ s' q cq, Ext s s' → Fr s.size s' q T.z cq 1 (ints (manL (dueP T))) → K (.slice q T.z cq) s') : CALL Pg W F_ref13_due [.agg #[.slice x T.n c, .slice y T.z c']] K E s := by
  have hv := okP_vd hok
  have h8 := hv.n8
  have h6 := hv.z6
  refine does_ref13_due W x T.n c y T.z c' _ s ?_
  unfold T_ref13_due
  refine ne2 fun s1 e1 z1 o1 o2 => ?_
  have hA : ∀ {t'}, Ext s1 t' → cellAt t' (Addr.add ⟨s.size, 0, none⟩ 0) = some (.slice x T.n c) := fun e => e.cell o1.cell
  have hB : ∀ {t'}, Ext s1 t' → cellAt t' (Addr.add ⟨s.size, 0, none⟩ 1) = some (.slice y T.z c') := fun e => e.cell o2.cell
  refine L_ref13_due_0_rule W _ ⟨s.size, 0, none⟩ (fun x l c n t => Ext s1 t ∧ ∃ k : Nat, k ≤ T.z ∧ n = k ∧ Fr s1.size t x l c 1 (ints (manL (dueL T k)))) (fun _ _ _ n _ => (T.z - n).toNat) none 0 0 0 s1 ⟨Ext.refl _, 0, by omega, rfl, Fr.nil _ _ _⟩ ?_
  rintro qx ql qc n t ⟨et, k, hk, rfl, hfr⟩
  have hlen : ql = k := by have := hfr.len; rw [ints_len] at this; unfold manL at this; rw [List.length_map, dueL_len] at this; omega
  unfold B_ref13_due_0
  refine ⟨_, _, _, hB et, ?_⟩
  generalize hnx : (fun vs : List Value => _) = nx
  refine BR_dec (fun h1 => ?_) (fun h1 => ?_)
  · have hkz : k < T.z := by omega
    have hfull : ∀ w t', Ext t t' → (w = manI ((ordP T).find? (qP T k))) → (NEW 3 [(.int .i64 w)] fun B73 => APP Pg 3 1 qx ql qc (some ⟨B73, 0, none⟩) 1 fun x74 l75 c76 => NX [(.pointer (some ⟨s.size, 0, none⟩)), (.slice none 0 0), (.tuple #[])] [(.pointer (some ⟨s.size, 0, none⟩)), (.slice none 0 0), (.tuple #[])] (nx [(.slice x74 l75 c76), (.int .i64 (IntKind.wrap .i64 ((k : Int) + 1)))])) t' := by
      intro w t' e' hw
      refine ne1 fun t3 e3' z3' q3 => ?_
      have et3 := et.trans (e'.trans e3')
      refine APP_fr (lo := s1.size) (hfr.ext (e'.trans e3')) et3.1 (ws := [.int .i64 w]) (fun i hi => ⟨⟨t'.size, 0, none⟩, rfl, ?_⟩) rfl zc_3 rfl (by omega) (by simp [oneCell]) (by omega) fun t4 x4 c4 k4 hx4 g4 => ?_
      · have hi0 : i = 0 := by simp at hi; omega
        subst hi0; exact q3.cell
      have e4 : Ext s1 t4 := kp_nil et3 (fun b hb => by obtain ⟨y, hy, rfl⟩ := hb; exact hfr.fr y hy) k4
      rw [← hnx]
      refine ⟨rfl, _, _, _, _, rfl, ⟨e4, k + 1, hkz, wrap_succ (by omega), ?_⟩, ms_succ hkz (by omega)⟩
      have hd : dueL T (k + 1) = dueL T k ++ [(ordP T).find? (qP T k)] := by rw [← giv_find]; rfl
      rw [hd, manL_app, ints_app]
      have : manL [(ordP T).find? (qP T k)] = [w] := by rw [hw]; rfl
      rw [this]; exact g4
    have exh : ∀ t', Ext t t' → (∀ i, i < T.n → qP T k (idx T ((i + 1 : Nat) : Int)) = false) → (ordP T).find? (qP T k) = none := fun t' e' hno => by
      refine find_no fun j m hj hm => ?_
      rw [ord_len] at hj
      rw [ord_get hj] at hm
      cases hm
      exact hno j hj
    refine L_ref13_due_1_rule W _ nx ⟨s.size, 0, none⟩ qx ql qc k (fun w i t' => Ext t t' ∧ ∃ j : Nat, j ≤ T.n ∧ i = ((j + 1 : Nat) : Int) ∧ ((w = -1 ∧ ∀ i, i < j → qP T k (idx T ((i + 1 : Nat) : Int)) = false) ∨ ∃ m : Nat, w = (m : Nat) ∧ (ordP T).find? (qP T k) = some m)) (fun _ i _ => (T.n + 1 - i).toNat) (-1) 1 t ⟨Ext.refl _, 0, by omega, rfl, .inl ⟨rfl, fun i hi => by omega⟩⟩ ?_
    rintro w i t' ⟨e', j, hj, rfl, hw⟩
    unfold B_ref13_due_1
    have et' := et.trans e'
    refine ⟨_, _, _, hA et', ?_⟩
    -- it is over
    have over : (w < 0 → j = T.n) → J_ref13_due_4 W (endK K E) false ⟨s.size, 0, none⟩ ((j + 1 : Nat) : Int) k qx ql qc (fun vs => N_ref13_due_1 (fun w i t' => Ext t t' ∧ ∃ j : Nat, j ≤ T.n ∧ i = ((j + 1 : Nat) : Int) ∧ ((w = -1 ∧ ∀ i, i < j → qP T k (idx T ((i + 1 : Nat) : Int)) = false) ∨ ∃ m : Nat, w = (m : Nat) ∧ (ordP T).find? (qP T k) = some m)) (fun _ i _ => (T.n + 1 - i).toNat) w ((j + 1 : Nat) : Int) t' vs) w nx t' := by
      intro hov
      unfold J_ref13_due_4
      refine BR_ff rfl ?_
      refine hfull w t' e' ?_
      rcases hw with ⟨rfl, hno⟩ | ⟨m, rfl, hf⟩
      · have hjn := hov (by omega)
        subst hjn
        rw [exh t' e' hno]; rfl
      · rw [hf]; rfl
    refine BR_dec (fun h2 => ?_) (fun h2 => ?_)
    · have hjn : j < T.n := by omega
      rcases hw with ⟨rfl, hno⟩ | ⟨m, rfl, hf⟩
      · have hs := hv.sur ((j + 1 : Nat) : Int) (by omega) (by omega)
        generalize hnx1 : (fun vs : List Value => N_ref13_due_1 _ _ _ _ _ vs) = nx1
        unfold J_ref13_due_4
        refine BR_tt rfl ?_
        refine ⟨_, _, _, hA et', _, _, _, hB et', ?_⟩
        refine f_at (hx.ext (e1.trans et')) (hy.ext (e1.trans et')) (by omega) fun t2 e2 => ?_
        try simp only [TUP_mk, AGG_mk, HD_mk, NL_mk, TYI_mk, TYB_mk, TYP_mk, TYL_mk, TYS_mk, TYM_mk, SO_mk, NX_mk, endK_mk, endK_mk', add_0]
        rw [atL_idx hs.1]
        have hget := ord_get hjn
        generalize hm : idx T ((j + 1 : Nat) : Int) = m at *
        have et2 := et'.trans e2
        obtain ⟨ay, v0, v1, v2⟩ := pz_row (hy.ext (e1.trans et2)) hkz
        refine ⟨_, _, _, hB et2, ?_⟩
        refine IXS_at v0 hkz ?_
        refine ⟨_, v1, ?_⟩
        have hms : (T.n + 1 - (IntKind.i64.wrap (((j + 1 : Nat) : Int) + 1))).toNat < ((T.n : Int) + 1 - ((j + 1 : Nat) : Int)).toNat := by rw [wrap_succ (by omega)]; omega
        have yes : ∀ t3, Ext t' t3 → qP T k m = true → J_ref13_due_0 W (endK K E) ⟨s.size, 0, none⟩ qx ql qc k nx1 (m : Nat) ((j + 1 : Nat) : Int) t3 := by
          intro t3 e3 hq
          unfold J_ref13_due_0
          rw [← hnx1]
          refine ⟨rfl, _, _, rfl, ⟨e'.trans e3, j + 1, hjn, wrap_succ (by omega), .inr ⟨m, rfl, ?_⟩⟩, hms⟩
          refine find_at hget hq fun a x ha hx' => ?_
          rw [ord_get (by omega)] at hx'
          cases hx'
          exact hno a ha
        have nay : ∀ t3, Ext t' t3 → qP T k m = false → J_ref13_due_0 W (endK K E) ⟨s.size, 0, none⟩ qx ql qc k nx1 (-1) ((j + 1 : Nat) : Int) t3 := by
          intro t3 e3 hq
          unfold J_ref13_due_0
          rw [← hnx1]
          refine ⟨rfl, _, _, rfl, ⟨e'.trans e3, j + 1, hjn, wrap_succ (by omega), .inl ⟨rfl, fun i hi => ?_⟩⟩, hms⟩
          by_cases e : i = j
          · subst e; rw [hm]; exact hq
          · exact hno i (by omega)
        have clubs : ∀ t3 b, Ext t' t3 → b = (decide ((T.pz k).kind ≠ 4) || ((T.man m).club == (bestP T).1)) → J_ref13_due_3 W (endK K E) ⟨s.size, 0, none⟩ (m : Nat) k b qx ql qc nx1 ((j + 1 : Nat) : Int) (-1) t3 := by
          intro t3 b e3 hb
          unfold J_ref13_due_3
          have et3 := et'.trans e3
          refine ⟨_, _, _, hA et3, _, _, _, hB et3, ?_⟩
          refine f_can (hx.ext (e1.trans et3)) (hy.ext (e1.trans et3)) hs.1 hkz fun t4 e4 => ?_
          try simp only [TUP_mk, AGG_mk, HD_mk, NL_mk, TYI_mk, TYB_mk, TYP_mk, TYL_mk, TYS_mk, TYM_mk, SO_mk, NX_mk, endK_mk, endK_mk', add_0]
          have e34 := e3.trans e4
          refine BR_bool (fun h3 => ?_) (fun h3 => ?_)
          · unfold J_ref13_due_2
            refine BR_bool (fun h4 => ?_) (fun h4 => ?_)
            · refine f_has (hfr.ext (e'.trans e34)).row (by unfold manL; rw [List.length_map, dueL_len]; exact hlen) (by unfold manL; rw [List.length_map, dueL_len]; omega) ?_
              try simp only [TUP_mk, AGG_mk, HD_mk, NL_mk, TYI_mk, TYB_mk, TYP_mk, TYL_mk, TYS_mk, TYM_mk, SO_mk, NX_mk, endK_mk, endK_mk', add_0]
              rw [mem_manL]
              unfold J_ref13_due_1
              refine BR_not (fun h5 => ?_) (fun h5 => ?_)
              · refine yes t4 e34 ?_
                unfold qP; rw [h3, ← hb, h4, h5]; rfl
              · refine nay t4 e34 ?_
                unfold qP; rw [h3, ← hb, h4, h5]; rfl
            · unfold J_ref13_due_1
              refine BR_ff rfl (nay t4 e34 ?_)
              unfold qP; rw [h3, ← hb, h4]; rfl
          · unfold J_ref13_due_2
            refine BR_ff rfl ?_
            unfold J_ref13_due_1
            refine BR_ff rfl (nay t4 e34 ?_)
            unfold qP; rw [h3]; rfl
        refine BR_ne (fun h3 => ?_) (fun h3 => ?_)
        · refine clubs t2 _ e2 ?_
          rw [decide_eq_true h3]; rfl
        · obtain ⟨ax, w0, w1, w2, w3, w4⟩ := man_row (hx.ext (e1.trans et2)) hs.1
          refine ⟨_, _, _, hA et2, ?_⟩
          refine IXS_at w0 hs.1 ?_
          refine ⟨_, w2, _, _, _, hA et2, _, _, _, hB et2, ?_⟩
          refine f_best hok (hx.ext (e1.trans et2)) (hy.ext (e1.trans et2)) fun t3 e3 => ?_
          try simp only [TUP_mk, AGG_mk, HD_mk, NL_mk, TYI_mk, TYB_mk, TYP_mk, TYL_mk, TYS_mk, TYM_mk, SO_mk, NX_mk, endK_mk, endK_mk', add_0]
          refine ANDS_i ⟨_, e3.cell w2, rfl⟩ ?_
          refine ANDS_i ⟨_, _, _, hA (et2.trans e3), rfl⟩ ?_
          refine clubs t3 _ (e2.trans e3) ?_
          have : ¬ (T.pz k).kind ≠ 4 := fun hh => hh h3
          rw [decide_eq_false this, Bool.false_or]
      · have : decide (((m : Nat) : Int) < 0) = false := decide_eq_false (by omega)
        rw [this]
        exact over (fun hh => by omega)
    · exact over (fun _ => by omega)
  · have hkz : k = T.z := by omega
    subst hkz
    subst hlen
    exact h t qx qc (e1.trans et) (hfr.le e1.1)
end
end Go.Proofs.Ytfaeokcbfnlgbaa.G

/- More of the functions' shallow texts, by gen.py. -/
set_option linter.unusedVariables false
set_option maxRecDepth 100000
namespace Go.Proofs.Ytfaeokcbfnlgbaa.G
open Go.V
def an_16 : Nat → Ann := fun b => match b with
  | _ => {}
abbrev rv_16 : List ResultVar := [.tmp 6, .tmp 7]
abbrev rs_16 : List Nat := [26, 6, 7]
def J_ref13_Can_0 (W : World) (R : Ending → Hp → Prop) (x46 : Option Addr) (l47 : Nat) (c48 : Nat) (x49 : Option Addr) (l50 : Nat) (c51 : Nat) (b65 : Bool) (B9 : Nat) (n7 : Int) (n8 : Int) : Hp → Prop :=
  CALL Pg W F_ref13_check [(.agg #[(.slice x46 l47 c48), (.slice x49 l50 c51)]), (.bool b65)]
    (fun v66 => TYI .i64 v66 fun n68 =>
      BR (n68 != 0)
        (R (.returned (.tuple #[(.bool false), (.int .i64 n68)])))
        (RDL (Addr.add ⟨B9, 0, none⟩ 0) fun x69 l70 c71 =>
          RDL (Addr.add ⟨B9, 0, none⟩ 1) fun x72 l73 c74 =>
            CALL Pg W F_ref13_can [(.agg #[(.slice x69 l70 c71), (.slice x72 l73 c74)]), (.int .i64 n7), (.int .i64 n8)]
              (fun v75 => TYB v75 fun b77 =>
                R (.returned (.tuple #[(.bool b77), (.int .i64 0)])))
                (fun e76 => R (.panicked e76))))
      (fun e67 => R (.panicked e67))
def T_ref13_Can (W : World) (x1 : Option Addr) (l2 : Nat) (c3 : Nat) (x4 : Option Addr) (l5 : Nat) (c6 : Nat) (n7 : Int) (n8 : Int) (R : Ending → Hp → Prop) : Hp → Prop :=
  NEW 25 [(.slice x1 l2 c3), (.slice x4 l5 c6)] fun B9 =>
    RDL (Addr.add ⟨B9, 0, none⟩ 0) fun x10 l11 c12 =>
      RDL (Addr.add ⟨B9, 0, none⟩ 1) fun x13 l14 c15 =>
        RDL (Addr.add ⟨B9, 0, none⟩ 0) fun x16 l17 c18 =>
          RDL (Addr.add ⟨B9, 0, none⟩ 1) fun x19 l20 c21 =>
            CALL Pg W F_ref13_Man [(.agg #[(.slice x16 l17 c18), (.slice x19 l20 c21)]), (.int .i64 n7)]
              (fun v22 => TYB v22 fun b24 =>
                ANDS (RDL (Addr.add ⟨B9, 0, none⟩ 0) fun x25 l26 c27 =>
                  RDL (Addr.add ⟨B9, 0, none⟩ 1) fun x28 l29 c30 =>
                    fun _ => ((.agg #[(.slice x25 l26 c27), (.slice x28 l29 c30)]) : Value) = (.agg #[(.slice x10 l11 c12), (.slice x13 l14 c15)])) <|
                  BR b24
                    (RDL (Addr.add ⟨B9, 0, none⟩ 0) fun x31 l32 c33 =>
                      RDL (Addr.add ⟨B9, 0, none⟩ 1) fun x34 l35 c36 =>
                        CALL Pg W F_ref13_Prize [(.agg #[(.slice x31 l32 c33), (.slice x34 l35 c36)]), (.int .i64 n8)]
                          (fun v37 => TYB v37 fun b39 =>
                            ANDS (RDL (Addr.add ⟨B9, 0, none⟩ 0) fun x40 l41 c42 =>
                              RDL (Addr.add ⟨B9, 0, none⟩ 1) fun x43 l44 c45 =>
                                fun _ => ((.agg #[(.slice x40 l41 c42), (.slice x43 l44 c45)]) : Value) = (.agg #[(.slice x10 l11 c12), (.slice x13 l14 c15)])) <|
                              J_ref13_Can_0 W R x10 l11 c12 x13 l14 c15 b39 B9 n7 n8)
                            (fun e38 => R (.panicked e38)))
                    (J_ref13_Can_0 W R x10 l11 c12 x13 l14 c15 false B9 n7 n8))
                (fun e23 => R (.panicked e23))
theorem T_ref13_Can_eq (W : World) (x1 : Option Addr) (l2 : Nat) (c3 : Nat) (x4 : Option Addr) (l5 : Nat) (c6 : Nat) (n7 : Int) (n8 : Int) (R : Ending → Hp → Prop) : vfun Pg W an_16 Try.f16 [(.agg #[(.slice x1 l2 c3), (.slice x4 l5 c6)]), (.int .i64 n7), (.int .i64 n8)] R = T_ref13_Can W x1 l2 c3 x4 l5 c6 n7 n8 R := by kernel_rfl
theorem does_ref13_Can (W : World) (x1 : Option Addr) (l2 : Nat) (c3 : Nat) (x4 : Option Addr) (l5 : Nat) (c6 : Nat) (n7 : Int) (n8 : Int) (R : Ending → Hp → Prop) (s : Hp) (h : T_ref13_Can W x1 l2 c3 x4 l5 c6 n7 n8 R s) : Does Pg W F_ref13_Can #[(.agg #[(.slice x1 l2 c3), (.slice x4 l5 c6)]), (.int .i64 n7), (.int .i64 n8)] s R :=
  does_of_vfun Pg W an_16 Try.func16 rfl (by kernel_rfl) (by rw [T_ref13_Can_eq]; exact h)
def an_18 : Nat → Ann := fun b => match b with
  | _ => {}
abbrev rv_18 : List ResultVar := [.tmp 2, .tmp 3]
abbrev rs_18 : List Nat := [12, 2, 3]
def T_ref13_Due (W : World) (x1 : Option Addr) (l2 : Nat) (c3 : Nat) (x4 : Option Addr) (l5 : Nat) (c6 : Nat) (R : Ending → Hp → Prop) : Hp → Prop :=
  NEW 25 [(.slice x1 l2 c3), (.slice x4 l5 c6)] fun B7 =>
    RDL (Addr.add ⟨B7, 0, none⟩ 0) fun x8 l9 c10 =>
      RDL (Addr.add ⟨B7, 0, none⟩ 1) fun x11 l12 c13 =>
        CALL Pg W F_ref13_check [(.agg #[(.slice x8 l9 c10), (.slice x11 l12 c13)]), (.bool true)]
          (fun v14 => TYI .i64 v14 fun n16 =>
            BR (n16 != 0)
              (R (.returned (.tuple #[(.slice none 0 0), (.int .i64 n16)])))
              (RDL (Addr.add ⟨B7, 0, none⟩ 0) fun x17 l18 c19 =>
                RDL (Addr.add ⟨B7, 0, none⟩ 1) fun x20 l21 c22 =>
                  CALL Pg W F_ref13_due [(.agg #[(.slice x17 l18 c19), (.slice x20 l21 c22)])]
                    (fun v23 => TYL v23 fun x25 l26 c27 =>
                      R (.returned (.tuple #[(.slice x25 l26 c27), (.int .i64 0)])))
                      (fun e24 => R (.panicked e24))))
            (fun e15 => R (.panicked e15))
theorem T_ref13_Due_eq (W : World) (x1 : Option Addr) (l2 : Nat) (c3 : Nat) (x4 : Option Addr) (l5 : Nat) (c6 : Nat) (R : Ending → Hp → Prop) : vfun Pg W an_18 Try.f18 [(.agg #[(.slice x1 l2 c3), (.slice x4 l5 c6)])] R = T_ref13_Due W x1 l2 c3 x4 l5 c6 R := by kernel_rfl
theorem does_ref13_Due (W : World) (x1 : Option Addr) (l2 : Nat) (c3 : Nat) (x4 : Option Addr) (l5 : Nat) (c6 : Nat) (R : Ending → Hp → Prop) (s : Hp) (h : T_ref13_Due W x1 l2 c3 x4 l5 c6 R s) : Does Pg W F_ref13_Due #[(.agg #[(.slice x1 l2 c3), (.slice x4 l5 c6)])] s R :=
  does_of_vfun Pg W an_18 Try.func18 rfl (by kernel_rfl) (by rw [T_ref13_Due_eq]; exact h)
def an_20 : Nat → Ann := fun b => match b with
  | 0 => { ms := [4, 5, 6, 9], ks := [.i .i64, .i .i64, .i .i64, .i .i64], us := [1, 8, 40], rt := false, ex := [] }
  | _ => {}
abbrev rv_20 : List ResultVar := [.tmp 4, .tmp 5, .tmp 6]
abbrev rs_20 : List Nat := [40, 4, 5, 6]
def L_ref13_Wrong_0 (W : World) (R : Ending → Hp → Prop) (zp0 : Option Addr) (zl1 : Nat) (zl2 : Nat) (zp3 : Option Addr) (zl4 : Nat) (zl5 : Nat) (n46 : Int) (n47 : Int) (n48 : Int) (n49 : Int) : Hp → Prop :=
  LOOPN [.i .i64, .i .i64, .i .i64, .i .i64] (fun ys next s => ∀ j : Tm, vc Pg W 40 rs_20 an_20 false (sub (bodyOf Try.f20) [1, 1, 1, 1, 0, 1, 0, 0]) 0 (KLoop [4, 5, 6, 9] [1, 8, 40] [(.slice zp0 zl1 zl2), (.slice zp3 zl4 zl5), (.tuple #[])] next (KBlk 0 (KS Pg W 40 rs_20 an_20 false (sub (bodyOf Try.f20) [1, 1, 1, 1, 1]) 0 (fin Pg W 40 rv_20 R)))) (known [4, 5, 6, 9] ys (known [1, 8, 40] [(.slice zp0 zl1 zl2), (.slice zp3 zl4 zl5), (.tuple #[])] j)) s) [(.int .i64 n46), (.int .i64 n47), (.int .i64 n48), (.int .i64 n49)]
def B_ref13_Wrong_0 (W : World) (R : Ending → Hp → Prop) (zp0 : Option Addr) (zl1 : Nat) (zl2 : Nat) (zp3 : Option Addr) (zl4 : Nat) (zl5 : Nat) (n46 : Int) (n47 : Int) (n48 : Int) (n49 : Int) (nx0 : List Value → Hp → Prop) : Hp → Prop :=
  BR (decide (n49 < (↑zl1 : Int)))
    (IXS zp0 zl1 n49 1 fun a50 =>
      RDI .i64 a50 fun n51 =>
        IXS zp3 zl4 n49 1 fun a52 =>
          RDI .i64 a52 fun n53 =>
            BR (n51 != n53)
              (IXS zp3 zl4 n49 1 fun a54 =>
                RDI .i64 a54 fun n55 =>
                  ANDS (RDI .i64 a54 fun n56 =>
                    fun _ => ((.int .i64 n56) : Value) = (.int .i64 n55)) <|
                    R (.returned (.tuple #[(.int .i64 n49), (.int .i64 n55), (.int .i64 0)])))
              (NX [(.slice zp0 zl1 zl2), (.slice zp3 zl4 zl5), (.tuple #[])] [(.slice zp0 zl1 zl2), (.slice zp3 zl4 zl5), (.tuple #[])] (nx0 [(.int .i64 n46), (.int .i64 n47), (.int .i64 n48), (.int .i64 (IntKind.wrap .i64 (n49 + 1)))])))
    (R (.returned (.tuple #[(.int .i64 0), (.int .i64 0), (.int .i64 4)])))
theorem B_ref13_Wrong_0_eq (W : World) (R : Ending → Hp → Prop) (zp0 : Option Addr) (zl1 : Nat) (zl2 : Nat) (zp3 : Option Addr) (zl4 : Nat) (zl5 : Nat) (n46 : Int) (n47 : Int) (n48 : Int) (n49 : Int) (nx0 : List Value → Hp → Prop) (j : Tm) : vc Pg W 40 rs_20 an_20 false (sub (bodyOf Try.f20) [1, 1, 1, 1, 0, 1, 0, 0]) 0 (KLoop [4, 5, 6, 9] [1, 8, 40] [(.slice zp0 zl1 zl2), (.slice zp3 zl4 zl5), (.tuple #[])] nx0 (KBlk 0 (KS Pg W 40 rs_20 an_20 false (sub (bodyOf Try.f20) [1, 1, 1, 1, 1]) 0 (fin Pg W 40 rv_20 R)))) (known [4, 5, 6, 9] [(.int .i64 n46), (.int .i64 n47), (.int .i64 n48), (.int .i64 n49)] (known [1, 8, 40] [(.slice zp0 zl1 zl2), (.slice zp3 zl4 zl5), (.tuple #[])] j)) = B_ref13_Wrong_0 W R zp0 zl1 zl2 zp3 zl4 zl5 n46 n47 n48 n49 nx0 := by kernel_rfl
def N_ref13_Wrong_0 (I : Int → Int → Int → Int → Hp → Prop) (μ : Int → Int → Int → Int → Hp → Nat) (n460 : Int) (n470 : Int) (n480 : Int) (n490 : Int) (s : Hp) (vs : List Value) : Hp → Prop := fun s' => ∃ n46 n47 n48 n49, vs = [(.int .i64 n46), (.int .i64 n47), (.int .i64 n48), (.int .i64 n49)] ∧ I n46 n47 n48 n49 s' ∧ μ n46 n47 n48 n49 s' < μ n460 n470 n480 n490 s
theorem L_ref13_Wrong_0_rule (W : World) (R : Ending → Hp → Prop) (zp0 : Option Addr) (zl1 : Nat) (zl2 : Nat) (zp3 : Option Addr) (zl4 : Nat) (zl5 : Nat) (I : Int → Int → Int → Int → Hp → Prop) (μ : Int → Int → Int → Int → Hp → Nat) (n460 : Int) (n470 : Int) (n480 : Int) (n490 : Int) (s : Hp) (h0 : I n460 n470 n480 n490 s)
    (hr : ∀ (n46 : Int) (n47 : Int) (n48 : Int) (n49 : Int) (s : Hp), I n46 n47 n48 n49 s → B_ref13_Wrong_0 W R zp0 zl1 zl2 zp3 zl4 zl5 n46 n47 n48 n49 (fun vs => N_ref13_Wrong_0 I μ n46 n47 n48 n49 s vs) s) : L_ref13_Wrong_0 W R zp0 zl1 zl2 zp3 zl4 zl5 n460 n470 n480 n490 s := by
  refine ⟨fun vs s => ∃ n46 n47 n48 n49, vs = [(.int .i64 n46), (.int .i64 n47), (.int .i64 n48), (.int .i64 n49)] ∧ I n46 n47 n48 n49 s, fun vs s => (match vs with | [.int _ n46, .int _ n47, .int _ n48, .int _ n49] => μ n46 n47 n48 n49 s | _ => 0), ⟨⟨⟨_, rfl⟩, ⟨⟨_, rfl⟩, ⟨⟨_, rfl⟩, ⟨⟨_, rfl⟩, trivial⟩⟩⟩⟩, ⟨_, _, _, _, rfl, h0⟩⟩, ?_⟩
  intro n46 n47 n48 n49 s hI j
  obtain ⟨n46', n47', n48', n49', hy, hI⟩ := hI
  have hI' : I n46 n47 n48 n49 s := by cases hy; exact hI
  have hh := hr n46 n47 n48 n49 s hI'
  rw [← B_ref13_Wrong_0_eq W R zp0 zl1 zl2 zp3 zl4 zl5 n46 n47 n48 n49 _ j] at hh
  refine vc_mono ?_ _ _ hh
  exact KLoop_mono (fun vs s' h => by obtain ⟨n461, n471, n481, n491, rfl, h1, h2⟩ := h; exact ⟨⟨⟨_, rfl⟩, ⟨⟨_, rfl⟩, ⟨⟨_, rfl⟩, ⟨⟨_, rfl⟩, trivial⟩⟩⟩⟩, ⟨_, _, _, _, rfl, h1⟩, h2⟩)
def T_ref13_Wrong (W : World) (x1 : Option Addr) (l2 : Nat) (c3 : Nat) (x4 : Option Addr) (l5 : Nat) (c6 : Nat) (x7 : Option Addr) (l8 : Nat) (c9 : Nat) (R : Ending → Hp → Prop) : Hp → Prop :=
  NEW 25 [(.slice x1 l2 c3), (.slice x4 l5 c6)] fun B10 =>
    RDL (Addr.add ⟨B10, 0, none⟩ 0) fun x11 l12 c13 =>
      RDL (Addr.add ⟨B10, 0, none⟩ 1) fun x14 l15 c16 =>
        RDL (Addr.add ⟨B10, 0, none⟩ 0) fun x17 l18 c19 =>
          RDL (Addr.add ⟨B10, 0, none⟩ 1) fun x20 l21 c22 =>
            CALL Pg W F_ref13_Giving [(.agg #[(.slice x17 l18 c19), (.slice x20 l21 c22)]), (.slice x7 l8 c9)]
              (fun v23 => TYB v23 fun b25 =>
                ANDS (RDL (Addr.add ⟨B10, 0, none⟩ 0) fun x26 l27 c28 =>
                  RDL (Addr.add ⟨B10, 0, none⟩ 1) fun x29 l30 c31 =>
                    fun _ => ((.agg #[(.slice x26 l27 c28), (.slice x29 l30 c31)]) : Value) = (.agg #[(.slice x11 l12 c13), (.slice x14 l15 c16)])) <|
                  CALL Pg W F_ref13_check [(.agg #[(.slice x11 l12 c13), (.slice x14 l15 c16)]), (.bool b25)]
                    (fun v32 => TYI .i64 v32 fun n34 =>
                      BR (n34 != 0)
                        (R (.returned (.tuple #[(.int .i64 0), (.int .i64 0), (.int .i64 n34)])))
                        (RDL (Addr.add ⟨B10, 0, none⟩ 0) fun x35 l36 c37 =>
                          RDL (Addr.add ⟨B10, 0, none⟩ 1) fun x38 l39 c40 =>
                            CALL Pg W F_ref13_due [(.agg #[(.slice x35 l36 c37), (.slice x38 l39 c40)])]
                              (fun v41 => TYL v41 fun x43 l44 c45 =>
                                L_ref13_Wrong_0 W R x7 l8 c9 x43 l44 c45 0 0 0 0)
                                (fun e42 => R (.panicked e42))))
                      (fun e33 => R (.panicked e33)))
                (fun e24 => R (.panicked e24))
theorem T_ref13_Wrong_eq (W : World) (x1 : Option Addr) (l2 : Nat) (c3 : Nat) (x4 : Option Addr) (l5 : Nat) (c6 : Nat) (x7 : Option Addr) (l8 : Nat) (c9 : Nat) (R : Ending → Hp → Prop) : vfun Pg W an_20 Try.f20 [(.agg #[(.slice x1 l2 c3), (.slice x4 l5 c6)]), (.slice x7 l8 c9)] R = T_ref13_Wrong W x1 l2 c3 x4 l5 c6 x7 l8 c9 R := by kernel_rfl
theorem does_ref13_Wrong (W : World) (x1 : Option Addr) (l2 : Nat) (c3 : Nat) (x4 : Option Addr) (l5 : Nat) (c6 : Nat) (x7 : Option Addr) (l8 : Nat) (c9 : Nat) (R : Ending → Hp → Prop) (s : Hp) (h : T_ref13_Wrong W x1 l2 c3 x4 l5 c6 x7 l8 c9 R s) : Does Pg W F_ref13_Wrong #[(.agg #[(.slice x1 l2 c3), (.slice x4 l5 c6)]), (.slice x7 l8 c9)] s R :=
  does_of_vfun Pg W an_20 Try.func20 rfl (by kernel_rfl) (by rw [T_ref13_Wrong_eq]; exact h)
def an_22 : Nat → Ann := fun b => match b with
  | _ => {}
abbrev rv_22 : List ResultVar := [.tmp 2, .tmp 3, .tmp 4]
abbrev rs_22 : List Nat := [20, 2, 3, 4]
def T_ref13_Club (W : World) (x1 : Option Addr) (l2 : Nat) (c3 : Nat) (x4 : Option Addr) (l5 : Nat) (c6 : Nat) (R : Ending → Hp → Prop) : Hp → Prop :=
  NEW 25 [(.slice x1 l2 c3), (.slice x4 l5 c6)] fun B7 =>
    RDL (Addr.add ⟨B7, 0, none⟩ 0) fun x8 l9 c10 =>
      RDL (Addr.add ⟨B7, 0, none⟩ 1) fun x11 l12 c13 =>
        CALL Pg W F_ref13_check [(.agg #[(.slice x8 l9 c10), (.slice x11 l12 c13)]), (.bool true)]
          (fun v14 => TYI .i64 v14 fun n16 =>
            BR (n16 != 0)
              (R (.returned (.tuple #[(.int .i64 0), (.int .i64 0), (.int .i64 n16)])))
              (RDL (Addr.add ⟨B7, 0, none⟩ 0) fun x17 l18 c19 =>
                RDL (Addr.add ⟨B7, 0, none⟩ 1) fun x20 l21 c22 =>
                  CALL Pg W F_ref13_best [(.agg #[(.slice x17 l18 c19), (.slice x20 l21 c22)])]
                    (fun v23 => TYI .i64 v23 fun n25 =>
                      BR (n25 == 0)
                        (R (.returned (.tuple #[(.int .i64 0), (.int .i64 0), (.int .i64 4)])))
                        (RDL (Addr.add ⟨B7, 0, none⟩ 0) fun x26 l27 c28 =>
                          RDL (Addr.add ⟨B7, 0, none⟩ 1) fun x29 l30 c31 =>
                            CALL Pg W F_ref13_sum [(.agg #[(.slice x26 l27 c28), (.slice x29 l30 c31)]), (.int .i64 n25)]
                              (fun v32 => TYI .i64 v32 fun n34 =>
                                R (.returned (.tuple #[(.int .i64 n25), (.int .i64 n34), (.int .i64 0)])))
                                (fun e33 => R (.panicked e33))))
                      (fun e24 => R (.panicked e24))))
            (fun e15 => R (.panicked e15))
theorem T_ref13_Club_eq (W : World) (x1 : Option Addr) (l2 : Nat) (c3 : Nat) (x4 : Option Addr) (l5 : Nat) (c6 : Nat) (R : Ending → Hp → Prop) : vfun Pg W an_22 Try.f22 [(.agg #[(.slice x1 l2 c3), (.slice x4 l5 c6)])] R = T_ref13_Club W x1 l2 c3 x4 l5 c6 R := by kernel_rfl
theorem does_ref13_Club (W : World) (x1 : Option Addr) (l2 : Nat) (c3 : Nat) (x4 : Option Addr) (l5 : Nat) (c6 : Nat) (R : Ending → Hp → Prop) (s : Hp) (h : T_ref13_Club W x1 l2 c3 x4 l5 c6 R s) : Does Pg W F_ref13_Club #[(.agg #[(.slice x1 l2 c3), (.slice x4 l5 c6)])] s R :=
  does_of_vfun Pg W an_22 Try.func22 rfl (by kernel_rfl) (by rw [T_ref13_Club_eq]; exact h)
def an_24 : Nat → Ann := fun b => match b with
  | 0 => { ms := [9, 10], ks := [.i .i64, .i .i64], us := [4, 5, 6, 8, 40], rt := false, ex := [] }
  | _ => {}
abbrev rv_24 : List ResultVar := [.tmp 4, .tmp 5, .tmp 6]
abbrev rs_24 : List Nat := [40, 4, 5, 6]
def L_ref13_Worth_0 (W : World) (R : Ending → Hp → Prop) (zp0 : Option Addr) (zl1 : Nat) (zl2 : Nat) (n55 : Int) (n56 : Int) : Hp → Prop :=
  LOOPN [.i .i64, .i .i64] (fun ys next s => ∀ j : Tm, vc Pg W 40 rs_24 an_24 false (sub (bodyOf Try.f24) [1, 1, 1, 1, 1, 1, 0, 1, 0, 0]) 0 (KLoop [9, 10] [4, 5, 6, 8, 40] [(.slice none 0 0), (.int .i64 0), (.int .i64 0), (.slice zp0 zl1 zl2), (.tuple #[])] next (KBlk 0 (KS Pg W 40 rs_24 an_24 false (sub (bodyOf Try.f24) [1, 1, 1, 1, 1, 1, 1]) 0 (fin Pg W 40 rv_24 R)))) (known [9, 10] ys (known [4, 5, 6, 8, 40] [(.slice none 0 0), (.int .i64 0), (.int .i64 0), (.slice zp0 zl1 zl2), (.tuple #[])] j)) s) [(.int .i64 n55), (.int .i64 n56)]
def B_ref13_Worth_0 (W : World) (R : Ending → Hp → Prop) (zp0 : Option Addr) (zl1 : Nat) (zl2 : Nat) (n55 : Int) (n56 : Int) (nx0 : List Value → Hp → Prop) : Hp → Prop :=
  BR (decide (n56 < (↑zl1 : Int)))
    (IXS zp0 zl1 n56 1 fun a57 =>
      RDI .i64 a57 fun n58 =>
        NX [(.slice none 0 0), (.int .i64 0), (.int .i64 0), (.slice zp0 zl1 zl2), (.tuple #[])] [(.slice none 0 0), (.int .i64 0), (.int .i64 0), (.slice zp0 zl1 zl2), (.tuple #[])] (nx0 [(.int .i64 (IntKind.wrap .i64 (n55 + n58))), (.int .i64 (IntKind.wrap .i64 (n56 + 1)))]))
    (R (.returned (.tuple #[(.slice zp0 zl1 zl2), (.int .i64 n55), (.int .i64 0)])))
theorem B_ref13_Worth_0_eq (W : World) (R : Ending → Hp → Prop) (zp0 : Option Addr) (zl1 : Nat) (zl2 : Nat) (n55 : Int) (n56 : Int) (nx0 : List Value → Hp → Prop) (j : Tm) : vc Pg W 40 rs_24 an_24 false (sub (bodyOf Try.f24) [1, 1, 1, 1, 1, 1, 0, 1, 0, 0]) 0 (KLoop [9, 10] [4, 5, 6, 8, 40] [(.slice none 0 0), (.int .i64 0), (.int .i64 0), (.slice zp0 zl1 zl2), (.tuple #[])] nx0 (KBlk 0 (KS Pg W 40 rs_24 an_24 false (sub (bodyOf Try.f24) [1, 1, 1, 1, 1, 1, 1]) 0 (fin Pg W 40 rv_24 R)))) (known [9, 10] [(.int .i64 n55), (.int .i64 n56)] (known [4, 5, 6, 8, 40] [(.slice none 0 0), (.int .i64 0), (.int .i64 0), (.slice zp0 zl1 zl2), (.tuple #[])] j)) = B_ref13_Worth_0 W R zp0 zl1 zl2 n55 n56 nx0 := by kernel_rfl
def N_ref13_Worth_0 (I : Int → Int → Hp → Prop) (μ : Int → Int → Hp → Nat) (n550 : Int) (n560 : Int) (s : Hp) (vs : List Value) : Hp → Prop := fun s' => ∃ n55 n56, vs = [(.int .i64 n55), (.int .i64 n56)] ∧ I n55 n56 s' ∧ μ n55 n56 s' < μ n550 n560 s
theorem L_ref13_Worth_0_rule (W : World) (R : Ending → Hp → Prop) (zp0 : Option Addr) (zl1 : Nat) (zl2 : Nat) (I : Int → Int → Hp → Prop) (μ : Int → Int → Hp → Nat) (n550 : Int) (n560 : Int) (s : Hp) (h0 : I n550 n560 s)
    (hr : ∀ (n55 : Int) (n56 : Int) (s : Hp), I n55 n56 s → B_ref13_Worth_0 W R zp0 zl1 zl2 n55 n56 (fun vs => N_ref13_Worth_0 I μ n55 n56 s vs) s) : L_ref13_Worth_0 W R zp0 zl1 zl2 n550 n560 s := by
  refine ⟨fun vs s => ∃ n55 n56, vs = [(.int .i64 n55), (.int .i64 n56)] ∧ I n55 n56 s, fun vs s => (match vs with | [.int _ n55, .int _ n56] => μ n55 n56 s | _ => 0), ⟨⟨⟨_, rfl⟩, ⟨⟨_, rfl⟩, trivial⟩⟩, ⟨_, _, rfl, h0⟩⟩, ?_⟩
  intro n55 n56 s hI j
  obtain ⟨n55', n56', hy, hI⟩ := hI
  have hI' : I n55 n56 s := by cases hy; exact hI
  have hh := hr n55 n56 s hI'
  rw [← B_ref13_Worth_0_eq W R zp0 zl1 zl2 n55 n56 _ j] at hh
  refine vc_mono ?_ _ _ hh
  exact KLoop_mono (fun vs s' h => by obtain ⟨n551, n561, rfl, h1, h2⟩ := h; exact ⟨⟨⟨_, rfl⟩, ⟨⟨_, rfl⟩, trivial⟩⟩, ⟨_, _, rfl, h1⟩, h2⟩)
def T_ref13_Worth (W : World) (x1 : Option Addr) (l2 : Nat) (c3 : Nat) (x4 : Option Addr) (l5 : Nat) (c6 : Nat) (x7 : Option Addr) (l8 : Nat) (c9 : Nat) (R : Ending → Hp → Prop) : Hp → Prop :=
  NEW 25 [(.slice x1 l2 c3), (.slice x4 l5 c6)] fun B10 =>
    RDL (Addr.add ⟨B10, 0, none⟩ 0) fun x11 l12 c13 =>
      RDL (Addr.add ⟨B10, 0, none⟩ 1) fun x14 l15 c16 =>
        RDL (Addr.add ⟨B10, 0, none⟩ 0) fun x17 l18 c19 =>
          RDL (Addr.add ⟨B10, 0, none⟩ 1) fun x20 l21 c22 =>
            CALL Pg W F_ref13_Giving [(.agg #[(.slice x17 l18 c19), (.slice x20 l21 c22)]), (.slice x7 l8 c9)]
              (fun v23 => TYB v23 fun b25 =>
                ANDS (RDL (Addr.add ⟨B10, 0, none⟩ 0) fun x26 l27 c28 =>
                  RDL (Addr.add ⟨B10, 0, none⟩ 1) fun x29 l30 c31 =>
                    fun _ => ((.agg #[(.slice x26 l27 c28), (.slice x29 l30 c31)]) : Value) = (.agg #[(.slice x11 l12 c13), (.slice x14 l15 c16)])) <|
                  CALL Pg W F_ref13_check [(.agg #[(.slice x11 l12 c13), (.slice x14 l15 c16)]), (.bool b25)]
                    (fun v32 => TYI .i64 v32 fun n34 =>
                      BR (n34 != 0)
                        (R (.returned (.tuple #[(.slice none 0 0), (.int .i64 0), (.int .i64 n34)])))
                        (RDL (Addr.add ⟨B10, 0, none⟩ 0) fun x35 l36 c37 =>
                          RDL (Addr.add ⟨B10, 0, none⟩ 1) fun x38 l39 c40 =>
                            CALL Pg W F_ref13_Fair [(.agg #[(.slice x35 l36 c37), (.slice x38 l39 c40)]), (.slice x7 l8 c9)]
                              (fun v41 => TYB v41 fun b43 =>
                                BR (!b43)
                                  (R (.returned (.tuple #[(.slice none 0 0), (.int .i64 0), (.int .i64 4)])))
                                  (RDL (Addr.add ⟨B10, 0, none⟩ 0) fun x44 l45 c46 =>
                                    RDL (Addr.add ⟨B10, 0, none⟩ 1) fun x47 l48 c49 =>
                                      CALL Pg W F_ref13_worths [(.agg #[(.slice x44 l45 c46), (.slice x47 l48 c49)]), (.slice x7 l8 c9)]
                                        (fun v50 => TYL v50 fun x52 l53 c54 =>
                                          L_ref13_Worth_0 W R x52 l53 c54 0 0)
                                          (fun e51 => R (.panicked e51))))
                                (fun e42 => R (.panicked e42))))
                      (fun e33 => R (.panicked e33)))
                (fun e24 => R (.panicked e24))
theorem T_ref13_Worth_eq (W : World) (x1 : Option Addr) (l2 : Nat) (c3 : Nat) (x4 : Option Addr) (l5 : Nat) (c6 : Nat) (x7 : Option Addr) (l8 : Nat) (c9 : Nat) (R : Ending → Hp → Prop) : vfun Pg W an_24 Try.f24 [(.agg #[(.slice x1 l2 c3), (.slice x4 l5 c6)]), (.slice x7 l8 c9)] R = T_ref13_Worth W x1 l2 c3 x4 l5 c6 x7 l8 c9 R := by kernel_rfl
theorem does_ref13_Worth (W : World) (x1 : Option Addr) (l2 : Nat) (c3 : Nat) (x4 : Option Addr) (l5 : Nat) (c6 : Nat) (x7 : Option Addr) (l8 : Nat) (c9 : Nat) (R : Ending → Hp → Prop) (s : Hp) (h : T_ref13_Worth W x1 l2 c3 x4 l5 c6 x7 l8 c9 R s) : Does Pg W F_ref13_Worth #[(.agg #[(.slice x1 l2 c3), (.slice x4 l5 c6)]), (.slice x7 l8 c9)] s R :=
  does_of_vfun Pg W an_24 Try.func24 rfl (by kernel_rfl) (by rw [T_ref13_Worth_eq]; exact h)
def an_35 : Nat → Ann := fun b => match b with
  | 0 => { ms := [3, 4], ks := [.i .i64, .i .i64], us := [0, 2, 19], rt := false, ex := [] }
  | _ => {}
abbrev rv_35 : List ResultVar := [.tmp 2]
abbrev rs_35 : List Nat := [19, 2]
def L_ref13_Many_0 (W : World) (R : Ending → Hp → Prop) (zp0 : Option Addr) (zl1 : Nat) (zl2 : Nat) (n4 : Int) (n5 : Int) : Hp → Prop :=
  LOOPN [.i .i64, .i .i64] (fun ys next s => ∀ j : Tm, vc Pg W 19 rs_35 an_35 false (sub (bodyOf Try.f35) [1, 1, 0, 1, 0, 0]) 0 (KLoop [3, 4] [0, 2, 19] [(.slice zp0 zl1 zl2), (.int .i64 0), (.tuple #[])] next (KBlk 0 (KS Pg W 19 rs_35 an_35 false (sub (bodyOf Try.f35) [1, 1, 1]) 0 (fin Pg W 19 rv_35 R)))) (known [3, 4] ys (known [0, 2, 19] [(.slice zp0 zl1 zl2), (.int .i64 0), (.tuple #[])] j)) s) [(.int .i64 n4), (.int .i64 n5)]
def B_ref13_Many_0 (W : World) (R : Ending → Hp → Prop) (zp0 : Option Addr) (zl1 : Nat) (zl2 : Nat) (n4 : Int) (n5 : Int) (nx0 : List Value → Hp → Prop) : Hp → Prop :=
  BR (decide (n5 < (↑zl1 : Int)))
    (IXS zp0 zl1 n5 1 fun a6 =>
      RDI .i64 a6 fun n7 =>
        BR (decide (n7 ≥ 0))
          (NX [(.slice zp0 zl1 zl2), (.int .i64 0), (.tuple #[])] [(.slice zp0 zl1 zl2), (.int .i64 0), (.tuple #[])] (nx0 [(.int .i64 (IntKind.wrap .i64 (n4 + 1))), (.int .i64 (IntKind.wrap .i64 (n5 + 1)))]))
          (NX [(.slice zp0 zl1 zl2), (.int .i64 0), (.tuple #[])] [(.slice zp0 zl1 zl2), (.int .i64 0), (.tuple #[])] (nx0 [(.int .i64 n4), (.int .i64 (IntKind.wrap .i64 (n5 + 1)))])))
    (R (.returned (.int .i64 n4)))
theorem B_ref13_Many_0_eq (W : World) (R : Ending → Hp → Prop) (zp0 : Option Addr) (zl1 : Nat) (zl2 : Nat) (n4 : Int) (n5 : Int) (nx0 : List Value → Hp → Prop) (j : Tm) : vc Pg W 19 rs_35 an_35 false (sub (bodyOf Try.f35) [1, 1, 0, 1, 0, 0]) 0 (KLoop [3, 4] [0, 2, 19] [(.slice zp0 zl1 zl2), (.int .i64 0), (.tuple #[])] nx0 (KBlk 0 (KS Pg W 19 rs_35 an_35 false (sub (bodyOf Try.f35) [1, 1, 1]) 0 (fin Pg W 19 rv_35 R)))) (known [3, 4] [(.int .i64 n4), (.int .i64 n5)] (known [0, 2, 19] [(.slice zp0 zl1 zl2), (.int .i64 0), (.tuple #[])] j)) = B_ref13_Many_0 W R zp0 zl1 zl2 n4 n5 nx0 := by kernel_rfl
def N_ref13_Many_0 (I : Int → Int → Hp → Prop) (μ : Int → Int → Hp → Nat) (n40 : Int) (n50 : Int) (s : Hp) (vs : List Value) : Hp → Prop := fun s' => ∃ n4 n5, vs = [(.int .i64 n4), (.int .i64 n5)] ∧ I n4 n5 s' ∧ μ n4 n5 s' < μ n40 n50 s
theorem L_ref13_Many_0_rule (W : World) (R : Ending → Hp → Prop) (zp0 : Option Addr) (zl1 : Nat) (zl2 : Nat) (I : Int → Int → Hp → Prop) (μ : Int → Int → Hp → Nat) (n40 : Int) (n50 : Int) (s : Hp) (h0 : I n40 n50 s)
    (hr : ∀ (n4 : Int) (n5 : Int) (s : Hp), I n4 n5 s → B_ref13_Many_0 W R zp0 zl1 zl2 n4 n5 (fun vs => N_ref13_Many_0 I μ n4 n5 s vs) s) : L_ref13_Many_0 W R zp0 zl1 zl2 n40 n50 s := by
  refine ⟨fun vs s => ∃ n4 n5, vs = [(.int .i64 n4), (.int .i64 n5)] ∧ I n4 n5 s, fun vs s => (match vs with | [.int _ n4, .int _ n5] => μ n4 n5 s | _ => 0), ⟨⟨⟨_, rfl⟩, ⟨⟨_, rfl⟩, trivial⟩⟩, ⟨_, _, rfl, h0⟩⟩, ?_⟩
  intro n4 n5 s hI j
  obtain ⟨n4', n5', hy, hI⟩ := hI
  have hI' : I n4 n5 s := by cases hy; exact hI
  have hh := hr n4 n5 s hI'
  rw [← B_ref13_Many_0_eq W R zp0 zl1 zl2 n4 n5 _ j] at hh
  refine vc_mono ?_ _ _ hh
  exact KLoop_mono (fun vs s' h => by obtain ⟨n41, n51, rfl, h1, h2⟩ := h; exact ⟨⟨⟨_, rfl⟩, ⟨⟨_, rfl⟩, trivial⟩⟩, ⟨_, _, rfl, h1⟩, h2⟩)
def T_ref13_Many (W : World) (x1 : Option Addr) (l2 : Nat) (c3 : Nat) (R : Ending → Hp → Prop) : Hp → Prop :=
  L_ref13_Many_0 W R x1 l2 c3 0 0
theorem T_ref13_Many_eq (W : World) (x1 : Option Addr) (l2 : Nat) (c3 : Nat) (R : Ending → Hp → Prop) : vfun Pg W an_35 Try.f35 [(.slice x1 l2 c3)] R = T_ref13_Many W x1 l2 c3 R := by kernel_rfl
theorem does_ref13_Many (W : World) (x1 : Option Addr) (l2 : Nat) (c3 : Nat) (R : Ending → Hp → Prop) (s : Hp) (h : T_ref13_Many W x1 l2 c3 R s) : Does Pg W F_ref13_Many #[(.slice x1 l2 c3)] s R :=
  does_of_vfun Pg W an_35 Try.func35 rfl (by kernel_rfl) (by rw [T_ref13_Many_eq]; exact h)
def an_55 : Nat → Ann := fun b => match b with
  | 0 => { ms := [4, 5], ks := [.b, .i .i64], us := [1, 2, 45], rt := false, ex := [] }
  | _ => {}
abbrev rv_55 : List ResultVar := [.tmp 4]
abbrev rs_55 : List Nat := [45, 4]
def L_ref13_Giving_0 (W : World) (R : Ending → Hp → Prop) (zp0 : Option Addr) (zl1 : Nat) (zl2 : Nat) (za3 : Addr) (b11 : Bool) (n12 : Int) : Hp → Prop :=
  LOOPN [.b, .i .i64] (fun ys next s => ∀ j : Tm, vc Pg W 45 rs_55 an_55 false (sub (bodyOf Try.f55) [1, 0, 1, 0, 0]) 0 (KLoop [4, 5] [1, 2, 45] [(.slice zp0 zl1 zl2), (.pointer (some za3)), (.tuple #[])] next (KBlk 0 (KS Pg W 45 rs_55 an_55 false (sub (bodyOf Try.f55) [1, 1]) 0 (fin Pg W 45 rv_55 R)))) (known [4, 5] ys (known [1, 2, 45] [(.slice zp0 zl1 zl2), (.pointer (some za3)), (.tuple #[])] j)) s) [(.bool b11), (.int .i64 n12)]
def B_ref13_Giving_0 (W : World) (R : Ending → Hp → Prop) (zp0 : Option Addr) (zl1 : Nat) (zl2 : Nat) (za3 : Addr) (b11 : Bool) (n12 : Int) (nx0 : List Value → Hp → Prop) : Hp → Prop :=
  BR (decide (n12 < (↑zl1 : Int)))
    (IXS zp0 zl1 n12 1 fun a13 =>
      RDI .i64 a13 fun n14 =>
        RDL (Addr.add za3 0) fun x15 l16 c17 =>
          CALL Pg W F_ref13_in [(.int .i64 n14), (.int .i64 (-1)), (.int .i64 (IntKind.wrap .i64 ((↑l16 : Int) - 1)))]
            (fun v18 => TYB v18 fun b20 =>
              BR (!b20)
                (R (.returned (.bool false)))
                (IXS zp0 zl1 n12 1 fun a21 =>
                  RDI .i64 a21 fun n22 =>
                    BR (decide (n22 ≥ 0))
                      (IXS zp0 zl1 n12 1 fun a23 =>
                        RDI .i64 a23 fun n24 =>
                          SLS zp0 zl2 0 n12 1 fun x25 l26 c27 =>
                            ANDS (RDI .i64 a23 fun n29 =>
                              fun _ => ((.int .i64 n29) : Value) = (.int .i64 n24)) <|
                              CALL Pg W F_ref13_has [(.slice x25 l26 c27), (.int .i64 n24)]
                                (fun v30 => TYB v30 fun b32 =>
                                  BR b32
                                    (R (.returned (.bool false)))
                                    (NX [(.slice zp0 zl1 zl2), (.pointer (some za3)), (.tuple #[])] [(.slice zp0 zl1 zl2), (.pointer (some za3)), (.tuple #[])] (nx0 [(.bool b11), (.int .i64 (IntKind.wrap .i64 (n12 + 1)))])))
                                  (fun e31 => R (.panicked e31)))
                      (NX [(.slice zp0 zl1 zl2), (.pointer (some za3)), (.tuple #[])] [(.slice zp0 zl1 zl2), (.pointer (some za3)), (.tuple #[])] (nx0 [(.bool b11), (.int .i64 (IntKind.wrap .i64 (n12 + 1)))]))))
              (fun e19 => R (.panicked e19)))
    (RDL (Addr.add za3 1) fun x33 l34 c35 =>
      R (.returned (.bool ((↑zl1 : Int) == (↑l34 : Int)))))
theorem B_ref13_Giving_0_eq (W : World) (R : Ending → Hp → Prop) (zp0 : Option Addr) (zl1 : Nat) (zl2 : Nat) (za3 : Addr) (b11 : Bool) (n12 : Int) (nx0 : List Value → Hp → Prop) (j : Tm) : vc Pg W 45 rs_55 an_55 false (sub (bodyOf Try.f55) [1, 0, 1, 0, 0]) 0 (KLoop [4, 5] [1, 2, 45] [(.slice zp0 zl1 zl2), (.pointer (some za3)), (.tuple #[])] nx0 (KBlk 0 (KS Pg W 45 rs_55 an_55 false (sub (bodyOf Try.f55) [1, 1]) 0 (fin Pg W 45 rv_55 R)))) (known [4, 5] [(.bool b11), (.int .i64 n12)] (known [1, 2, 45] [(.slice zp0 zl1 zl2), (.pointer (some za3)), (.tuple #[])] j)) = B_ref13_Giving_0 W R zp0 zl1 zl2 za3 b11 n12 nx0 := by kernel_rfl
def N_ref13_Giving_0 (I : Bool → Int → Hp → Prop) (μ : Bool → Int → Hp → Nat) (b110 : Bool) (n120 : Int) (s : Hp) (vs : List Value) : Hp → Prop := fun s' => ∃ b11 n12, vs = [(.bool b11), (.int .i64 n12)] ∧ I b11 n12 s' ∧ μ b11 n12 s' < μ b110 n120 s
theorem L_ref13_Giving_0_rule (W : World) (R : Ending → Hp → Prop) (zp0 : Option Addr) (zl1 : Nat) (zl2 : Nat) (za3 : Addr) (I : Bool → Int → Hp → Prop) (μ : Bool → Int → Hp → Nat) (b110 : Bool) (n120 : Int) (s : Hp) (h0 : I b110 n120 s)
    (hr : ∀ (b11 : Bool) (n12 : Int) (s : Hp), I b11 n12 s → B_ref13_Giving_0 W R zp0 zl1 zl2 za3 b11 n12 (fun vs => N_ref13_Giving_0 I μ b11 n12 s vs) s) : L_ref13_Giving_0 W R zp0 zl1 zl2 za3 b110 n120 s := by
  refine ⟨fun vs s => ∃ b11 n12, vs = [(.bool b11), (.int .i64 n12)] ∧ I b11 n12 s, fun vs s => (match vs with | [.bool b11, .int _ n12] => μ b11 n12 s | _ => 0), ⟨⟨⟨_, rfl⟩, ⟨⟨_, rfl⟩, trivial⟩⟩, ⟨_, _, rfl, h0⟩⟩, ?_⟩
  intro b11 n12 s hI j
  obtain ⟨b11', n12', hy, hI⟩ := hI
  have hI' : I b11 n12 s := by cases hy; exact hI
  have hh := hr b11 n12 s hI'
  rw [← B_ref13_Giving_0_eq W R zp0 zl1 zl2 za3 b11 n12 _ j] at hh
  refine vc_mono ?_ _ _ hh
  exact KLoop_mono (fun vs s' h => by obtain ⟨b111, n121, rfl, h1, h2⟩ := h; exact ⟨⟨⟨_, rfl⟩, ⟨⟨_, rfl⟩, trivial⟩⟩, ⟨_, _, rfl, h1⟩, h2⟩)
def T_ref13_Giving (W : World) (x1 : Option Addr) (l2 : Nat) (c3 : Nat) (x4 : Option Addr) (l5 : Nat) (c6 : Nat) (x7 : Option Addr) (l8 : Nat) (c9 : Nat) (R : Ending → Hp → Prop) : Hp → Prop :=
  NEW 25 [(.slice x1 l2 c3), (.slice x4 l5 c6)] fun B10 =>
    L_ref13_Giving_0 W R x7 l8 c9 ⟨B10, 0, none⟩ false 0
theorem T_ref13_Giving_eq (W : World) (x1 : Option Addr) (l2 : Nat) (c3 : Nat) (x4 : Option Addr) (l5 : Nat) (c6 : Nat) (x7 : Option Addr) (l8 : Nat) (c9 : Nat) (R : Ending → Hp → Prop) : vfun Pg W an_55 Try.f55 [(.agg #[(.slice x1 l2 c3), (.slice x4 l5 c6)]), (.slice x7 l8 c9)] R = T_ref13_Giving W x1 l2 c3 x4 l5 c6 x7 l8 c9 R := by kernel_rfl
theorem does_ref13_Giving (W : World) (x1 : Option Addr) (l2 : Nat) (c3 : Nat) (x4 : Option Addr) (l5 : Nat) (c6 : Nat) (x7 : Option Addr) (l8 : Nat) (c9 : Nat) (R : Ending → Hp → Prop) (s : Hp) (h : T_ref13_Giving W x1 l2 c3 x4 l5 c6 x7 l8 c9 R s) : Does Pg W F_ref13_Giving #[(.agg #[(.slice x1 l2 c3), (.slice x4 l5 c6)]), (.slice x7 l8 c9)] s R :=
  does_of_vfun Pg W an_55 Try.func55 rfl (by kernel_rfl) (by rw [T_ref13_Giving_eq]; exact h)
def an_61 : Nat → Ann := fun b => match b with
  | 0 => { ms := [4, 5], ks := [.b, .i .i64], us := [1, 2, 27], rt := false, ex := [] }
  | _ => {}
abbrev rv_61 : List ResultVar := [.tmp 4]
abbrev rs_61 : List Nat := [27, 4]
def L_ref13_Fair_0 (W : World) (R : Ending → Hp → Prop) (zp0 : Option Addr) (zl1 : Nat) (zl2 : Nat) (za3 : Addr) (b11 : Bool) (n12 : Int) : Hp → Prop :=
  LOOPN [.b, .i .i64] (fun ys next s => ∀ j : Tm, vc Pg W 27 rs_61 an_61 false (sub (bodyOf Try.f61) [1, 0, 1, 0, 0]) 0 (KLoop [4, 5] [1, 2, 27] [(.slice zp0 zl1 zl2), (.pointer (some za3)), (.tuple #[])] next (KBlk 0 (KS Pg W 27 rs_61 an_61 false (sub (bodyOf Try.f61) [1, 1]) 0 (fin Pg W 27 rv_61 R)))) (known [4, 5] ys (known [1, 2, 27] [(.slice zp0 zl1 zl2), (.pointer (some za3)), (.tuple #[])] j)) s) [(.bool b11), (.int .i64 n12)]
def B_ref13_Fair_0 (W : World) (R : Ending → Hp → Prop) (zp0 : Option Addr) (zl1 : Nat) (zl2 : Nat) (za3 : Addr) (b11 : Bool) (n12 : Int) (nx0 : List Value → Hp → Prop) : Hp → Prop :=
  BR (decide (n12 < (↑zl1 : Int)))
    (IXS zp0 zl1 n12 1 fun a13 =>
      RDI .i64 a13 fun n14 =>
        BR (decide (n14 ≥ 0))
          (RDL (Addr.add za3 0) fun x15 l16 c17 =>
            RDL (Addr.add za3 1) fun x18 l19 c20 =>
              IXS zp0 zl1 n12 1 fun a21 =>
                RDI .i64 a21 fun n22 =>
                  CALL Pg W F_ref13_can [(.agg #[(.slice x15 l16 c17), (.slice x18 l19 c20)]), (.int .i64 n22), (.int .i64 n12)]
                    (fun v23 => TYB v23 fun b25 =>
                      BR (!b25)
                        (R (.returned (.bool false)))
                        (NX [(.slice zp0 zl1 zl2), (.pointer (some za3)), (.tuple #[])] [(.slice zp0 zl1 zl2), (.pointer (some za3)), (.tuple #[])] (nx0 [(.bool b11), (.int .i64 (IntKind.wrap .i64 (n12 + 1)))])))
                      (fun e24 => R (.panicked e24)))
          (NX [(.slice zp0 zl1 zl2), (.pointer (some za3)), (.tuple #[])] [(.slice zp0 zl1 zl2), (.pointer (some za3)), (.tuple #[])] (nx0 [(.bool b11), (.int .i64 (IntKind.wrap .i64 (n12 + 1)))])))
    (R (.returned (.bool true)))
theorem B_ref13_Fair_0_eq (W : World) (R : Ending → Hp → Prop) (zp0 : Option Addr) (zl1 : Nat) (zl2 : Nat) (za3 : Addr) (b11 : Bool) (n12 : Int) (nx0 : List Value → Hp → Prop) (j : Tm) : vc Pg W 27 rs_61 an_61 false (sub (bodyOf Try.f61) [1, 0, 1, 0, 0]) 0 (KLoop [4, 5] [1, 2, 27] [(.slice zp0 zl1 zl2), (.pointer (some za3)), (.tuple #[])] nx0 (KBlk 0 (KS Pg W 27 rs_61 an_61 false (sub (bodyOf Try.f61) [1, 1]) 0 (fin Pg W 27 rv_61 R)))) (known [4, 5] [(.bool b11), (.int .i64 n12)] (known [1, 2, 27] [(.slice zp0 zl1 zl2), (.pointer (some za3)), (.tuple #[])] j)) = B_ref13_Fair_0 W R zp0 zl1 zl2 za3 b11 n12 nx0 := by kernel_rfl
def N_ref13_Fair_0 (I : Bool → Int → Hp → Prop) (μ : Bool → Int → Hp → Nat) (b110 : Bool) (n120 : Int) (s : Hp) (vs : List Value) : Hp → Prop := fun s' => ∃ b11 n12, vs = [(.bool b11), (.int .i64 n12)] ∧ I b11 n12 s' ∧ μ b11 n12 s' < μ b110 n120 s
theorem L_ref13_Fair_0_rule (W : World) (R : Ending → Hp → Prop) (zp0 : Option Addr) (zl1 : Nat) (zl2 : Nat) (za3 : Addr) (I : Bool → Int → Hp → Prop) (μ : Bool → Int → Hp → Nat) (b110 : Bool) (n120 : Int) (s : Hp) (h0 : I b110 n120 s)
    (hr : ∀ (b11 : Bool) (n12 : Int) (s : Hp), I b11 n12 s → B_ref13_Fair_0 W R zp0 zl1 zl2 za3 b11 n12 (fun vs => N_ref13_Fair_0 I μ b11 n12 s vs) s) : L_ref13_Fair_0 W R zp0 zl1 zl2 za3 b110 n120 s := by
  refine ⟨fun vs s => ∃ b11 n12, vs = [(.bool b11), (.int .i64 n12)] ∧ I b11 n12 s, fun vs s => (match vs with | [.bool b11, .int _ n12] => μ b11 n12 s | _ => 0), ⟨⟨⟨_, rfl⟩, ⟨⟨_, rfl⟩, trivial⟩⟩, ⟨_, _, rfl, h0⟩⟩, ?_⟩
  intro b11 n12 s hI j
  obtain ⟨b11', n12', hy, hI⟩ := hI
  have hI' : I b11 n12 s := by cases hy; exact hI
  have hh := hr b11 n12 s hI'
  rw [← B_ref13_Fair_0_eq W R zp0 zl1 zl2 za3 b11 n12 _ j] at hh
  refine vc_mono ?_ _ _ hh
  exact KLoop_mono (fun vs s' h => by obtain ⟨b111, n121, rfl, h1, h2⟩ := h; exact ⟨⟨⟨_, rfl⟩, ⟨⟨_, rfl⟩, trivial⟩⟩, ⟨_, _, rfl, h1⟩, h2⟩)
def T_ref13_Fair (W : World) (x1 : Option Addr) (l2 : Nat) (c3 : Nat) (x4 : Option Addr) (l5 : Nat) (c6 : Nat) (x7 : Option Addr) (l8 : Nat) (c9 : Nat) (R : Ending → Hp → Prop) : Hp → Prop :=
  NEW 25 [(.slice x1 l2 c3), (.slice x4 l5 c6)] fun B10 =>
    L_ref13_Fair_0 W R x7 l8 c9 ⟨B10, 0, none⟩ false 0
theorem T_ref13_Fair_eq (W : World) (x1 : Option Addr) (l2 : Nat) (c3 : Nat) (x4 : Option Addr) (l5 : Nat) (c6 : Nat) (x7 : Option Addr) (l8 : Nat) (c9 : Nat) (R : Ending → Hp → Prop) : vfun Pg W an_61 Try.f61 [(.agg #[(.slice x1 l2 c3), (.slice x4 l5 c6)]), (.slice x7 l8 c9)] R = T_ref13_Fair W x1 l2 c3 x4 l5 c6 x7 l8 c9 R := by kernel_rfl
theorem does_ref13_Fair (W : World) (x1 : Option Addr) (l2 : Nat) (c3 : Nat) (x4 : Option Addr) (l5 : Nat) (c6 : Nat) (x7 : Option Addr) (l8 : Nat) (c9 : Nat) (R : Ending → Hp → Prop) (s : Hp) (h : T_ref13_Fair W x1 l2 c3 x4 l5 c6 x7 l8 c9 R s) : Does Pg W F_ref13_Fair #[(.agg #[(.slice x1 l2 c3), (.slice x4 l5 c6)]), (.slice x7 l8 c9)] s R :=
  does_of_vfun Pg W an_61 Try.func61 rfl (by kernel_rfl) (by rw [T_ref13_Fair_eq]; exact h)
def an_62 : Nat → Ann := fun b => match b with
  | 0 => { ms := [6], ks := [.i .i64], us := [1, 2, 4, 5, 35], rt := false, ex := [] }
  | _ => {}
abbrev rv_62 : List ResultVar := [.tmp 4]
abbrev rs_62 : List Nat := [35, 4]
def L_ref13_worths_0 (W : World) (R : Ending → Hp → Prop) (zp0 : Option Addr) (zl1 : Nat) (zl2 : Nat) (za3 : Addr) (za4 : Addr) (zl5 : Nat) (n15 : Int) : Hp → Prop :=
  LOOPN [.i .i64] (fun ys next s => ∀ j : Tm, vc Pg W 35 rs_62 an_62 false (sub (bodyOf Try.f62) [1, 1, 0, 1, 0, 0]) 0 (KLoop [6] [1, 2, 4, 5, 35] [(.slice zp0 zl1 zl2), (.pointer (some za3)), (.slice none 0 0), (.slice (some za4) zl5 zl5), (.tuple #[])] next (KBlk 0 (KS Pg W 35 rs_62 an_62 false (sub (bodyOf Try.f62) [1, 1, 1]) 0 (fin Pg W 35 rv_62 R)))) (known [6] ys (known [1, 2, 4, 5, 35] [(.slice zp0 zl1 zl2), (.pointer (some za3)), (.slice none 0 0), (.slice (some za4) zl5 zl5), (.tuple #[])] j)) s) [(.int .i64 n15)]
def J_ref13_worths_0 (W : World) (R : Ending → Hp → Prop) (zp0 : Option Addr) (zl1 : Nat) (zl2 : Nat) (za3 : Addr) (za4 : Addr) (zl5 : Nat) (nx0 : List Value → Hp → Prop) (n15 : Int) : Hp → Prop :=
  NX [(.slice zp0 zl1 zl2), (.pointer (some za3)), (.slice none 0 0), (.slice (some za4) zl5 zl5), (.tuple #[])] [(.slice zp0 zl1 zl2), (.pointer (some za3)), (.slice none 0 0), (.slice (some za4) zl5 zl5), (.tuple #[])] (nx0 [(.int .i64 (IntKind.wrap .i64 (n15 + 1)))])
def B_ref13_worths_0 (W : World) (R : Ending → Hp → Prop) (zp0 : Option Addr) (zl1 : Nat) (zl2 : Nat) (za3 : Addr) (za4 : Addr) (zl5 : Nat) (n15 : Int) (nx0 : List Value → Hp → Prop) : Hp → Prop :=
  BR (decide (n15 < (↑zl1 : Int)))
    (IXS zp0 zl1 n15 1 fun a16 =>
      RDI .i64 a16 fun n17 =>
        BR (decide (n17 ≥ 0))
          (IXS zp0 zl1 n15 1 fun a18 =>
            RDI .i64 a18 fun n19 =>
              RDL (Addr.add za3 1) fun x20 l21 c22 =>
                IXS x20 l21 n15 2 fun a23 =>
                  RDI .i64 (Addr.add a23 1) fun n24 =>
                    IXS (some za4) zl5 n19 1 fun a25 =>
                      WR (Addr.add a25 0) (.int .i64 n24) <|
                        J_ref13_worths_0 W R zp0 zl1 zl2 za3 za4 zl5 nx0 n15)
          (J_ref13_worths_0 W R zp0 zl1 zl2 za3 za4 zl5 nx0 n15))
    (R (.returned (.slice (some za4) zl5 zl5)))
theorem B_ref13_worths_0_eq (W : World) (R : Ending → Hp → Prop) (zp0 : Option Addr) (zl1 : Nat) (zl2 : Nat) (za3 : Addr) (za4 : Addr) (zl5 : Nat) (n15 : Int) (nx0 : List Value → Hp → Prop) (j : Tm) : vc Pg W 35 rs_62 an_62 false (sub (bodyOf Try.f62) [1, 1, 0, 1, 0, 0]) 0 (KLoop [6] [1, 2, 4, 5, 35] [(.slice zp0 zl1 zl2), (.pointer (some za3)), (.slice none 0 0), (.slice (some za4) zl5 zl5), (.tuple #[])] nx0 (KBlk 0 (KS Pg W 35 rs_62 an_62 false (sub (bodyOf Try.f62) [1, 1, 1]) 0 (fin Pg W 35 rv_62 R)))) (known [6] [(.int .i64 n15)] (known [1, 2, 4, 5, 35] [(.slice zp0 zl1 zl2), (.pointer (some za3)), (.slice none 0 0), (.slice (some za4) zl5 zl5), (.tuple #[])] j)) = B_ref13_worths_0 W R zp0 zl1 zl2 za3 za4 zl5 n15 nx0 := by kernel_rfl
def N_ref13_worths_0 (I : Int → Hp → Prop) (μ : Int → Hp → Nat) (n150 : Int) (s : Hp) (vs : List Value) : Hp → Prop := fun s' => ∃ n15, vs = [(.int .i64 n15)] ∧ I n15 s' ∧ μ n15 s' < μ n150 s
theorem L_ref13_worths_0_rule (W : World) (R : Ending → Hp → Prop) (zp0 : Option Addr) (zl1 : Nat) (zl2 : Nat) (za3 : Addr) (za4 : Addr) (zl5 : Nat) (I : Int → Hp → Prop) (μ : Int → Hp → Nat) (n150 : Int) (s : Hp) (h0 : I n150 s)
    (hr : ∀ (n15 : Int) (s : Hp), I n15 s → B_ref13_worths_0 W R zp0 zl1 zl2 za3 za4 zl5 n15 (fun vs => N_ref13_worths_0 I μ n15 s vs) s) : L_ref13_worths_0 W R zp0 zl1 zl2 za3 za4 zl5 n150 s := by
  refine ⟨fun vs s => ∃ n15, vs = [(.int .i64 n15)] ∧ I n15 s, fun vs s => (match vs with | [.int _ n15] => μ n15 s | _ => 0), ⟨⟨⟨_, rfl⟩, trivial⟩, ⟨_, rfl, h0⟩⟩, ?_⟩
  intro n15 s hI j
  obtain ⟨n15', hy, hI⟩ := hI
  have hI' : I n15 s := by cases hy; exact hI
  have hh := hr n15 s hI'
  rw [← B_ref13_worths_0_eq W R zp0 zl1 zl2 za3 za4 zl5 n15 _ j] at hh
  refine vc_mono ?_ _ _ hh
  exact KLoop_mono (fun vs s' h => by obtain ⟨n151, rfl, h1, h2⟩ := h; exact ⟨⟨⟨_, rfl⟩, trivial⟩, ⟨_, rfl, h1⟩, h2⟩)
def T_ref13_worths (W : World) (x1 : Option Addr) (l2 : Nat) (c3 : Nat) (x4 : Option Addr) (l5 : Nat) (c6 : Nat) (x7 : Option Addr) (l8 : Nat) (c9 : Nat) (R : Ending → Hp → Prop) : Hp → Prop :=
  NEW 25 [(.slice x1 l2 c3), (.slice x4 l5 c6)] fun B10 =>
    RDL (Addr.add ⟨B10, 0, none⟩ 0) fun x11 l12 c13 =>
      MKS Pg 3 (↑l12 : Int) (↑l12 : Int) fun B14 =>
        L_ref13_worths_0 W R x7 l8 c9 ⟨B10, 0, none⟩ ⟨B14, 0, none⟩ (Int.toNat (↑l12 : Int)) 0
theorem T_ref13_worths_eq (W : World) (x1 : Option Addr) (l2 : Nat) (c3 : Nat) (x4 : Option Addr) (l5 : Nat) (c6 : Nat) (x7 : Option Addr) (l8 : Nat) (c9 : Nat) (R : Ending → Hp → Prop) : vfun Pg W an_62 Try.f62 [(.agg #[(.slice x1 l2 c3), (.slice x4 l5 c6)]), (.slice x7 l8 c9)] R = T_ref13_worths W x1 l2 c3 x4 l5 c6 x7 l8 c9 R := by kernel_rfl
theorem does_ref13_worths (W : World) (x1 : Option Addr) (l2 : Nat) (c3 : Nat) (x4 : Option Addr) (l5 : Nat) (c6 : Nat) (x7 : Option Addr) (l8 : Nat) (c9 : Nat) (R : Ending → Hp → Prop) (s : Hp) (h : T_ref13_worths W x1 l2 c3 x4 l5 c6 x7 l8 c9 R s) : Does Pg W F_ref13_worths #[(.agg #[(.slice x1 l2 c3), (.slice x4 l5 c6)]), (.slice x7 l8 c9)] s R :=
  does_of_vfun Pg W an_62 Try.func62 rfl (by kernel_rfl) (by rw [T_ref13_worths_eq]; exact h)
end Go.Proofs.Ytfaeokcbfnlgbaa.G

/- The document's functions of layer 13: Can, Due, Wrong, Club, Worth. -/
set_option linter.unusedSimpArgs false
set_option linter.unusedVariables false
set_option maxRecDepth 20000
namespace Go.Proofs.Ytfaeokcbfnlgbaa.G
open Go.V
section
variable {W : World} {K : VK} {E : List PanicEntry → Hp → Prop} {s : Hp} {T : PT}
theorem row_take {q : Option Addr} {ds : List Int} {k : Nat} (h : RowAt s q (ints ds)) : RowAt s (q.map (·.add ((0 : Int).toNat * 1))) (ints (ds.take k)) := fun i hi => by
  rw [ints_len, List.length_take] at hi
  obtain ⟨a, h1, h2⟩ := h i (by rw [ints_len]; omega)
  refine ⟨a, by rw [h1]; rfl, ?_⟩
  rw [ints_get] at h2 ⊢
  rw [List.getElem_take]
  exact h2
theorem f_Giving {x y q : Option Addr} {c c' cq : Nat} {ds : List Int} (h4 : T.n ≤ 100000) (hl : ds.length ≤ 100000) (hc : ds.length ≤ cq) (hq : RowAt s q (ints ds)) (h : ∀ s', Ext s s' → K (.bool (gvP T ds)) s') :
    CALL Pg W F_ref13_Giving [.agg #[.slice x T.n c, .slice y T.z c'], .slice q ds.length cq] K E s := by
  refine does_ref13_Giving W x T.n c y T.z c' q ds.length cq _ s ?_
  unfold T_ref13_Giving
  refine ne2 fun s1 e1 z1 o1 o2 => ?_
  have no : gvS T [] ds = false → ∀ t, Ext s1 t → (endK K E) (.returned (.bool false)) t := fun hf t et => by
    have := h t (e1.trans et)
    unfold gvP at this
    rw [hf, Bool.and_false] at this; exact this
  refine L_ref13_Giving_0_rule W _ q ds.length cq ⟨s.size, 0, none⟩ (fun _ n t => Ext s1 t ∧ ∃ k : Nat, k ≤ ds.length ∧ n = k ∧ gvS T [] ds = gvS T (ds.take k) (ds.drop k)) (fun _ n _ => (ds.length - n).toNat) false 0 s1 ⟨Ext.refl _, 0, by omega, rfl, rfl⟩ ?_
  rintro b n t ⟨et, k, hk, rfl, hgv⟩
  unfold B_ref13_Giving_0
  refine BR_dec (fun h1 => ?_) (fun h1 => ?_)
  · have hkl : k < ds.length := by omega
    have hqt := hq.ext (e1.trans et)
    obtain ⟨a, ha, g⟩ := row_int hqt hkl
    refine IXS_at ha hkl ?_
    refine ⟨_, g, ?_⟩
    have hstep := gvS_step (T := T) hkl
    generalize hd : ds.getD k 0 = d at *
    refine ⟨_, _, _, et.cell o1.cell, ?_⟩
    dsimp only
    rw [wrap_i64 (by omega) (by omega)]
    refine f_in ?_
    try simp only [TUP_mk, AGG_mk, HD_mk, NL_mk, TYI_mk, TYB_mk, TYP_mk, TYL_mk, TYS_mk, TYM_mk, SO_mk, NX_mk, endK_mk, endK_mk', add_0]
    have step : ((d == -1) || (decide (0 ≤ d ∧ d < T.n) && !decide (d ∈ ds.take k))) = false → gvS T [] ds = false := fun hf => by rw [hgv, hstep, hf]; rfl
    refine BR_not (fun h2 => no (step ?_) _ et) (fun h2 => ?_)
    · have h2' := of_decide_eq_false h2
      have e1' : (d == -1) = false := by have : ¬ d = -1 := by omega
                                         simpa using this
      have e2' : decide (0 ≤ d ∧ d < (T.n : Int)) = false := decide_eq_false (by omega)
      rw [e1', e2']; rfl
    have h2' := of_decide_eq_true h2
    refine IXS_at ha hkl ?_
    refine ⟨_, g, ?_⟩
    refine BR_dec (fun h3 => ?_) (fun h3 => ?_)
    · refine IXS_at ha hkl ?_
      refine ⟨_, g, ?_⟩
      refine ⟨⟨by omega, by omega, by omega⟩, ?_⟩
      have hcq : ¬ cq = (0 : Int).toNat := by show ¬ cq = 0; omega
      rw [if_neg hcq]
      refine ANDS_i ⟨_, g, rfl⟩ ?_
      refine f_has (ds := ds.take k) (row_take hqt) ?_ (by rw [List.length_take]; omega) ?_
      · rw [List.length_take, toNat_nat]; show k - 0 = _; omega
      try simp only [TUP_mk, AGG_mk, HD_mk, NL_mk, TYI_mk, TYB_mk, TYP_mk, TYL_mk, TYS_mk, TYM_mk, SO_mk, NX_mk, endK_mk, endK_mk', add_0]
      have e1' : (d == -1) = false := by have : ¬ d = -1 := by omega
                                         simpa using this
      have e2' : decide (0 ≤ d ∧ d < (T.n : Int)) = true := decide_eq_true (by omega)
      refine BR_dec (fun h5 => no (step ?_) _ et) (fun h5 => ?_)
      · rw [e1', e2', decide_eq_true h5]; rfl
      · refine ⟨_, _, rfl, ⟨et, k + 1, hkl, wrap_succ (by omega), ?_⟩, ms_succ hkl (by omega)⟩
        rw [hgv, hstep, e1', e2', decide_eq_false h5]; rfl
    · have hd1 : d = -1 := by omega
      refine ⟨_, _, rfl, ⟨et, k + 1, hkl, wrap_succ (by omega), ?_⟩, ms_succ hkl (by omega)⟩
      rw [hgv, hstep, hd1]; rfl
  · have hkl : k = ds.length := by omega
    subst hkl
    rw [List.drop_length] at hgv
    have hgs : gvS T [] ds = true := hgv
    refine ⟨_, _, _, et.cell o2.cell, ?_⟩
    have := h t (e1.trans et)
    unfold gvP at this
    rw [hgs, Bool.and_true] at this
    have e : ((ds.length : Int) == (T.z : Int)) = decide (ds.length = T.z) := by
      by_cases he : ds.length = T.z
      · rw [he]; simp
      · have : ¬ (ds.length : Int) = (T.z : Int) := by omega
        rw [decide_eq_false he]; simpa using this
    dsimp only
    rw [e]; exact this
theorem f_Fair {x y q : Option Addr} {c c' cq : Nat} {ds : List Int} (hx : MnAt s x T.men) (hy : PzAt s y T.list) (hlen : ds.length = T.z) (h6 : T.z ≤ 6) (hall : ∀ d ∈ ds, d = -1 ∨ (0 ≤ d ∧ d < T.n)) (hq : RowAt s q (ints ds)) (h : ∀ s', Ext s s' → K (.bool (fairP T ds)) s') :
    CALL Pg W F_ref13_Fair [.agg #[.slice x T.n c, .slice y T.z c'], .slice q ds.length cq] K E s := by
  refine does_ref13_Fair W x T.n c y T.z c' q ds.length cq _ s ?_
  unfold T_ref13_Fair
  refine ne2 fun s1 e1 z1 o1 o2 => ?_
  refine L_ref13_Fair_0_rule W _ q ds.length cq ⟨s.size, 0, none⟩ (fun _ n t => Ext s1 t ∧ ∃ k : Nat, k ≤ ds.length ∧ n = k ∧ ∀ j, j < k → ((ds.getD j 0 == -1) || canP T (ds.getD j 0).toNat j) = true) (fun _ n _ => (ds.length - n).toNat) false 0 s1 ⟨Ext.refl _, 0, by omega, rfl, fun j hj => by omega⟩ ?_
  rintro b n t ⟨et, k, hk, rfl, hsame⟩
  unfold B_ref13_Fair_0
  refine BR_dec (fun h1 => ?_) (fun h1 => ?_)
  · have hkl : k < ds.length := by omega
    have hqt := hq.ext (e1.trans et)
    obtain ⟨a, ha, g⟩ := row_int hqt hkl
    refine IXS_at ha hkl ?_
    refine ⟨_, g, ?_⟩
    have hdk := hall (ds.getD k 0) (by rw [getD_lt hkl]; exact List.getElem_mem hkl)
    generalize hnx : (fun vs : List Value => _) = nx
    have next : ∀ t', Ext t t' → ((ds.getD k 0 == -1) || canP T (ds.getD k 0).toNat k) = true → nx [(.bool b), (.int .i64 (IntKind.wrap .i64 ((k : Int) + 1)))] t' := by
      intro t' e' hb
      rw [← hnx]
      refine ⟨_, _, rfl, ⟨et.trans e', k + 1, hkl, wrap_succ (by omega), fun j hj => ?_⟩, ms_succ hkl (by omega)⟩
      by_cases e : j = k
      · subst e; exact hb
      · exact hsame j (by omega)
    refine BR_dec (fun h2 => ?_) (fun h2 => ?_)
    · refine ⟨_, _, _, et.cell o1.cell, _, _, _, et.cell o2.cell, ?_⟩
      refine IXS_at ha hkl ?_
      refine ⟨_, g, ?_⟩
      have hdk' : 0 ≤ ds.getD k 0 ∧ ds.getD k 0 < T.n := hdk.resolve_left (by omega)
      generalize hdd : ds.getD k 0 = d at *
      obtain ⟨m, rfl⟩ := Int.eq_ofNat_of_zero_le hdk'.1
      refine f_can (hx.ext (e1.trans et)) (hy.ext (e1.trans et)) (by omega) (by omega) fun t2 e2 => ?_
      try simp only [TUP_mk, AGG_mk, HD_mk, NL_mk, TYI_mk, TYB_mk, TYP_mk, TYL_mk, TYS_mk, TYM_mk, SO_mk, NX_mk, endK_mk, endK_mk', add_0]
      refine BR_not (fun h3 => ?_) (fun h3 => ?_)
      · have hf : fairP T ds = false := by
          unfold fairP
          rw [List.all_eq_false]
          refine ⟨k, List.mem_range.2 hkl, ?_⟩
          rw [hdd]
          have e1' : (((m : Nat) : Int) == -1) = false := by have : ¬ ((m : Nat) : Int) = -1 := by omega
                                                             simp
          rw [e1', toNat_nat, h3]; simp
        have := h t2 (e1.trans (et.trans e2))
        rw [hf] at this; exact this
      · exact next t2 e2 (by rw [toNat_nat, h3, Bool.or_true])
    · have hd1 : ds.getD k 0 = -1 := by rcases hdk with h | h; exact h; omega
      exact ⟨rfl, next t (Ext.refl _) (by rw [hd1]; rfl)⟩
  · have hkl : k = ds.length := by omega
    subst hkl
    have hf : fairP T ds = true := by
      unfold fairP
      rw [List.all_eq_true]
      intro j hj
      exact hsame j (List.mem_range.1 hj)
    have := h t (e1.trans et)
    rw [hf] at this
    exact this
end
end Go.Proofs.Ytfaeokcbfnlgbaa.G

/- The document's functions of layer 13: Can, Due, Wrong, Club, Worth. -/
set_option linter.unusedSimpArgs false
set_option linter.unusedVariables false
set_option maxRecDepth 20000
namespace Go.Proofs.Ytfaeokcbfnlgbaa.G
open Go.V
section
variable {W : World} {K : VK} {E : List PanicEntry → Hp → Prop} {s : Hp} {T : PT}
theorem f_Ints {x y : Option Addr} {c c' l l' : Nat} {a b : List Int} (hx : RowAt s x (ints a)) (hy : RowAt s y (ints b)) (hl : l = a.length) (hl' : l' = b.length) (h8 : a.length ≤ 100000) (h : K (.bool (decide (a = b))) s) : CALL Pg W F_ref13_Ints [.slice x l c, .slice y l' c'] K E s := by
  subst hl
  subst hl'
  refine does_ref13_Ints W x _ c y _ c' _ s ?_
  unfold T_ref13_Ints
  refine BR_ne (fun h1 => ?_) (fun h1 => ?_)
  · have : ¬ a = b := fun e => h1 (by rw [e])
    rw [decide_eq_false this] at h; exact h
  have hlen : a.length = b.length := by omega
  refine L_ref13_Ints_0_rule W _ x a.length c y b.length c' (fun _ n t => t = s ∧ ∃ k : Nat, k ≤ a.length ∧ n = k ∧ ∀ j, j < k → a.getD j 0 = b.getD j 0) (fun _ n _ => (a.length - n).toNat) false 0 s ⟨rfl, 0, by omega, rfl, fun j hj => by omega⟩ ?_
  rintro q n t ⟨rfl, k, hk, rfl, hsame⟩
  unfold B_ref13_Ints_0
  refine BR_dec (fun h2 => ?_) (fun h2 => ?_)
  · have hkl : k < a.length := by omega
    obtain ⟨p, hp, g⟩ := row_int hx hkl
    obtain ⟨p', hp', g'⟩ := row_int hy (show k < b.length by omega)
    refine IXS_at hp hkl ?_
    refine ⟨_, g, ?_⟩
    refine IXS_at hp' (by omega) ?_
    refine ⟨_, g', ?_⟩
    refine BR_ne (fun h3 => ?_) (fun h3 => ?_)
    · have : ¬ a = b := fun e => h3 (by rw [e])
      rw [decide_eq_false this] at h; exact h
    · refine ⟨rfl, _, _, rfl, ⟨rfl, k + 1, hkl, wrap_succ (by omega), fun j hj => ?_⟩, ms_succ hkl (by omega)⟩
      by_cases e : j = k
      · subst e; exact h3
      · exact hsame j (by omega)
  · have hab : a = b := by
      apply List.ext_getElem hlen
      intro j h3 h4
      have := hsame j (by omega)
      rw [getD_lt h3, getD_lt h4] at this
      exact this
    rw [decide_eq_true hab] at h; exact h
theorem f_worths {x y q : Option Addr} {c c' cq : Nat} {ds : List Int} (hx : MnAt s x T.men) (hy : PzAt s y T.list) (hok : okP T = true) (hl : ds.length = T.z) (hd : ∀ d ∈ ds, d = -1 ∨ (0 ≤ d ∧ d < T.n)) (hq : RowAt s q (ints ds)) (h : ∀ s' w c', Ext s s' → Fr s.size s' w T.n c' 1 (ints (worP T ds)) → K (.slice w T.n c') s') :
    CALL Pg W F_ref13_worths [.agg #[.slice x T.n c, .slice y T.z c'], .slice q ds.length cq] K E s := by
  have hv := okP_vd hok
  have h6 := hv.z6
  have h8 := hv.n8
  refine does_ref13_worths W x T.n c y T.z c' q ds.length cq _ s ?_
  unfold T_ref13_worths
  refine ne2 fun s0 e0 z0 o1 o2 => ?_
  refine ⟨_, _, _, o1.cell, ?_⟩
  dsimp only
  rw [toNat_nat]
  refine MKS_rule zc_3 (by omega) fun s1 e1 z1 n1 => ?_
  have e01 := e0.trans e1
  refine L_ref13_worths_0_rule W _ q ds.length cq ⟨s.size, 0, none⟩ ⟨s0.size, 0, none⟩ T.n (fun n t => Ext s0 t ∧ ∃ k : Nat, k ≤ ds.length ∧ n = k ∧ Buf t (some ⟨s0.size, 0, none⟩) T.n (ints (worL T ds k))) (fun n _ => (ds.length - n).toNat) 0 s1
    ⟨e1, 0, by omega, rfl, ?_⟩ ?_
  · refine ⟨by rw [ints_len, worL_len]; exact Nat.le_refl _, fun i hi => ⟨_, rfl, .int .i64 0, ?_, fun hh => ?_⟩⟩
    · rw [add_nil, Nat.zero_add]; exact n1 i hi
    · rw [ints_get hh]; simp [worL]
  rintro n t ⟨et, k, hk, rfl, hb⟩
  unfold B_ref13_worths_0
  have e0t := e0.trans et
  refine BR_dec (fun hlt => ?_) (fun hlt => ?_)
  · have hkl : k < ds.length := by omega
    have hkz : k < T.z := by omega
    obtain ⟨a, ha, g⟩ := row_int (hq.ext e0t) hkl
    refine IXS_at ha hkl ?_
    refine ⟨_, g, ?_⟩
    have hdk := hd (ds.getD k 0) (by rw [getD_lt hkl]; exact List.getElem_mem hkl)
    generalize hdd : ds.getD k 0 = d at *
    refine BR_dec (fun h3 => ?_) (fun h3 => ?_)
    · have hne : ¬ d = -1 := by omega
      have hdk' := hdk.resolve_left hne
      obtain ⟨m, rfl⟩ := Int.eq_ofNat_of_zero_le hdk'.1
      have hm : m < T.n := by omega
      obtain ⟨az, w0, w1, w2⟩ := pz_row (hy.ext e0t) hkz
      refine IXS_at ha hkl ?_
      refine ⟨_, g, ?_⟩
      refine ⟨_, _, _, et.cell o2.cell, ?_⟩
      refine IXS_at w0 hkz ?_
      refine ⟨_, w2, ?_⟩
      refine IXS_nat hm ?_
      have hmi : m < (ints (worL T ds k)).length := by rw [ints_len, worL_len]; exact hm
      have hat := hb.at hmi
      have hset := hb.set (v := .int .i64 (T.pz k).worth) hmi
      rw [Nat.mul_one]
      refine WR_own hat rfl ?_
      unfold J_ref13_worths_0
      refine ⟨rfl, _, rfl, ⟨Ext.setC et (by rw [add_0, add_blk]; exact Nat.le_refl _), k + 1, hkl, wrap_succ (by omega), ?_⟩, ms_succ hkl (by omega)⟩
      have e : ints (worL T ds (k + 1)) = (ints (worL T ds k)).set m (.int .i64 (T.pz k).worth) := by
        conv => lhs; unfold worL
        rw [hdd, if_neg hne, toNat_nat]
        unfold ints
        rw [List.map_set]
      rw [e]; exact hset
    · have h3' : d = -1 := by rcases hdk with h | h; exact h; omega
      unfold J_ref13_worths_0
      refine ⟨rfl, _, rfl, ⟨et, k + 1, hkl, wrap_succ (by omega), ?_⟩, ms_succ hkl (by omega)⟩
      have e : worL T ds (k + 1) = worL T ds k := by
        conv => lhs; unfold worL
        rw [hdd, if_pos h3']
      rw [e]; exact hb
  · have hkl : k = ds.length := by omega
    subst hkl
    refine h t _ _ e0t ⟨by rw [Nat.mul_one]; exact hb, by rw [ints_len, Nat.mul_one]; exact worL_len _ _ _, fun a ha => by cases ha; exact e0.1, by omega⟩
theorem f_Can {x y : Option Addr} {c c' : Nat} {m z : Int} (h4 : T.n ≤ 100000) (h5 : T.z ≤ 100000) (hx : MnAt s x T.men) (hy : PzAt s y T.list) (h : ∀ s', Ext s s' → K (.tuple #[.bool (canR T m z).1, .int .i64 (canR T m z).2]) s') :
    CALL Pg W F_ref13_Can [.agg #[.slice x T.n c, .slice y T.z c'], .int .i64 m, .int .i64 z] K E s := by
  refine does_ref13_Can W x T.n c y T.z c' m z _ s ?_
  unfold T_ref13_Can
  refine ne2 fun s1 e1 z1 o1 o2 => ?_
  refine ⟨_, _, _, o1.cell, _, _, _, o2.cell, _, _, _, o1.cell, _, _, _, o2.cell, ?_⟩
  refine f_Man h4 fun s2 e2 => ?_
  try simp only [TUP_mk, AGG_mk, HD_mk, NL_mk, TYI_mk, TYB_mk, TYP_mk, TYL_mk, TYS_mk, TYM_mk, SO_mk, NX_mk, endK_mk, endK_mk', add_0]
  refine ANDS_i ⟨_, _, _, e2.cell o1.cell, _, _, _, e2.cell o2.cell, rfl⟩ ?_
  have fin : ∀ t b, Ext s1 t → b = (isM T m && isZ T z) → J_ref13_Can_0 W (endK K E) x T.n c y T.z c' b s.size m z t := by
    intro t b et hb
    unfold J_ref13_Can_0
    have e0t := e1.trans et
    refine f_check (hx.ext e0t) (hy.ext e0t) fun t2 e2 => ?_
    try simp only [TUP_mk, AGG_mk, HD_mk, NL_mk, TYI_mk, TYB_mk, TYP_mk, TYL_mk, TYS_mk, TYM_mk, SO_mk, NX_mk, endK_mk, endK_mk', add_0]
    have hh := fun t3 (e3 : Ext t2 t3) => h t3 (e0t.trans (e2.trans e3))
    unfold canR at hh
    cases hok : okP T with
    | false =>
      rw [hok] at hh
      refine BR_ne (fun _ => hh t2 (Ext.refl _)) (fun h3 => by cases h3)
    | true =>
      rw [hok] at hh
      cases hbb : b with
      | false =>
        rw [← hb, hbb] at hh
        refine BR_ne (fun _ => hh t2 (Ext.refl _)) (fun h3 => by cases h3)
      | true =>
        rw [← hb, hbb] at hh
        rw [hbb] at hb
        have hb' := hb.symm
        simp only [Bool.and_eq_true] at hb'
        obtain ⟨g1, g2⟩ := hb'
        have hi := (of_decide_eq_true g1)
        have hj := (of_decide_eq_true g2)
        obtain ⟨i, rfl⟩ := Int.eq_ofNat_of_zero_le hi.1
        obtain ⟨j, rfl⟩ := Int.eq_ofNat_of_zero_le hj.1
        refine BR_ne (fun h3 => absurd rfl h3) (fun _ => ?_)
        have e12 := et.trans e2
        refine ⟨_, _, _, e12.cell o1.cell, _, _, _, e12.cell o2.cell, ?_⟩
        refine f_can (hx.ext (e1.trans e12)) (hy.ext (e1.trans e12)) (by omega) (by omega) fun t3 e3 => ?_
        try simp only [TUP_mk, AGG_mk, HD_mk, NL_mk, TYI_mk, TYB_mk, TYP_mk, TYL_mk, TYS_mk, TYM_mk, SO_mk, NX_mk, endK_mk, endK_mk', add_0]
        exact hh t3 e3
  refine BR_bool (fun h1 => ?_) (fun h1 => ?_)
  · refine ⟨_, _, _, e2.cell o1.cell, _, _, _, e2.cell o2.cell, ?_⟩
    refine f_Prize h5 fun s3 e3 => ?_
    try simp only [TUP_mk, AGG_mk, HD_mk, NL_mk, TYI_mk, TYB_mk, TYP_mk, TYL_mk, TYS_mk, TYM_mk, SO_mk, NX_mk, endK_mk, endK_mk', add_0]
    have e23 := e2.trans e3
    refine ANDS_i ⟨_, _, _, e23.cell o1.cell, _, _, _, e23.cell o2.cell, rfl⟩ ?_
    refine fin s3 _ e23 ?_
    unfold isM isZ
    rw [h1]; rfl
  · refine fin s2 _ e2 ?_
    unfold isM
    rw [h1]; rfl
theorem f_Due {x y : Option Addr} {c c' : Nat} (hx : MnAt s x T.men) (hy : PzAt s y T.list) (h : ∀ s' q cq, Ext s s' → Fr s.size s' q (dueR T).1.length cq 1 (ints (dueR T).1) → K (.tuple #[.slice q (dueR T).1.length cq, .int .i64 (dueR T).2]) s') :
    CALL Pg W F_ref13_Due [.agg #[.slice x T.n c, .slice y T.z c']] K E s := by
  refine does_ref13_Due W x T.n c y T.z c' _ s ?_
  unfold T_ref13_Due
  refine ne2 fun s1 e1 z1 o1 o2 => ?_
  refine ⟨_, _, _, o1.cell, _, _, _, o2.cell, ?_⟩
  refine f_check (hx.ext e1) (hy.ext e1) fun s2 e2 => ?_
  try simp only [TUP_mk, AGG_mk, HD_mk, NL_mk, TYI_mk, TYB_mk, TYP_mk, TYL_mk, TYS_mk, TYM_mk, SO_mk, NX_mk, endK_mk, endK_mk', add_0]
  have e02 := e1.trans e2
  cases hok : okP T with
  | false =>
    refine BR_ne (fun _ => ?_) (fun h3 => by cases h3)
    have := h s2 none 0 e02
    unfold dueR at this
    rw [hok] at this
    exact this (Fr.nil _ _ _)
  | true =>
    refine BR_ne (fun h3 => absurd rfl h3) (fun _ => ?_)
    refine ⟨_, _, _, e2.cell o1.cell, _, _, _, e2.cell o2.cell, ?_⟩
    refine f_due hok (hx.ext e02) (hy.ext e02) fun s3 q cq e3 f3 => ?_
    try simp only [TUP_mk, AGG_mk, HD_mk, NL_mk, TYI_mk, TYB_mk, TYP_mk, TYL_mk, TYS_mk, TYM_mk, SO_mk, NX_mk, endK_mk, endK_mk', add_0]
    have hlen : (dueR T).1.length = T.z := by unfold dueR manL dueP; rw [if_pos hok]; simp [dueL_len]
    have := h s3 q cq (e02.trans e3) (by
      rw [hlen]
      unfold dueR
      rw [if_pos hok]
      exact f3.le e02.1)
    rw [hlen] at this
    unfold dueR at this
    rw [if_pos hok] at this
    exact this
theorem f_Club {x y : Option Addr} {c c' : Nat} (hx : MnAt s x T.men) (hy : PzAt s y T.list) (h : ∀ s', Ext s s' → K (.tuple #[.int .i64 (clubR T).1, .int .i64 (clubR T).2.1, .int .i64 (clubR T).2.2]) s') :
    CALL Pg W F_ref13_Club [.agg #[.slice x T.n c, .slice y T.z c']] K E s := by
  refine does_ref13_Club W x T.n c y T.z c' _ s ?_
  unfold T_ref13_Club
  refine ne2 fun s1 e1 z1 o1 o2 => ?_
  refine ⟨_, _, _, o1.cell, _, _, _, o2.cell, ?_⟩
  refine f_check (hx.ext e1) (hy.ext e1) fun s2 e2 => ?_
  try simp only [TUP_mk, AGG_mk, HD_mk, NL_mk, TYI_mk, TYB_mk, TYP_mk, TYL_mk, TYS_mk, TYM_mk, SO_mk, NX_mk, endK_mk, endK_mk', add_0]
  have e02 := e1.trans e2
  cases hok : okP T with
  | false =>
    refine BR_ne (fun _ => ?_) (fun h3 => by cases h3)
    have := h s2 e02
    unfold clubR at this
    rw [hok] at this
    exact this
  | true =>
    have hv := okP_vd hok
    refine BR_ne (fun h3 => absurd rfl h3) (fun _ => ?_)
    refine ⟨_, _, _, e2.cell o1.cell, _, _, _, e2.cell o2.cell, ?_⟩
    refine f_best hok (hx.ext e02) (hy.ext e02) fun s3 e3 => ?_
    try simp only [TUP_mk, AGG_mk, HD_mk, NL_mk, TYI_mk, TYB_mk, TYP_mk, TYL_mk, TYS_mk, TYM_mk, SO_mk, NX_mk, endK_mk, endK_mk', add_0]
    have e23 := e2.trans e3
    have hb : bestP T = (0, 0) ∨ (1 ≤ (bestP T).1 ∧ sumC T.n (places T (bestP T).1) = some (bestP T).2) := by
      by_cases hne : clubsL T 5 = []
      · left; unfold bestP; rw [hne]; rfl
      · right
        have := clubs_mem (firstL_mem _ hne)
        exact ⟨this.1.1, this.2⟩
    refine BR_eq (fun h3 => ?_) (fun h3 => ?_)
    · have he : bestP T = (0, 0) := hb.resolve_right (fun hh => by omega)
      have := h s3 (e02.trans e3)
      unfold clubR at this
      rw [if_pos hok, if_pos he] at this
      exact this
    · have hne : ¬ bestP T = (0, 0) := fun he => h3 (by rw [he])
      have hs := (hb.resolve_left hne).2
      refine ⟨_, _, _, e23.cell o1.cell, _, _, _, e23.cell o2.cell, ?_⟩
      refine f_sum hok (hx.ext (e1.trans e23)) (hy.ext (e1.trans e23)) fun s4 e4 => ?_
      try simp only [TUP_mk, AGG_mk, HD_mk, NL_mk, TYI_mk, TYB_mk, TYP_mk, TYL_mk, TYS_mk, TYM_mk, SO_mk, NX_mk, endK_mk, endK_mk', add_0]
      have := h s4 (e1.trans (e23.trans e4))
      unfold clubR at this
      rw [if_pos hok, if_neg hne] at this
      rw [hs]
      exact this
theorem f_Wrong {x y q : Option Addr} {c c' cq : Nat} {ds : List Int} (h4 : T.n ≤ 100000) (hl : ds.length ≤ 100000) (hc : ds.length ≤ cq) (hx : MnAt s x T.men) (hy : PzAt s y T.list) (hq : RowAt s q (ints ds)) (h : ∀ s', Ext s s' → K (.tuple #[.int .i64 (wrongR T ds).1, .int .i64 (wrongR T ds).2.1, .int .i64 (wrongR T ds).2.2]) s') :
    CALL Pg W F_ref13_Wrong [.agg #[.slice x T.n c, .slice y T.z c'], .slice q ds.length cq] K E s := by
  refine does_ref13_Wrong W x T.n c y T.z c' q ds.length cq _ s ?_
  unfold T_ref13_Wrong
  refine ne2 fun s1 e1 z1 o1 o2 => ?_
  refine ⟨_, _, _, o1.cell, _, _, _, o2.cell, _, _, _, o1.cell, _, _, _, o2.cell, ?_⟩
  refine f_Giving h4 hl hc (hq.ext e1) fun s2 e2 => ?_
  try simp only [TUP_mk, AGG_mk, HD_mk, NL_mk, TYI_mk, TYB_mk, TYP_mk, TYL_mk, TYS_mk, TYM_mk, SO_mk, NX_mk, endK_mk, endK_mk', add_0]
  have e02 := e1.trans e2
  refine ANDS_i ⟨_, _, _, e2.cell o1.cell, _, _, _, e2.cell o2.cell, rfl⟩ ?_
  refine f_check (hx.ext e02) (hy.ext e02) fun s3 e3 => ?_
  try simp only [TUP_mk, AGG_mk, HD_mk, NL_mk, TYI_mk, TYB_mk, TYP_mk, TYL_mk, TYS_mk, TYM_mk, SO_mk, NX_mk, endK_mk, endK_mk', add_0]
  have e03 := e02.trans e3
  have e13 := e2.trans e3
  have hh := fun t (e : Ext s3 t) => h t (e03.trans e)
  unfold wrongR at hh
  cases hok : okP T with
  | false =>
    rw [hok] at hh
    exact BR_ne (fun _ => hh s3 (Ext.refl _)) (fun h3 => by cases h3)
  | true =>
    rw [hok] at hh
    cases hg : gvP T ds with
    | false =>
      rw [hg] at hh
      exact BR_ne (fun _ => hh s3 (Ext.refl _)) (fun h3 => by cases h3)
    | true =>
      rw [hg] at hh
      refine BR_ne (fun h3 => absurd rfl h3) (fun _ => ?_)
      refine ⟨_, _, _, e13.cell o1.cell, _, _, _, e13.cell o2.cell, ?_⟩
      refine f_due hok (hx.ext e03) (hy.ext e03) fun s4 w cw e4 f4 => ?_
      try simp only [TUP_mk, AGG_mk, HD_mk, NL_mk, TYI_mk, TYB_mk, TYP_mk, TYL_mk, TYS_mk, TYM_mk, SO_mk, NX_mk, endK_mk, endK_mk', add_0]
      have hz : ds.length = T.z := by unfold gvP at hg; simp only [Bool.and_eq_true, decide_eq_true_eq] at hg; exact hg.1
      have hw : (manL (dueP T)).length = T.z := by unfold manL dueP; simp [dueL_len]
      have hh4 := hh s4 e4
      simp only [if_true] at hh4
      have hq4 := hq.ext (e03.trans e4)
      refine L_ref13_Wrong_0_rule W _ q ds.length cq w T.z cw (fun _ _ _ n t => t = s4 ∧ ∃ k : Nat, k ≤ T.z ∧ n = k ∧ ∀ j, j < k → ds.getD j 0 = (manL (dueP T)).getD j 0) (fun _ _ _ n _ => (T.z - n).toNat) 0 0 0 0 s4 ⟨rfl, 0, by omega, rfl, fun j hj => by omega⟩ ?_
      rintro a1 a2 a3 n t ⟨rfl, k, hk, rfl, hsame⟩
      unfold B_ref13_Wrong_0
      refine BR_dec (fun hlt => ?_) (fun hlt => ?_)
      · have hkz : k < T.z := by omega
        obtain ⟨a, ha, g⟩ := row_int f4.row (by omega : k < (manL (dueP T)).length)
        obtain ⟨b, hb, g'⟩ := row_int hq4 (by omega : k < ds.length)
        refine IXS_at hb (by omega) ?_
        refine ⟨_, g', ?_⟩
        refine IXS_at ha hkz ?_
        refine ⟨_, g, ?_⟩
        refine BR_ne (fun h3 => ?_) (fun h3 => ?_)
        · refine IXS_at ha hkz ?_
          refine ⟨_, g, ?_⟩
          refine ANDS_i ⟨_, g, rfl⟩ ?_
          have hf : (List.range T.z).find? (fun i => ds.getD i 0 != (manL (dueP T)).getD i 0) = some k := by
            refine find_at (k := k) (List.getElem?_range hkz) (bne_iff_ne.2 h3) fun j x hj hx => ?_
            have : x = j := by rw [List.getElem?_range (by omega)] at hx; exact (Option.some.inj hx).symm
            subst this
            rw [hsame x hj]; simp
          unfold wrongP at hh4
          rw [hf] at hh4
          exact hh4
        · refine ⟨rfl, _, _, _, _, rfl, ⟨rfl, k + 1, hkz, wrap_succ (by omega), fun j hj => ?_⟩, ms_succ hkz (by omega)⟩
          by_cases e : j = k
          · subst e; exact h3
          · exact hsame j (by omega)
      · have hkz : k = T.z := by omega
        subst hkz
        have hf : (List.range T.z).find? (fun i => ds.getD i 0 != (manL (dueP T)).getD i 0) = none := by
          refine find_no fun j x hj hx => ?_
          rw [List.length_range] at hj
          have : x = j := by rw [List.getElem?_range hj] at hx; exact (Option.some.inj hx).symm
          subst this
          rw [hsame x hj]; simp
        unfold wrongP at hh4
        rw [hf] at hh4
        exact hh4
theorem f_Worth {x y q : Option Addr} {c c' cq : Nat} {ds : List Int} (h4 : T.n ≤ 100000) (hl : ds.length ≤ 100000) (hc : ds.length ≤ cq) (hx : MnAt s x T.men) (hy : PzAt s y T.list) (hq : RowAt s q (ints ds)) (h : ∀ s' w cw, Ext s s' → Fr s.size s' w (worthR T ds).1.length cw 1 (ints (worthR T ds).1) → K (.tuple #[.slice w (worthR T ds).1.length cw, .int .i64 (worthR T ds).2.1, .int .i64 (worthR T ds).2.2]) s') :
    CALL Pg W F_ref13_Worth [.agg #[.slice x T.n c, .slice y T.z c'], .slice q ds.length cq] K E s := by
  refine does_ref13_Worth W x T.n c y T.z c' q ds.length cq _ s ?_
  unfold T_ref13_Worth
  refine ne2 fun s1 e1 z1 o1 o2 => ?_
  refine ⟨_, _, _, o1.cell, _, _, _, o2.cell, _, _, _, o1.cell, _, _, _, o2.cell, ?_⟩
  refine f_Giving h4 hl hc (hq.ext e1) fun s2 e2 => ?_
  try simp only [TUP_mk, AGG_mk, HD_mk, NL_mk, TYI_mk, TYB_mk, TYP_mk, TYL_mk, TYS_mk, TYM_mk, SO_mk, NX_mk, endK_mk, endK_mk', add_0]
  have e02 := e1.trans e2
  refine ANDS_i ⟨_, _, _, e2.cell o1.cell, _, _, _, e2.cell o2.cell, rfl⟩ ?_
  refine f_check (hx.ext e02) (hy.ext e02) fun s3 e3 => ?_
  try simp only [TUP_mk, AGG_mk, HD_mk, NL_mk, TYI_mk, TYB_mk, TYP_mk, TYL_mk, TYS_mk, TYM_mk, SO_mk, NX_mk, endK_mk, endK_mk', add_0]
  have e03 := e02.trans e3
  have e13 := e2.trans e3
  have hh := fun t w cw (e : Ext s3 t) => h t w cw (e03.trans e)
  unfold worthR at hh
  cases hok : okP T with
  | false =>
    rw [hok] at hh
    exact BR_ne (fun _ => hh s3 none 0 (Ext.refl _) (Fr.nil _ _ _)) (fun h3 => by cases h3)
  | true =>
    rw [hok] at hh
    cases hg : gvP T ds with
    | false =>
      rw [hg] at hh
      exact BR_ne (fun _ => hh s3 none 0 (Ext.refl _) (Fr.nil _ _ _)) (fun h3 => by cases h3)
    | true =>
      rw [hg] at hh
      refine BR_ne (fun h3 => absurd rfl h3) (fun _ => ?_)
      refine ⟨_, _, _, e13.cell o1.cell, _, _, _, e13.cell o2.cell, ?_⟩
      have hz : ds.length = T.z := by unfold gvP at hg; simp only [Bool.and_eq_true, decide_eq_true_eq] at hg; exact hg.1
      have hgs : gvS T [] ds = true := by unfold gvP at hg; simp only [Bool.and_eq_true, decide_eq_true_eq] at hg; exact hg.2
      have hall := gvS_all ds [] hgs
      have hv := okP_vd hok
      have h6 := hv.z6
      have h8 := hv.n8
      refine f_Fair (hx.ext e03) (hy.ext e03) hz h6 hall (hq.ext e03) fun s4 e4 => ?_
      try simp only [TUP_mk, AGG_mk, HD_mk, NL_mk, TYI_mk, TYB_mk, TYP_mk, TYL_mk, TYS_mk, TYM_mk, SO_mk, NX_mk, endK_mk, endK_mk', add_0]
      have e04 := e03.trans e4
      have e14 := e13.trans e4
      cases hf : fairP T ds with
      | false =>
        rw [hf] at hh
        exact BR_tt rfl (hh s4 none 0 e4 (Fr.nil _ _ _))
      | true =>
        rw [hf] at hh
        refine BR_ff rfl ?_
        refine ⟨_, _, _, e14.cell o1.cell, _, _, _, e14.cell o2.cell, ?_⟩
        refine f_worths (hx.ext e04) (hy.ext e04) hok hz hall (hq.ext e04) fun s5 w cw e5 f5 => ?_
        try simp only [TUP_mk, AGG_mk, HD_mk, NL_mk, TYI_mk, TYB_mk, TYP_mk, TYL_mk, TYS_mk, TYM_mk, SO_mk, NX_mk, endK_mk, endK_mk', add_0]
        have hbd := worP_bd hok hz
        have hpl : (worP T ds).length = T.n := worP_len
        have hsum : ∀ k, k ≤ T.n → 0 ≤ ((worP T ds).take k).sum ∧ ((worP T ds).take k).sum ≤ 1000 * k := by
          intro k
          induction k with
          | zero => intro _; simp
          | succ k ih =>
            intro hk
            have ih := ih (by omega)
            have hkl : k < (worP T ds).length := by omega
            rw [List.take_add_one, List.getElem?_eq_getElem hkl]
            have := hbd _ (List.getElem_mem hkl)
            simp only [Option.toList_some, List.sum_append, List.sum_cons, List.sum_nil]
            omega
        refine L_ref13_Worth_0_rule W _ w T.n cw (fun a n t => t = s5 ∧ ∃ k : Nat, k ≤ T.n ∧ n = k ∧ a = ((worP T ds).take k).sum) (fun _ n _ => (T.n - n).toNat) 0 0 s5 ⟨rfl, 0, by omega, rfl, by simp⟩ ?_
        rintro a n t ⟨rfl, k, hk, rfl, rfl⟩
        unfold B_ref13_Worth_0
        refine BR_dec (fun hlt => ?_) (fun hlt => ?_)
        · have hkn : k < T.n := by omega
          have hkl : k < (worP T ds).length := by omega
          obtain ⟨p, hp, g⟩ := row_int f5.row hkl
          refine IXS_at hp hkn ?_
          refine ⟨_, g, ?_⟩
          have hs := hsum (k + 1) (by omega)
          have e : ((worP T ds).take (k + 1)).sum = ((worP T ds).take k).sum + (worP T ds).getD k 0 := by
            rw [getD_lt hkl, List.take_add_one, List.getElem?_eq_getElem hkl, List.sum_append]
            show ((worP T ds).take k).sum + ([(worP T ds)[k]] : List Int).sum = _
            rw [List.sum_cons, List.sum_nil, Int.add_zero]
          rw [e] at hs
          refine ⟨rfl, _, _, rfl, ⟨rfl, k + 1, hkn, wrap_succ (by omega), ?_⟩, ms_succ hkn (by omega)⟩
          rw [e, wrap_i64 (by omega) (by omega)]
        · have hkn : k = T.n := by omega
          subst hkn
          have ht : (worP T ds).take T.n = worP T ds := by rw [← hpl, List.take_length]
          rw [ht]
          have := hh t w cw (e4.trans e5)
          simp only [if_true] at this
          rw [hpl] at this
          exact this (f5.le e04.1)
end
end Go.Proofs.Ytfaeokcbfnlgbaa.G

/- More of the functions' shallow texts, by gen.py. -/
set_option linter.unusedVariables false
set_option maxRecDepth 100000
namespace Go.Proofs.Ytfaeokcbfnlgbaa.G
open Go.V
def an_13 : Nat → Ann := fun b => match b with
  | _ => {}
abbrev rv_13 : List ResultVar := [.tmp 4]
abbrev rs_13 : List Nat := [20, 4]
def T_law13_far (W : World) (x1 : Option Addr) (l2 : Nat) (c3 : Nat) (x4 : Option Addr) (l5 : Nat) (c6 : Nat) (x7 : Option Addr) (l8 : Nat) (c9 : Nat) (R : Ending → Hp → Prop) : Hp → Prop :=
  NEW 25 [(.slice x1 l2 c3), (.slice x4 l5 c6)] fun B10 =>
    RDL (Addr.add ⟨B10, 0, none⟩ 0) fun x11 l12 c13 =>
      BR (decide ((↑l12 : Int) > 40))
        (R (.returned (.bool true)))
        (RDL (Addr.add ⟨B10, 0, none⟩ 1) fun x14 l15 c16 =>
          BR (decide ((↑l15 : Int) > 40))
            (R (.returned (.bool true)))
            (R (.returned (.bool (decide ((↑l8 : Int) > 40))))))
theorem T_law13_far_eq (W : World) (x1 : Option Addr) (l2 : Nat) (c3 : Nat) (x4 : Option Addr) (l5 : Nat) (c6 : Nat) (x7 : Option Addr) (l8 : Nat) (c9 : Nat) (R : Ending → Hp → Prop) : vfun Pg W an_13 Try.f13 [(.agg #[(.slice x1 l2 c3), (.slice x4 l5 c6)]), (.slice x7 l8 c9)] R = T_law13_far W x1 l2 c3 x4 l5 c6 x7 l8 c9 R := by kernel_rfl
theorem does_law13_far (W : World) (x1 : Option Addr) (l2 : Nat) (c3 : Nat) (x4 : Option Addr) (l5 : Nat) (c6 : Nat) (x7 : Option Addr) (l8 : Nat) (c9 : Nat) (R : Ending → Hp → Prop) (s : Hp) (h : T_law13_far W x1 l2 c3 x4 l5 c6 x7 l8 c9 R s) : Does Pg W F_law13_far #[(.agg #[(.slice x1 l2 c3), (.slice x4 l5 c6)]), (.slice x7 l8 c9)] s R :=
  does_of_vfun Pg W an_13 Try.func13 rfl (by kernel_rfl) (by rw [T_law13_far_eq]; exact h)
def an_41 : Nat → Ann := fun b => match b with
  | _ => {}
abbrev rv_41 : List ResultVar := [.cell 0 25]
abbrev rs_41 : List Nat := [14, 0]
def T_law13_sample (W : World) (R : Ending → Hp → Prop) : Hp → Prop :=
  NEWZ Pg 25 fun B1 =>
    NEW 48 [(.int .i64 2), (.int .i64 1), (.bool false), (.bool false), (.int .i64 1), (.int .i64 2), (.bool false), (.bool false), (.int .i64 3), (.int .i64 1), (.bool true), (.bool false), (.int .i64 5), (.int .i64 0), (.bool true), (.bool true), (.int .i64 4), (.int .i64 2), (.bool false), (.bool true)] fun B2 =>
      NEW 50 [(.int .i64 0), (.int .i64 100), (.int .i64 1), (.int .i64 50), (.int .i64 4), (.int .i64 80), (.int .i64 2), (.int .i64 40), (.int .i64 3), (.int .i64 20)] fun B3 =>
        WR (Addr.add ⟨B1, 0, none⟩ 0) (.slice (some ⟨B2, 0, none⟩) 5 5) <|
          WR (Addr.add ⟨B1, 0, none⟩ 1) (.slice (some ⟨B3, 0, none⟩) 5 5) <|
            RDL (Addr.add ⟨B1, 0, none⟩ 0) fun x4 l5 c6 =>
              RDL (Addr.add ⟨B1, 0, none⟩ 1) fun x7 l8 c9 =>
                R (.returned (.agg #[(.slice x4 l5 c6), (.slice x7 l8 c9)]))
theorem T_law13_sample_eq (W : World) (R : Ending → Hp → Prop) : vfun Pg W an_41 Try.f41 [] R = T_law13_sample W R := by kernel_rfl
theorem does_law13_sample (W : World) (R : Ending → Hp → Prop) (s : Hp) (h : T_law13_sample W R s) : Does Pg W F_law13_sample #[] s R :=
  does_of_vfun Pg W an_41 Try.func41 rfl (by kernel_rfl) (by rw [T_law13_sample_eq]; exact h)
end Go.Proofs.Ytfaeokcbfnlgbaa.G

/- More of the functions' shallow texts, by gen.py. -/
set_option linter.unusedVariables false
set_option maxRecDepth 100000
namespace Go.Proofs.Ytfaeokcbfnlgbaa.G
open Go.V
def an_14 : Nat → Ann := fun b => match b with
  | _ => {}
abbrev rv_14 : List ResultVar := [.tmp 0]
abbrev rs_14 : List Nat := [147, 0]
def J_law13_awake_0 (W : World) (R : Ending → Hp → Prop) (b212 : Bool) (n151 : Int) (n170 : Int) (n173 : Int) (n192 : Int) (n195 : Int) : Hp → Prop :=
  BR b212
    (BR (n151 == 0)
      (BR (n170 == 24)
        (BR (n173 == 0)
          (BR (n192 == 3)
            (R (.returned (.bool (n195 == 0))))
            (R (.returned (.bool false))))
          (R (.returned (.bool false))))
        (R (.returned (.bool false))))
      (R (.returned (.bool false))))
    (R (.returned (.bool false)))
def J_law13_awake_1 (W : World) (R : Ending → Hp → Prop) (b207 : Bool) (n143 : Int) (x146 : Option Addr) (l147 : Nat) (c148 : Nat) (n151 : Int) (n170 : Int) (n173 : Int) (n192 : Int) (n195 : Int) : Hp → Prop :=
  BR b207
    (R (.returned (.bool false)))
    (BR (n143 == 5)
      (NEW 3 [(.int .i64 0), (.int .i64 2), (.int .i64 1), (.int .i64 4), (.int .i64 3)] fun B208 =>
        CALL Pg W F_ref13_Ints [(.slice x146 l147 c148), (.slice (some ⟨B208, 0, none⟩) 5 5)]
          (fun v209 => TYB v209 fun b211 =>
            J_law13_awake_0 W R b211 n151 n170 n173 n192 n195)
            (fun e210 => R (.panicked e210)))
      (J_law13_awake_0 W R false n151 n170 n173 n192 n195))
def J_law13_awake_2 (W : World) (R : Ending → Hp → Prop) (b206 : Bool) (n143 : Int) (x146 : Option Addr) (l147 : Nat) (c148 : Nat) (n151 : Int) (n170 : Int) (n173 : Int) (n192 : Int) (n195 : Int) (n124 : Int) : Hp → Prop :=
  BR b206
    (J_law13_awake_1 W R true n143 x146 l147 c148 n151 n170 n173 n192 n195)
    (J_law13_awake_1 W R (n124 != 0) n143 x146 l147 c148 n151 n170 n173 n192 n195)
def J_law13_awake_3 (W : World) (R : Ending → Hp → Prop) (b205 : Bool) (n143 : Int) (x146 : Option Addr) (l147 : Nat) (c148 : Nat) (n151 : Int) (n170 : Int) (n173 : Int) (n192 : Int) (n195 : Int) (n124 : Int) (n121 : Int) : Hp → Prop :=
  BR b205
    (J_law13_awake_2 W R true n143 x146 l147 c148 n151 n170 n173 n192 n195 n124)
    (J_law13_awake_2 W R (n121 != 290) n143 x146 l147 c148 n151 n170 n173 n192 n195 n124)
def J_law13_awake_4 (W : World) (R : Ending → Hp → Prop) (b204 : Bool) (n143 : Int) (x146 : Option Addr) (l147 : Nat) (c148 : Nat) (n151 : Int) (n170 : Int) (n173 : Int) (n192 : Int) (n195 : Int) (n124 : Int) (n121 : Int) (x116 : Option Addr) (l117 : Nat) (c118 : Nat) : Hp → Prop :=
  BR b204
    (J_law13_awake_3 W R true n143 x146 l147 c148 n151 n170 n173 n192 n195 n124 n121)
    (NEW 3 [(.int .i64 80), (.int .i64 100), (.int .i64 50), (.int .i64 20), (.int .i64 40)] fun B213 =>
      CALL Pg W F_ref13_Ints [(.slice x116 l117 c118), (.slice (some ⟨B213, 0, none⟩) 5 5)]
        (fun v214 => TYB v214 fun b216 =>
          J_law13_awake_3 W R (!b216) n143 x146 l147 c148 n151 n170 n173 n192 n195 n124 n121)
          (fun e215 => R (.panicked e215)))
def J_law13_awake_5 (W : World) (R : Ending → Hp → Prop) (b203 : Bool) (n143 : Int) (x146 : Option Addr) (l147 : Nat) (c148 : Nat) (n151 : Int) (n170 : Int) (n173 : Int) (n192 : Int) (n195 : Int) (n124 : Int) (n121 : Int) (x116 : Option Addr) (l117 : Nat) (c118 : Nat) (n97 : Int) : Hp → Prop :=
  BR b203
    (J_law13_awake_4 W R true n143 x146 l147 c148 n151 n170 n173 n192 n195 n124 n121 x116 l117 c118)
    (J_law13_awake_4 W R (n97 != 0) n143 x146 l147 c148 n151 n170 n173 n192 n195 n124 n121 x116 l117 c118)
def J_law13_awake_6 (W : World) (R : Ending → Hp → Prop) (b202 : Bool) (n143 : Int) (x146 : Option Addr) (l147 : Nat) (c148 : Nat) (n151 : Int) (n170 : Int) (n173 : Int) (n192 : Int) (n195 : Int) (n124 : Int) (n121 : Int) (x116 : Option Addr) (l117 : Nat) (c118 : Nat) (n97 : Int) (n94 : Int) : Hp → Prop :=
  BR b202
    (J_law13_awake_5 W R true n143 x146 l147 c148 n151 n170 n173 n192 n195 n124 n121 x116 l117 c118 n97)
    (J_law13_awake_5 W R (n94 != 5) n143 x146 l147 c148 n151 n170 n173 n192 n195 n124 n121 x116 l117 c118 n97)
def J_law13_awake_7 (W : World) (R : Ending → Hp → Prop) (b201 : Bool) (n143 : Int) (x146 : Option Addr) (l147 : Nat) (c148 : Nat) (n151 : Int) (n170 : Int) (n173 : Int) (n192 : Int) (n195 : Int) (n124 : Int) (n121 : Int) (x116 : Option Addr) (l117 : Nat) (c118 : Nat) (n97 : Int) (n94 : Int) (n91 : Int) : Hp → Prop :=
  BR b201
    (J_law13_awake_6 W R true n143 x146 l147 c148 n151 n170 n173 n192 n195 n124 n121 x116 l117 c118 n97 n94)
    (J_law13_awake_6 W R (n91 != 1) n143 x146 l147 c148 n151 n170 n173 n192 n195 n124 n121 x116 l117 c118 n97 n94)
def J_law13_awake_8 (W : World) (R : Ending → Hp → Prop) (b200 : Bool) (n143 : Int) (x146 : Option Addr) (l147 : Nat) (c148 : Nat) (n151 : Int) (n170 : Int) (n173 : Int) (n192 : Int) (n195 : Int) (n124 : Int) (n121 : Int) (x116 : Option Addr) (l117 : Nat) (c118 : Nat) (n97 : Int) (n94 : Int) (n91 : Int) (n72 : Int) : Hp → Prop :=
  BR b200
    (J_law13_awake_7 W R true n143 x146 l147 c148 n151 n170 n173 n192 n195 n124 n121 x116 l117 c118 n97 n94 n91)
    (J_law13_awake_7 W R (n72 != 0) n143 x146 l147 c148 n151 n170 n173 n192 n195 n124 n121 x116 l117 c118 n97 n94 n91)
def J_law13_awake_9 (W : World) (R : Ending → Hp → Prop) (b199 : Bool) (n143 : Int) (x146 : Option Addr) (l147 : Nat) (c148 : Nat) (n151 : Int) (n170 : Int) (n173 : Int) (n192 : Int) (n195 : Int) (n124 : Int) (n121 : Int) (x116 : Option Addr) (l117 : Nat) (c118 : Nat) (n97 : Int) (n94 : Int) (n91 : Int) (n72 : Int) (n69 : Int) : Hp → Prop :=
  BR b199
    (J_law13_awake_8 W R true n143 x146 l147 c148 n151 n170 n173 n192 n195 n124 n121 x116 l117 c118 n97 n94 n91 n72)
    (J_law13_awake_8 W R (n69 != 3) n143 x146 l147 c148 n151 n170 n173 n192 n195 n124 n121 x116 l117 c118 n97 n94 n91 n72)
def J_law13_awake_10 (W : World) (R : Ending → Hp → Prop) (b198 : Bool) (n143 : Int) (x146 : Option Addr) (l147 : Nat) (c148 : Nat) (n151 : Int) (n170 : Int) (n173 : Int) (n192 : Int) (n195 : Int) (n124 : Int) (n121 : Int) (x116 : Option Addr) (l117 : Nat) (c118 : Nat) (n97 : Int) (n94 : Int) (n91 : Int) (n72 : Int) (n69 : Int) (n66 : Int) : Hp → Prop :=
  BR b198
    (J_law13_awake_9 W R true n143 x146 l147 c148 n151 n170 n173 n192 n195 n124 n121 x116 l117 c118 n97 n94 n91 n72 n69)
    (J_law13_awake_9 W R (n66 != 4) n143 x146 l147 c148 n151 n170 n173 n192 n195 n124 n121 x116 l117 c118 n97 n94 n91 n72 n69)
def J_law13_awake_11 (W : World) (R : Ending → Hp → Prop) (b197 : Bool) (n143 : Int) (x146 : Option Addr) (l147 : Nat) (c148 : Nat) (n151 : Int) (n170 : Int) (n173 : Int) (n192 : Int) (n195 : Int) (n124 : Int) (n121 : Int) (x116 : Option Addr) (l117 : Nat) (c118 : Nat) (n97 : Int) (n94 : Int) (n91 : Int) (n72 : Int) (n69 : Int) (n66 : Int) (n46 : Int) : Hp → Prop :=
  BR b197
    (J_law13_awake_10 W R true n143 x146 l147 c148 n151 n170 n173 n192 n195 n124 n121 x116 l117 c118 n97 n94 n91 n72 n69 n66)
    (J_law13_awake_10 W R (n46 != 0) n143 x146 l147 c148 n151 n170 n173 n192 n195 n124 n121 x116 l117 c118 n97 n94 n91 n72 n69 n66)
def J_law13_awake_12 (W : World) (R : Ending → Hp → Prop) (b196 : Bool) (n143 : Int) (x146 : Option Addr) (l147 : Nat) (c148 : Nat) (n151 : Int) (n170 : Int) (n173 : Int) (n192 : Int) (n195 : Int) (n124 : Int) (n121 : Int) (x116 : Option Addr) (l117 : Nat) (c118 : Nat) (n97 : Int) (n94 : Int) (n91 : Int) (n72 : Int) (n69 : Int) (n66 : Int) (n46 : Int) (x41 : Option Addr) (l42 : Nat) (c43 : Nat) : Hp → Prop :=
  BR b196
    (J_law13_awake_11 W R true n143 x146 l147 c148 n151 n170 n173 n192 n195 n124 n121 x116 l117 c118 n97 n94 n91 n72 n69 n66 n46)
    (NEW 3 [(.int .i64 1), (.int .i64 2), (.int .i64 0), (.int .i64 4), (.int .i64 3)] fun B217 =>
      CALL Pg W F_ref13_Ints [(.slice x41 l42 c43), (.slice (some ⟨B217, 0, none⟩) 5 5)]
        (fun v218 => TYB v218 fun b220 =>
          J_law13_awake_11 W R (!b220) n143 x146 l147 c148 n151 n170 n173 n192 n195 n124 n121 x116 l117 c118 n97 n94 n91 n72 n69 n66 n46)
          (fun e219 => R (.panicked e219)))
def T_law13_awake (W : World) (R : Ending → Hp → Prop) : Hp → Prop :=
  CALL Pg W F_law13_sample []
    (fun v1 => AGG v1 fun q3 => HD q3 fun v4 r5 => TYL v4 fun x6 l7 c8 =>
      HD r5 fun v9 r10 => TYL v9 fun x11 l12 c13 =>
        NL r10 <|
          CALL Pg W F_prize_Can [(.agg #[(.slice x6 l7 c8), (.slice x11 l12 c13)]), (.int .i64 3), (.int .i64 2)]
            (fun v14 => TUP v14 fun q16 => HD q16 fun v17 r18 => TYB v17 fun b19 =>
              HD r18 fun v20 r21 => TYI .i64 v20 fun n22 =>
                NL r21 <|
                  CALL Pg W F_law13_sample []
                    (fun v23 => AGG v23 fun q25 => HD q25 fun v26 r27 => TYL v26 fun x28 l29 c30 =>
                      HD r27 fun v31 r32 => TYL v31 fun x33 l34 c35 =>
                        NL r32 <|
                          CALL Pg W F_prize_Due [(.agg #[(.slice x28 l29 c30), (.slice x33 l34 c35)])]
                            (fun v36 => TUP v36 fun q38 => HD q38 fun v39 r40 => TYL v39 fun x41 l42 c43 =>
                              HD r40 fun v44 r45 => TYI .i64 v44 fun n46 =>
                                NL r45 <|
                                  CALL Pg W F_law13_sample []
                                    (fun v47 => AGG v47 fun q49 => HD q49 fun v50 r51 => TYL v50 fun x52 l53 c54 =>
                                      HD r51 fun v55 r56 => TYL v55 fun x57 l58 c59 =>
                                        NL r56 <|
                                          NEW 3 [(.int .i64 1), (.int .i64 2), (.int .i64 0), (.int .i64 4), (.int .i64 (-1))] fun B60 =>
                                            CALL Pg W F_prize_Wrong [(.agg #[(.slice x52 l53 c54), (.slice x57 l58 c59)]), (.slice (some ⟨B60, 0, none⟩) 5 5)]
                                              (fun v61 => TUP v61 fun q63 => HD q63 fun v64 r65 => TYI .i64 v64 fun n66 =>
                                                HD r65 fun v67 r68 => TYI .i64 v67 fun n69 =>
                                                  HD r68 fun v70 r71 => TYI .i64 v70 fun n72 =>
                                                    NL r71 <|
                                                      CALL Pg W F_law13_sample []
                                                        (fun v73 => AGG v73 fun q75 => HD q75 fun v76 r77 => TYL v76 fun x78 l79 c80 =>
                                                          HD r77 fun v81 r82 => TYL v81 fun x83 l84 c85 =>
                                                            NL r82 <|
                                                              CALL Pg W F_prize_Club [(.agg #[(.slice x78 l79 c80), (.slice x83 l84 c85)])]
                                                                (fun v86 => TUP v86 fun q88 => HD q88 fun v89 r90 => TYI .i64 v89 fun n91 =>
                                                                  HD r90 fun v92 r93 => TYI .i64 v92 fun n94 =>
                                                                    HD r93 fun v95 r96 => TYI .i64 v95 fun n97 =>
                                                                      NL r96 <|
                                                                        CALL Pg W F_law13_sample []
                                                                          (fun v98 => AGG v98 fun q100 => HD q100 fun v101 r102 => TYL v101 fun x103 l104 c105 =>
                                                                            HD r102 fun v106 r107 => TYL v106 fun x108 l109 c110 =>
                                                                              NL r107 <|
                                                                                CALL Pg W F_prize_Worth [(.agg #[(.slice x103 l104 c105), (.slice x108 l109 c110)]), (.slice x41 l42 c43)]
                                                                                  (fun v111 => TUP v111 fun q113 => HD q113 fun v114 r115 => TYL v114 fun x116 l117 c118 =>
                                                                                    HD r115 fun v119 r120 => TYI .i64 v119 fun n121 =>
                                                                                      HD r120 fun v122 r123 => TYI .i64 v122 fun n124 =>
                                                                                        NL r123 <|
                                                                                          CALL Pg W F_law13_sample []
                                                                                            (fun v125 => AGG v125 fun q127 => HD q127 fun v128 r129 => TYL v128 fun x130 l131 c132 =>
                                                                                              HD r129 fun v133 r134 => TYL v133 fun x135 l136 c137 =>
                                                                                                NL r134 <|
                                                                                                  CALL Pg W F_prize_Most [(.agg #[(.slice x130 l131 c132), (.slice x135 l136 c137)])]
                                                                                                    (fun v138 => TUP v138 fun q140 => HD q140 fun v141 r142 => TYI .i64 v141 fun n143 =>
                                                                                                      HD r142 fun v144 r145 => TYL v144 fun x146 l147 c148 =>
                                                                                                        HD r145 fun v149 r150 => TYI .i64 v149 fun n151 =>
                                                                                                          NL r150 <|
                                                                                                            CALL Pg W F_law13_sample []
                                                                                                              (fun v152 => AGG v152 fun q154 => HD q154 fun v155 r156 => TYL v155 fun x157 l158 c159 =>
                                                                                                                HD r156 fun v160 r161 => TYL v160 fun x162 l163 c164 =>
                                                                                                                  NL r161 <|
                                                                                                                    CALL Pg W F_prize_Stay [(.agg #[(.slice x157 l158 c159), (.slice x162 l163 c164)]), (.int .i64 0)]
                                                                                                                      (fun v165 => TUP v165 fun q167 => HD q167 fun v168 r169 => TYI .i64 v168 fun n170 =>
                                                                                                                        HD r169 fun v171 r172 => TYI .i64 v171 fun n173 =>
                                                                                                                          NL r172 <|
                                                                                                                            CALL Pg W F_law13_sample []
                                                                                                                              (fun v174 => AGG v174 fun q176 => HD q176 fun v177 r178 => TYL v177 fun x179 l180 c181 =>
                                                                                                                                HD r178 fun v182 r183 => TYL v182 fun x184 l185 c186 =>
                                                                                                                                  NL r183 <|
                                                                                                                                    CALL Pg W F_prize_For [(.agg #[(.slice x179 l180 c181), (.slice x184 l185 c186)]), (.int .i64 0)]
                                                                                                                                      (fun v187 => TUP v187 fun q189 => HD q189 fun v190 r191 => TYI .i64 v190 fun n192 =>
                                                                                                                                        HD r191 fun v193 r194 => TYI .i64 v193 fun n195 =>
                                                                                                                                          NL r194 <|
                                                                                                                                            BR b19
                                                                                                                                              (J_law13_awake_12 W R true n143 x146 l147 c148 n151 n170 n173 n192 n195 n124 n121 x116 l117 c118 n97 n94 n91 n72 n69 n66 n46 x41 l42 c43)
                                                                                                                                              (J_law13_awake_12 W R (n22 != 0) n143 x146 l147 c148 n151 n170 n173 n192 n195 n124 n121 x116 l117 c118 n97 n94 n91 n72 n69 n66 n46 x41 l42 c43))
                                                                                                                                        (fun e188 => R (.panicked e188)))
                                                                                                                                (fun e175 => R (.panicked e175)))
                                                                                                                        (fun e166 => R (.panicked e166)))
                                                                                                                (fun e153 => R (.panicked e153)))
                                                                                                      (fun e139 => R (.panicked e139)))
                                                                                              (fun e126 => R (.panicked e126)))
                                                                                    (fun e112 => R (.panicked e112)))
                                                                            (fun e99 => R (.panicked e99)))
                                                                  (fun e87 => R (.panicked e87)))
                                                          (fun e74 => R (.panicked e74)))
                                                (fun e62 => R (.panicked e62)))
                                      (fun e48 => R (.panicked e48)))
                              (fun e37 => R (.panicked e37)))
                      (fun e24 => R (.panicked e24)))
              (fun e15 => R (.panicked e15)))
      (fun e2 => R (.panicked e2))
theorem T_law13_awake_eq (W : World) (R : Ending → Hp → Prop) : vfun Pg W an_14 Try.f14 [] R = T_law13_awake W R := by kernel_rfl
theorem does_law13_awake (W : World) (R : Ending → Hp → Prop) (s : Hp) (h : T_law13_awake W R s) : Does Pg W F_law13_awake #[] s R :=
  does_of_vfun Pg W an_14 Try.func14 rfl (by kernel_rfl) (by rw [T_law13_awake_eq]; exact h)
end Go.Proofs.Ytfaeokcbfnlgbaa.G

/- Prize: what the document fixes. -/
set_option linter.unusedSimpArgs false
set_option linter.unusedVariables false
set_option maxRecDepth 20000
namespace Go.Proofs.Ytfaeokcbfnlgbaa.G
open Go.V
def pz2 (m : Pz) : List Value := [.int .i64 m.kind, .int .i64 m.worth]
def pzV (l : List Pz) : List Value := l.flatMap pz2
theorem pzV_len : ∀ l : List Pz, (pzV l).length = l.length * 2
  | [] => rfl
  | x :: l => by
    have ih := pzV_len l
    show (pz2 x ++ pzV l).length = _
    rw [List.length_append, ih, List.length_cons]
    show 2 + _ = _
    omega
theorem pzV_one (l : List Pz) : ∀ v ∈ pzV l, oneCell v = true := by
  intro v hv
  obtain ⟨m, _, h⟩ := List.mem_flatMap.1 hv
  simp [pz2] at h
  rcases h with rfl | rfl <;> rfl
theorem pzV_get : ∀ (l : List Pz) (k : Nat) (h : k < l.length), (pzV l)[k * 2]? = some (.int .i64 l[k].kind) ∧ (pzV l)[k * 2 + 1]? = some (.int .i64 l[k].worth)
  | [], k, h => by simp at h
  | x :: l, 0, h => ⟨rfl, rfl⟩
  | x :: l, k + 1, h => by
    obtain ⟨h1, h2⟩ := pzV_get l k (by simpa using h)
    have e : ∀ j : Nat, (pzV (x :: l))[2 + j]? = (pzV l)[j]? := fun j => by
      show (pz2 x ++ pzV l)[2 + j]? = _
      rw [List.getElem?_append_right (show (pz2 x).length ≤ 2 + j by show 2 ≤ _; omega)]
      congr 1
      show 2 + j - 2 = j
      omega
    refine ⟨?_, ?_⟩
    · rw [show (k + 1) * 2 = 2 + k * 2 by omega, e, h1]; rfl
    · rw [show (k + 1) * 2 + 1 = 2 + (k * 2 + 1) by omega, e, h2]; rfl
theorem row_pz {s : Hp} {x : Option Addr} {l : List Pz} (h : RowAt s x (pzV l)) : PzAt s x l := fun i hi => by
  obtain ⟨g1, g2⟩ := pzV_get l i hi
  obtain ⟨a, h0, h1⟩ := row_get h g1
  obtain ⟨b, k0, h2⟩ := row_get h g2
  rw [h0] at k0; cases k0
  exact ⟨a, h0, by rw [addr_add]; exact h1, by rw [addr_add]; exact h2⟩
theorem pz_row' {s : Hp} {x : Option Addr} {l : List Pz} (h : PzAt s x l) : RowAt s x (pzV l) := fun i hi => by
  have hi' := hi
  rw [pzV_len] at hi'
  have hk : i / 2 < l.length := by omega
  obtain ⟨a, h0, h1, h2⟩ := h (i / 2) hk
  obtain ⟨g1, g2⟩ := pzV_get l (i / 2) hk
  refine ⟨a, h0, ?_⟩
  rw [Nat.mul_one]
  rcases Nat.mod_two_eq_zero_or_one i with e | e
  · have e' : i / 2 * 2 = i := by omega
    rw [addr_add] at h1
    simp only [e', Nat.add_zero] at h1 g1
    rw [h1, ← g1, List.getElem?_eq_getElem hi]
  · have e' : i / 2 * 2 + 1 = i := by omega
    rw [addr_add] at h2
    simp only [e'] at h2 g2
    rw [h2, ← g2, List.getElem?_eq_getElem hi]
/-- The prizes of the document's examples. -/
def SP : PT := ⟨[⟨2, 1, false, false⟩, ⟨1, 2, false, false⟩, ⟨3, 1, true, false⟩, ⟨5, 0, true, true⟩, ⟨4, 2, false, true⟩], [⟨0, 100⟩, ⟨1, 50⟩, ⟨4, 80⟩, ⟨2, 40⟩, ⟨3, 20⟩]⟩
theorem sp_can : canR SP 3 2 = (false, 0) := by decide +kernel
theorem sp_due : dueR SP = ([1, 2, 0, 4, 3], 0) := by decide +kernel
theorem sp_wrong : wrongR SP [1, 2, 0, 4, -1] = (4, 3, 0) := by decide +kernel
theorem sp_club : clubR SP = (1, 5, 0) := by decide +kernel
theorem sp_worth : worthR SP [1, 2, 0, 4, 3] = ([80, 100, 50, 20, 40], 290, 0) := by decide +kernel
theorem sp_most : mostR SP = (5, [0, 2, 1, 4, 3], 0) := by decide +kernel
theorem sp_stay : stayR SP 0 = (24, 0) := by decide +kernel
theorem sp_for : forR SP 0 = (3, 0) := by decide +kernel
section
variable {W : World} {K : VK} {E : List PanicEntry → Hp → Prop} {s : Hp} {T : PT}
theorem c_far {x y q : Option Addr} {c c' l cq : Nat} (h : ∀ s' b, Ext s s' → (b = false → T.n ≤ 40 ∧ T.z ≤ 40 ∧ l ≤ 40) → K (.bool b) s') :
    CALL Pg W F_law13_far [.agg #[.slice x T.n c, .slice y T.z c'], .slice q l cq] K E s := by
  refine does_law13_far W x T.n c y T.z c' q l cq _ s ?_
  unfold T_law13_far
  refine ne2 fun s1 e1 z1 o1 o2 => ?_
  refine ⟨_, _, _, o1.cell, ?_⟩
  refine BR_dec (fun h1 => h s1 true e1 (fun hh => by cases hh)) (fun h1 => ?_)
  refine ⟨_, _, _, o2.cell, ?_⟩
  refine BR_dec (fun h2 => h s1 true e1 (fun hh => by cases hh)) (fun h2 => ?_)
  exact h s1 _ e1 (fun hh => by have := of_decide_eq_false hh; omega)
theorem wr2 {a : Addr} {v0 v1 : Value} {K : Hp → Prop} (h0 : oneCell v0 = true) (h1 : oneCell v1 = true) (ha : ∀ j, j < 2 → ∃ y, Own s (a.add j) y) (h : ∀ s', Kp (· = a.block) s s' → s'.size = s.size → Own s' (a.add 0) v0 → Own s' (a.add 1) v1 → K s') :
    (WR (a.add 0) v0 <| WR (a.add 1) v1 <| K) s := by
  show wrN [v0, v1] a 0 K s
  refine wrN_rule _ a 0 K s (fun i hi => ?_) ?_ ?_
  · rw [Nat.zero_add]; exact ha i hi
  · intro w hw
    simp at hw
    rcases hw with rfl | rfl <;> assumption
  · intro s' k z ho _
    exact h s' k z (ho 0 (by simp)) (ho 1 (by simp))
theorem c_sample (h : ∀ s' x y, Ext s s' → MnAt s' x SP.men → PzAt s' y SP.list → K (.agg #[.slice x 5 5, .slice y 5 5]) s') : CALL Pg W F_law13_sample [] K E s := by
  refine does_law13_sample W _ s ?_
  unfold T_law13_sample
  refine nz2 zc_25 fun s1 e1 z1 q1 q2 => ?_
  refine NEW_rule fun s2 e2 z2 n2 _ => ?_
  refine NEW_rule fun s3 e3 z3 n3 _ => ?_
  have e13 := e2.trans e3
  have hs12 : s.size < s1.size := by omega
  refine wr2 (a := ⟨s.size, 0, none⟩) rfl rfl (fun j hj => ?_) fun t k z o0 o1 => ?_
  · match j, hj with
    | 0, _ => exact ⟨_, e13.own q1⟩
    | 1, _ => exact ⟨_, e13.own q2⟩
  · refine ⟨_, _, _, o0.cell, _, _, _, o1.cell, ?_⟩
    refine h t _ _ (ext_kp (e1.trans e13) (Nat.le_refl _) k) (row_mn ?_) (row_pz ?_)
    · exact ((row_new (vs := mnV SP.men) n2).ext e3).keep k (fun a ha => by cases ha; show ¬ s1.size = s.size; omega)
    · exact (row_new (vs := pzV SP.list) n3).keep k (fun a ha => by cases ha; show ¬ s2.size = s.size; have := e2.1; omega)
theorem x_Can {x y : Option Addr} {c c' : Nat} (hx : MnAt s x SP.men) (hy : PzAt s y SP.list) (h : ∀ s', Ext s s' → K (.tuple #[.bool false, .int .i64 0]) s') : CALL Pg W F_prize_Can [.agg #[.slice x 5 c, .slice y 5 c'], .int .i64 3, .int .i64 2] K E s :=
  c_Can (T := SP) (m := 3) (z := 2) hx hy (by rw [sp_can]; exact h)
theorem x_Due {x y : Option Addr} {c c' : Nat} (hx : MnAt s x SP.men) (hy : PzAt s y SP.list) (h : ∀ s' q cq, Ext s s' → RowAt s' q (ints [1, 2, 0, 4, 3]) → K (.tuple #[.slice q 5 cq, .int .i64 0]) s') : CALL Pg W F_prize_Due [.agg #[.slice x 5 c, .slice y 5 c']] K E s :=
  c_Due (T := SP) hx hy (by rw [sp_due]; exact fun s' q cq e f => h s' q cq e f.row)
theorem x_Wrong {x y q : Option Addr} {c c' cq : Nat} (hx : MnAt s x SP.men) (hy : PzAt s y SP.list) (hq : RowAt s q (ints [1, 2, 0, 4, -1])) (h : ∀ s', Ext s s' → K (.tuple #[.int .i64 4, .int .i64 3, .int .i64 0]) s') : CALL Pg W F_prize_Wrong [.agg #[.slice x 5 c, .slice y 5 c'], .slice q 5 cq] K E s :=
  c_Wrong (T := SP) (ds := [1, 2, 0, 4, -1]) hx hy hq (by rw [sp_wrong]; exact h)
theorem x_Club {x y : Option Addr} {c c' : Nat} (hx : MnAt s x SP.men) (hy : PzAt s y SP.list) (h : ∀ s', Ext s s' → K (.tuple #[.int .i64 1, .int .i64 5, .int .i64 0]) s') : CALL Pg W F_prize_Club [.agg #[.slice x 5 c, .slice y 5 c']] K E s :=
  c_Club (T := SP) hx hy (by rw [sp_club]; exact h)
theorem x_Worth {x y q : Option Addr} {c c' cq : Nat} (hx : MnAt s x SP.men) (hy : PzAt s y SP.list) (hq : RowAt s q (ints [1, 2, 0, 4, 3])) (h : ∀ s' w cw, Ext s s' → RowAt s' w (ints [80, 100, 50, 20, 40]) → K (.tuple #[.slice w 5 cw, .int .i64 290, .int .i64 0]) s') : CALL Pg W F_prize_Worth [.agg #[.slice x 5 c, .slice y 5 c'], .slice q 5 cq] K E s :=
  c_Worth (T := SP) (ds := [1, 2, 0, 4, 3]) hx hy hq (by rw [sp_worth]; exact fun s' w cw e f => h s' w cw e f.row)
theorem x_Most {x y : Option Addr} {c c' : Nat} (hx : MnAt s x SP.men) (hy : PzAt s y SP.list) (h : ∀ s' q cq, Ext s s' → RowAt s' q (ints [0, 2, 1, 4, 3]) → K (.tuple #[.int .i64 5, .slice q 5 cq, .int .i64 0]) s') : CALL Pg W F_prize_Most [.agg #[.slice x 5 c, .slice y 5 c']] K E s :=
  c_Most (T := SP) hx hy (by rw [sp_most]; exact fun s' q cq e f => h s' q cq e f.row)
theorem x_Stay {x y : Option Addr} {c c' : Nat} (hx : MnAt s x SP.men) (hy : PzAt s y SP.list) (h : ∀ s', Ext s s' → K (.tuple #[.int .i64 24, .int .i64 0]) s') : CALL Pg W F_prize_Stay [.agg #[.slice x 5 c, .slice y 5 c'], .int .i64 0] K E s :=
  c_Stay (T := SP) (m := 0) hx hy (by rw [sp_stay]; exact h)
theorem x_For {x y : Option Addr} {c c' : Nat} (hx : MnAt s x SP.men) (hy : PzAt s y SP.list) (h : ∀ s', Ext s s' → K (.tuple #[.int .i64 3, .int .i64 0]) s') : CALL Pg W F_prize_For [.agg #[.slice x 5 c, .slice y 5 c'], .int .i64 0] K E s :=
  c_For (T := SP) (m := 0) hx hy (by rw [sp_for]; exact h)
theorem c_awake (h : ∀ s', Ext s s' → K (.bool true) s') : CALL Pg W F_law13_awake [] K E s := by
  refine does_law13_awake W _ s ?_
  unfold T_law13_awake
  refine c_sample fun s1 x1 y1 e1 r1 q1 => ?_
  try simp only [TUP_mk, AGG_mk, HD_mk, NL_mk, TYI_mk, TYB_mk, TYP_mk, TYL_mk, TYS_mk, TYM_mk, SO_mk, NX_mk, endK_mk, endK_mk', add_0]
  refine x_Can r1 q1 fun s2 e2 => ?_
  try simp only [TUP_mk, AGG_mk, HD_mk, NL_mk, TYI_mk, TYB_mk, TYP_mk, TYL_mk, TYS_mk, TYM_mk, SO_mk, NX_mk, endK_mk, endK_mk', add_0]
  refine c_sample fun s3 x3 y3 e3 r3 q3 => ?_
  try simp only [TUP_mk, AGG_mk, HD_mk, NL_mk, TYI_mk, TYB_mk, TYP_mk, TYL_mk, TYS_mk, TYM_mk, SO_mk, NX_mk, endK_mk, endK_mk', add_0]
  refine x_Due r3 q3 fun s4 d4 cd4 e4 w4 => ?_
  try simp only [TUP_mk, AGG_mk, HD_mk, NL_mk, TYI_mk, TYB_mk, TYP_mk, TYL_mk, TYS_mk, TYM_mk, SO_mk, NX_mk, endK_mk, endK_mk', add_0]
  refine c_sample fun s5 x5 y5 e5 r5 q5 => ?_
  try simp only [TUP_mk, AGG_mk, HD_mk, NL_mk, TYI_mk, TYB_mk, TYP_mk, TYL_mk, TYS_mk, TYM_mk, SO_mk, NX_mk, endK_mk, endK_mk', add_0]
  refine NEW_rule fun s6 e6 z6 n6 _ => ?_
  refine x_Wrong (r5.ext e6) (q5.ext e6) (row_new (vs := ints [1, 2, 0, 4, -1]) n6) fun s7 e7 => ?_
  try simp only [TUP_mk, AGG_mk, HD_mk, NL_mk, TYI_mk, TYB_mk, TYP_mk, TYL_mk, TYS_mk, TYM_mk, SO_mk, NX_mk, endK_mk, endK_mk', add_0]
  refine c_sample fun s8 x8 y8 e8 r8 q8 => ?_
  try simp only [TUP_mk, AGG_mk, HD_mk, NL_mk, TYI_mk, TYB_mk, TYP_mk, TYL_mk, TYS_mk, TYM_mk, SO_mk, NX_mk, endK_mk, endK_mk', add_0]
  refine x_Club r8 q8 fun s9 e9 => ?_
  try simp only [TUP_mk, AGG_mk, HD_mk, NL_mk, TYI_mk, TYB_mk, TYP_mk, TYL_mk, TYS_mk, TYM_mk, SO_mk, NX_mk, endK_mk, endK_mk', add_0]
  refine c_sample fun t1 x11 y11 f1 r11 q11 => ?_
  try simp only [TUP_mk, AGG_mk, HD_mk, NL_mk, TYI_mk, TYB_mk, TYP_mk, TYL_mk, TYS_mk, TYM_mk, SO_mk, NX_mk, endK_mk, endK_mk', add_0]
  have g5 := e5.trans (e6.trans (e7.trans (e8.trans (e9.trans f1))))
  refine x_Worth r11 q11 (w4.ext g5) fun t2 w2 cw2 f2 v2 => ?_
  try simp only [TUP_mk, AGG_mk, HD_mk, NL_mk, TYI_mk, TYB_mk, TYP_mk, TYL_mk, TYS_mk, TYM_mk, SO_mk, NX_mk, endK_mk, endK_mk', add_0]
  refine c_sample fun t3 x13 y13 f3 r13 q13 => ?_
  try simp only [TUP_mk, AGG_mk, HD_mk, NL_mk, TYI_mk, TYB_mk, TYP_mk, TYL_mk, TYS_mk, TYM_mk, SO_mk, NX_mk, endK_mk, endK_mk', add_0]
  refine x_Most r13 q13 fun t4 m4 cm4 f4 v4 => ?_
  try simp only [TUP_mk, AGG_mk, HD_mk, NL_mk, TYI_mk, TYB_mk, TYP_mk, TYL_mk, TYS_mk, TYM_mk, SO_mk, NX_mk, endK_mk, endK_mk', add_0]
  refine c_sample fun t5 x15 y15 f5 r15 q15 => ?_
  try simp only [TUP_mk, AGG_mk, HD_mk, NL_mk, TYI_mk, TYB_mk, TYP_mk, TYL_mk, TYS_mk, TYM_mk, SO_mk, NX_mk, endK_mk, endK_mk', add_0]
  refine x_Stay r15 q15 fun t6 f6 => ?_
  try simp only [TUP_mk, AGG_mk, HD_mk, NL_mk, TYI_mk, TYB_mk, TYP_mk, TYL_mk, TYS_mk, TYM_mk, SO_mk, NX_mk, endK_mk, endK_mk', add_0]
  refine c_sample fun t7 x17 y17 f7 r17 q17 => ?_
  try simp only [TUP_mk, AGG_mk, HD_mk, NL_mk, TYI_mk, TYB_mk, TYP_mk, TYL_mk, TYS_mk, TYM_mk, SO_mk, NX_mk, endK_mk, endK_mk', add_0]
  refine x_For r17 q17 fun t8 f8 => ?_
  try simp only [TUP_mk, AGG_mk, HD_mk, NL_mk, TYI_mk, TYB_mk, TYP_mk, TYL_mk, TYS_mk, TYM_mk, SO_mk, NX_mk, endK_mk, endK_mk', add_0]
  have g8 := f5.trans (f6.trans (f7.trans f8))
  have g28 := f3.trans (f4.trans g8)
  have e0t := e1.trans (e2.trans (e3.trans (e4.trans (g5.trans (f2.trans g28)))))
  refine BR_bool (fun hh => by cases hh) (fun _ => ?_)
  unfold J_law13_awake_12
  refine BR_ne (fun hh => absurd rfl hh) (fun _ => ?_)
  refine NEW_rule fun u1 h1 _ n1 _ => ?_
  refine f_Ints (a := [1, 2, 0, 4, 3]) (b := [1, 2, 0, 4, 3]) (w4.ext (g5.trans (f2.trans (g28.trans h1)))) (row_new (vs := ints [1, 2, 0, 4, 3]) n1) rfl rfl (by decide) ?_
  try simp only [TUP_mk, AGG_mk, HD_mk, NL_mk, TYI_mk, TYB_mk, TYP_mk, TYL_mk, TYS_mk, TYM_mk, SO_mk, NX_mk, endK_mk, endK_mk', add_0]
  unfold J_law13_awake_11
  refine BR_bool (fun hh => absurd hh (by decide)) (fun _ => ?_)
  unfold J_law13_awake_10
  refine BR_ne (fun hh => absurd rfl hh) (fun _ => ?_)
  unfold J_law13_awake_9
  refine BR_ne (fun hh => absurd rfl hh) (fun _ => ?_)
  unfold J_law13_awake_8
  refine BR_ne (fun hh => absurd rfl hh) (fun _ => ?_)
  unfold J_law13_awake_7
  refine BR_ne (fun hh => absurd rfl hh) (fun _ => ?_)
  unfold J_law13_awake_6
  refine BR_ne (fun hh => absurd rfl hh) (fun _ => ?_)
  unfold J_law13_awake_5
  refine BR_ne (fun hh => absurd rfl hh) (fun _ => ?_)
  unfold J_law13_awake_4
  refine BR_ne (fun hh => absurd rfl hh) (fun _ => ?_)
  refine NEW_rule fun u2 h2 _ n2 _ => ?_
  refine f_Ints (a := [80, 100, 50, 20, 40]) (b := [80, 100, 50, 20, 40]) (v2.ext (g28.trans (h1.trans h2))) (row_new (vs := ints [80, 100, 50, 20, 40]) n2) rfl rfl (by decide) ?_
  try simp only [TUP_mk, AGG_mk, HD_mk, NL_mk, TYI_mk, TYB_mk, TYP_mk, TYL_mk, TYS_mk, TYM_mk, SO_mk, NX_mk, endK_mk, endK_mk', add_0]
  unfold J_law13_awake_3
  refine BR_bool (fun hh => absurd hh (by decide)) (fun _ => ?_)
  unfold J_law13_awake_2
  refine BR_ne (fun hh => absurd rfl hh) (fun _ => ?_)
  unfold J_law13_awake_1
  refine BR_ne (fun hh => absurd rfl hh) (fun _ => ?_)
  refine BR_eq (fun _ => ?_) (fun hh => absurd rfl hh)
  refine NEW_rule fun u3 h3 _ n3 _ => ?_
  refine f_Ints (a := [0, 2, 1, 4, 3]) (b := [0, 2, 1, 4, 3]) (v4.ext (g8.trans (h1.trans (h2.trans h3)))) (row_new (vs := ints [0, 2, 1, 4, 3]) n3) rfl rfl (by decide) ?_
  try simp only [TUP_mk, AGG_mk, HD_mk, NL_mk, TYI_mk, TYB_mk, TYP_mk, TYL_mk, TYS_mk, TYM_mk, SO_mk, NX_mk, endK_mk, endK_mk', add_0]
  unfold J_law13_awake_0
  refine BR_bool (fun _ => ?_) (fun hh => absurd hh (by decide))
  refine BR_eq (fun _ => ?_) (fun hh => absurd rfl hh)
  refine BR_eq (fun _ => ?_) (fun hh => absurd rfl hh)
  refine BR_eq (fun _ => ?_) (fun hh => absurd rfl hh)
  refine BR_eq (fun _ => ?_) (fun hh => absurd rfl hh)
  exact h u3 (e0t.trans (h1.trans (h2.trans h3)))
theorem c_awake' {s0 : Hp} (e : Ext s0 s) (h : ∀ s', Ext s0 s' → K (.bool true) s') : CALL Pg W F_law13_awake [] K E s := c_awake fun s' e' => h s' (e.trans e')
end
end Go.Proofs.Ytfaeokcbfnlgbaa.G
