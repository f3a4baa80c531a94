import Derived.Test.YtocnkdkgajdejaaC3
/- Lemmas: contracts over the visible heap, and that they are sound; no condition. -/
/- Draws of plots, in plain Lean: the one that breaks the fewest rules. -/
set_option linter.unusedSimpArgs false
set_option linter.unusedVariables false
namespace Go.Proofs.Ytocnkdkgajdejaa.G
open Go.V Go.Lot
/-- A draw's rest, for those who are left. -/
def RP (n : Nat) : List Nat → Nat → Prop
  | [], left => left = 0
  | m :: r, left => m < n ∧ left.testBit m = true ∧ RP n r (left - 2 ^ m)
/-- What it breaks. -/
def costR (L : Lts) : Nat → Nat → List Nat → Nat
  | _, _, [] => 0
  | q, b, m :: r => brk L q m b + costR L (q + 1) m r
theorem rp_of {n : Nat} (hn : n ≤ 8) : ∀ (d : List Nat) (left : Nat), left < 2 ^ n → d.Nodup → (∀ m ∈ d, m < n) → (∀ j, j < n → (left.testBit j = true ↔ j ∈ d)) → RP n d left
  | [], left, hl, hd, hlt, hb => by
    show left = 0
    apply Nat.eq_of_testBit_eq
    intro j
    rw [Nat.zero_testBit]
    cases h : left.testBit j with
    | false => rfl
    | true => have := (hb j (low_of hl h)).1 h; cases this
  | m :: r, left, hl, hd, hlt, hb => by
    have hm := hlt m (by simp)
    have hbm := (hb m hm).2 (by simp)
    have hd' := List.nodup_cons.1 hd
    refine ⟨hm, hbm, rp_of hn r _ (Nat.lt_of_le_of_lt (Nat.sub_le _ _) hl) hd'.2 (fun x hx => hlt x (by simp [hx])) fun j hj => ?_⟩
    rw [clr_bits left (lt256 hn hl) m (by omega) hbm j (by omega)]
    have := hb j hj
    by_cases e : j = m
    · subst e; simp [hd'.1]
    · simp [e] at this ⊢; exact this
theorem rp_perm {n : Nat} (hn : n ≤ 8) : ∀ (d : List Nat) (left : Nat), left < 2 ^ n → RP n d left → d.Nodup ∧ (∀ m ∈ d, m < n) ∧ (∀ j, j < n → (left.testBit j = true ↔ j ∈ d))
  | [], left, hl, h => by
    have : left = 0 := h
    subst this
    exact ⟨List.nodup_nil, by simp, by simp⟩
  | m :: r, left, hl, h => by
    obtain ⟨h1, h2, h4⟩ := h
    obtain ⟨i1, i2, i3⟩ := rp_perm hn r (left - 2 ^ m) (Nat.lt_of_le_of_lt (Nat.sub_le _ _) hl) h4
    have hb := clr_bits left (lt256 hn hl) m (by omega) h2
    have hnot : m ∉ r := fun hm => by
      have := (i3 m h1).2 hm
      rw [hb m (by omega)] at this
      simp at this
    refine ⟨List.nodup_cons.2 ⟨hnot, i1⟩, ?_, ?_⟩
    · intro x hx
      rcases List.mem_cons.1 hx with rfl | hx
      · exact h1
      · exact i2 x hx
    · intro j hj
      have := i3 j hj
      rw [hb j (by omega)] at this
      by_cases e : j = m
      · subst e; simp [h2]
      · simp [e] at this ⊢; exact this
theorem rp_full {n : Nat} (hn : n ≤ 8) {d : List Nat} : RP n d (full n) ↔ Perm0 n d := by
  constructor
  · intro h
    obtain ⟨h1, h2, h3⟩ := rp_perm hn d _ full_lt8 h
    exact perm_of_mem h1 h2 fun j hj => (h3 j hj).1 (full_bits hj)
  · intro h
    refine rp_of hn d _ full_lt8 h.nd h.lt fun j hj => ⟨fun _ => ?_, fun _ => full_bits hj⟩
    obtain ⟨i, hi, e⟩ := perm_has h hj
    have hi' : i < d.length := by rw [h.len]; exact hi
    have e2 : d.getD i 0 = d[i] := by simp [List.getD, hi']
    rw [← e, e2]; exact List.getElem_mem _
theorem costR_sum (L : Lts) : ∀ (d : List Nat) (q b : Nat), costR L q b d = ((List.range d.length).map fun j => brk L (q + j) (d.getD j 0) (if j = 0 then b else d.getD (j - 1) 0)).sum
  | [], q, b => rfl
  | m :: r, q, b => by
    show brk L q m b + costR L (q + 1) m r = _
    rw [costR_sum L r (q + 1) m, List.length_cons, List.range_succ_eq_map, List.map_cons, List.sum_cons, List.map_map]
    congr 1
    congr 1
    apply List.map_congr_left
    intro j _
    cases j with
    | zero => simp
    | succ j =>
      show brk L (q + 1 + (j + 1)) (r.getD (j + 1) 0) (r.getD j 0) = brk L (q + (j + 1 + 1)) ((m :: r).getD (j + 1 + 1) 0) ((m :: r).getD (j + 1) 0)
      rw [show q + 1 + (j + 1) = q + (j + 1 + 1) by omega]
      simp
theorem brokenK_sum (L : Lts) (d : List Nat) : ∀ k, brokenK L d k = ((List.range k).map fun j => brk L j (d.getD j 0) (prev d j)).sum
  | 0 => rfl
  | k + 1 => by rw [List.range_succ, List.map_append, List.sum_append, ← brokenK_sum L d k]; simp [brokenK]
theorem broken_costR (L : Lts) (d : List Nat) : brokenK L d d.length = costR L 0 8 d := by
  rw [brokenK_sum, costR_sum]
  congr 1
  apply List.map_congr_left
  intro j _
  rw [Nat.zero_add]; rfl
theorem sum_eq_zero {l : List Nat} : l.sum = 0 ↔ ∀ x ∈ l, x = 0 := by
  induction l with
  | nil => simp
  | cons a l ih => simp [ih]
theorem cost_zero {L : Lts} {d : List Nat} : brokenK L d d.length = 0 ↔ wrong L d = none := by
  rw [brokenK_sum, sum_eq_zero, wrong_none]
  unfold clean
  constructor
  · intro h i hi; exact h _ (List.mem_map.2 ⟨i, List.mem_range.2 hi, rfl⟩)
  · intro h x hx
    obtain ⟨i, hi, rfl⟩ := List.mem_map.1 hx
    exact h i (List.mem_range.1 hi)
theorem best_acc (k : Nat → Nat) : ∀ (l : List Nat) (n x : Nat), (∀ y ∈ l, x < y) → l.Pairwise (· < ·) → ∃ n' z, l.foldl (better k) (some (n, x)) = some (n', z) ∧ ((z = x ∧ n' = n) ∨ (z ∈ l ∧ n' = k z)) ∧ n' ≤ n ∧ (n' = n → z = x) ∧ ∀ y ∈ l, n' ≤ k y ∧ (k y = n' → z ≤ y)
  | [], n, x, _, _ => ⟨n, x, rfl, .inl ⟨rfl, rfl⟩, Nat.le_refl _, fun _ => rfl, fun y hy => by cases hy⟩
  | a :: l, n, x, hx, hs => by
    obtain ⟨hs1, hs2⟩ := List.pairwise_cons.1 hs
    rw [List.foldl_cons]
    by_cases h : k a < n
    · have e : better k (some (n, x)) a = some (k a, a) := by show (if k a < n then _ else _) = _; rw [if_pos h]
      rw [e]
      obtain ⟨n', z, h1, h2, h3, h4, h5⟩ := best_acc k l (k a) a hs1 hs2
      refine ⟨n', z, h1, ?_, by omega, fun e => by omega, ?_⟩
      · rcases h2 with ⟨rfl, rfl⟩ | ⟨h2, h2'⟩
        · exact .inr ⟨by simp, rfl⟩
        · exact .inr ⟨by simp [h2], h2'⟩
      · intro y hy
        rcases List.mem_cons.1 hy with rfl | hy
        · exact ⟨h3, fun e => by rw [h4 e.symm]; exact Nat.le_refl _⟩
        · exact h5 y hy
    · have e : better k (some (n, x)) a = some (n, x) := by show (if k a < n then _ else _) = _; rw [if_neg h]
      rw [e]
      obtain ⟨n', z, h1, h2, h3, h4, h5⟩ := best_acc k l n x (fun y hy => hx y (by simp [hy])) hs2
      refine ⟨n', z, h1, ?_, h3, h4, ?_⟩
      · rcases h2 with h2 | ⟨h2, h2'⟩
        · exact .inl h2
        · exact .inr ⟨by simp [h2], h2'⟩
      · intro y hy
        rcases List.mem_cons.1 hy with rfl | hy
        · refine ⟨by omega, fun e => ?_⟩
          have : n' = n := by omega
          rw [h4 this]; exact Nat.le_of_lt (hx y (by simp))
        · exact h5 y hy
theorem best_spec (k : Nat → Nat) {l : List Nat} (hs : l.Pairwise (· < ·)) (h : l ≠ []) : ∃ z, z ∈ l ∧ best k l = some (k z, z) ∧ ∀ y ∈ l, k z ≤ k y ∧ (k y = k z → z ≤ y) := by
  cases l with
  | nil => exact absurd rfl h
  | cons a l =>
    obtain ⟨hs1, hs2⟩ := List.pairwise_cons.1 hs
    obtain ⟨n', z, h1, h2, h3, h4, h5⟩ := best_acc k l (k a) a hs1 hs2
    have hb : best k (a :: l) = some (n', z) := h1
    have hn : n' = k z := by rcases h2 with ⟨rfl, rfl⟩ | ⟨_, h2⟩; rfl; exact h2
    subst hn
    refine ⟨z, ?_, hb, ?_⟩
    · rcases h2 with ⟨rfl, _⟩ | ⟨h2, _⟩
      · simp
      · simp [h2]
    · intro y hy
      rcases List.mem_cons.1 hy with rfl | hy
      · exact ⟨h3, fun e => by rw [h4 e.symm]; exact Nat.le_refl _⟩
      · exact h5 y hy
theorem few_zero (L : Lts) (b : Nat) : few L 0 b = (0, 8) := fewF_zero L 9 b
theorem leastD_zero (L : Lts) (f b : Nat) : leastD L f 0 b = [] := by cases f <;> rfl
/-- The draw that breaks the fewest rules, and comes first then. -/
theorem least_spec (L : Lts) (hn : L.n ≤ 8) : ∀ (f left b : Nat), left < 2 ^ L.n → (menOf L.n left).length ≤ f →
    RP L.n (leastD L f left b) left ∧ costR L (plotOf L.n left) b (leastD L f left b) = (few L left b).1 ∧
    ∀ d, RP L.n d left → (few L left b).1 ≤ costR L (plotOf L.n left) b d ∧ (costR L (plotOf L.n left) b d = (few L left b).1 → d = leastD L f left b ∨ lexLt (leastD L f left b) d) := by
  intro f
  induction f with
  | zero =>
    intro left b hl hf
    have : left = 0 := menOf_nil hl (by omega)
    subst this
    rw [few_zero, leastD_zero]
    refine ⟨rfl, rfl, fun d hd => ⟨Nat.zero_le _, fun _ => ?_⟩⟩
    cases d with
    | nil => exact .inl rfl
    | cons m r => have := hd.2.1; simp at this
  | succ f ih =>
    intro left b hl hf
    by_cases h0 : left = 0
    · subst h0
      rw [few_zero, leastD_zero]
      refine ⟨rfl, rfl, fun d hd => ⟨Nat.zero_le _, fun _ => ?_⟩⟩
      cases d with
      | nil => exact .inl rfl
      | cons m r => have := hd.2.1; simp at this
    · have hne : menOf L.n left ≠ [] := fun e => h0 (menOf_nil hl (by rw [e]; rfl))
      obtain ⟨z, hz, hb, hall⟩ := best_spec (fun m => brk L (plotOf L.n left) m b + (few L (left - 2 ^ m) m).1) (menOf_sorted _ _) hne
      have hfew : few L left b = (brk L (plotOf L.n left) z b + (few L (left - 2 ^ z) z).1, z) := by rw [few_eq L hn hl h0, hb]; rfl
      have hle : leastD L (f + 1) left b = z :: leastD L f (left - 2 ^ z) z := by
        show (if left = 0 then [] else (few L left b).2 :: leastD L f (left - 2 ^ (few L left b).2) (few L left b).2) = _
        rw [if_neg h0, hfew]
      obtain ⟨hz1, hz2⟩ := menOf_mem.1 hz
      have hc := clr_len hn (lt256 hn hl) hz1 hz2
      obtain ⟨i1, i2, i3⟩ := ih (left - 2 ^ z) z (Nat.lt_of_le_of_lt (Nat.sub_le _ _) hl) (by omega)
      rw [plot_clr hn hl hz1 hz2] at i2 i3
      rw [hle, hfew]
      refine ⟨⟨hz1, hz2, i1⟩, ?_, ?_⟩
      · show brk L (plotOf L.n left) z b + costR L (plotOf L.n left + 1) z _ = _
        rw [i2]
      · intro d hd
        cases d with
        | nil => exact absurd hd h0
        | cons m r =>
          obtain ⟨hm1, hm2, hr⟩ := hd
          obtain ⟨j1, j2⟩ := hall m (menOf_mem.2 ⟨hm1, hm2⟩)
          have hcm := clr_len hn (lt256 hn hl) hm1 hm2
          obtain ⟨_, _, k3⟩ := ih (left - 2 ^ m) m (Nat.lt_of_le_of_lt (Nat.sub_le _ _) hl) (by omega)
          rw [plot_clr hn hl hm1 hm2] at k3
          obtain ⟨k4, k5⟩ := k3 r hr
          have hcost : costR L (plotOf L.n left) b (m :: r) = brk L (plotOf L.n left) m b + costR L (plotOf L.n left + 1) m r := rfl
          rw [hcost]
          dsimp only at j1 j2 ⊢
          refine ⟨by omega, fun he => ?_⟩
          have hzm := j2 (by omega)
          rcases Nat.lt_or_ge z m with hlt | hge
          · exact .inr (.inl hlt)
          · have : z = m := by omega
            subst this
            rcases k5 (by omega) with e | e
            · exact .inl (by rw [e])
            · exact .inr (.inr ⟨rfl, e⟩)
section
variable {L : Lts}
def leastA (L : Lts) : List Nat := leastD L L.n (full L.n) 8
def fewA (L : Lts) : Nat := (few L (full L.n) 8).1
theorem least_perm (hn : L.n ≤ 8) : Perm0 L.n (leastA L) := (rp_full hn).1 (least_spec L hn L.n (full L.n) 8 full_lt8 (menOf_len_le _ _)).1
theorem least_cost (hn : L.n ≤ 8) : brokenK L (leastA L) (leastA L).length = fewA L := by
  have := (least_spec L hn L.n (full L.n) 8 full_lt8 (menOf_len_le _ _)).2.1
  rw [plot_full] at this
  rw [broken_costR]; exact this
theorem least_min (hn : L.n ≤ 8) {d : List Nat} (hd : Perm0 L.n d) : fewA L ≤ brokenK L d d.length ∧ (brokenK L d d.length = fewA L → d = leastA L ∨ lexLt (leastA L) d) := by
  have := (least_spec L hn L.n (full L.n) 8 full_lt8 (menOf_len_le _ _)).2.2 d ((rp_full hn).2 hd)
  rw [plot_full] at this
  rw [broken_costR]; exact this
theorem few_lawful (hn : L.n ≤ 8) : fewA L = 0 ↔ 0 < cntAll L anyC := by
  rw [cntAny_len hn]
  constructor
  · intro h
    have h1 := least_cost hn
    rw [h] at h1
    have : leastA L ∈ allD L := (mem_allD hn).2 ⟨least_perm hn, cost_zero.1 h1⟩
    exact List.length_pos_of_mem this
  · intro h
    obtain ⟨d, hd⟩ := List.exists_mem_of_length_pos h
    obtain ⟨h1, h2⟩ := (mem_allD hn).1 hd
    have h3 := (least_min hn h1).1
    rw [cost_zero.2 h2] at h3
    omega
theorem least_first (hn : L.n ≤ 8) (h : fewA L = 0) {d : List Nat} (hd : (allD L)[0]? = some d) : d = leastA L := by
  obtain ⟨pd, wd, _⟩ := allD_at hn hd
  rcases (least_min hn pd).2 (by rw [cost_zero.2 wd, h]) with e | e
  · exact e
  · have h1 := least_cost hn
    rw [h] at h1
    have hmem : leastA L ∈ allD L := (mem_allD hn).2 ⟨least_perm hn, cost_zero.1 h1⟩
    obtain ⟨i, hi, he⟩ := List.getElem_of_mem hmem
    have hi' : (allD L)[i]? = some (leastA L) := by rw [List.getElem?_eq_getElem hi, he]
    have := (allD_lt hn hi' hd).2 e
    omega
end
end Go.Proofs.Ytocnkdkgajdejaa.G

/- Draws of plots, in plain Lean: what the document goes through. -/
set_option linter.unusedSimpArgs false
set_option linter.unusedVariables false
namespace Go.Proofs.Ytocnkdkgajdejaa.G
open Go.V Go.Lot
section
variable {L : Lts}
theorem getD_app {d e : List Nat} {j : Nat} (h : j < d.length) : (d ++ e).getD j 0 = d.getD j 0 := by
  simp [List.getD, List.getElem?_append_left h]
theorem brokenK_app (L : Lts) (d e : List Nat) : ∀ k, k ≤ d.length → brokenK L (d ++ e) k = brokenK L d k
  | 0, _ => rfl
  | k + 1, h => by
    show brokenK L (d ++ e) k + brk L k ((d ++ e).getD k 0) (prev (d ++ e) k) = brokenK L d k + brk L k (d.getD k 0) (prev d k)
    rw [brokenK_app L d e k (by omega), getD_app (by omega)]
    unfold prev
    by_cases h0 : k = 0
    · rw [if_pos h0, if_pos h0]
    · rw [if_neg h0, if_neg h0, getD_app (by omega)]
theorem cost_snoc (L : Lts) (d : List Nat) (m : Nat) : cost L (d ++ [m]) = cost L d + brk L d.length m (prev d d.length) := by
  unfold cost
  rw [List.length_append]
  show brokenK L (d ++ [m]) d.length + brk L d.length ((d ++ [m]).getD d.length 0) (prev (d ++ [m]) d.length) = _
  rw [brokenK_app L d [m] d.length (Nat.le_refl _)]
  have h1 : (d ++ [m]).getD d.length 0 = m := by simp [List.getD]
  have h2 : prev (d ++ [m]) d.length = prev d d.length := by
    unfold prev
    by_cases h0 : d.length = 0
    · rw [if_pos h0, if_pos h0]
    · rw [if_neg h0, if_neg h0, getD_app (by omega)]
  rw [h1, h2]
theorem prev_snoc (d : List Nat) (m : Nat) : prev (d ++ [m]) (d ++ [m]).length = m := by
  unfold prev
  rw [List.length_append, if_neg (by simp)]
  simp [List.getD]
/-- Who is left. -/
def LeftOf (n : Nat) (d : List Nat) (left : Nat) : Prop := left < 2 ^ n ∧ ∀ j, j < n → (left.testBit j = true ↔ j ∉ d)
theorem left_start (n : Nat) : LeftOf n [] (full n) := ⟨full_lt8, fun j hj => ⟨fun _ => by simp, fun _ => full_bits hj⟩⟩
theorem left_rest {n left : Nat} {d : List Nat} (h : LeftOf n d left) : rest n d n = menOf n left := by
  unfold rest menOf
  apply List.filter_congr
  intro i hi
  have := h.2 i (List.mem_range.1 hi)
  by_cases hd : i ∈ d
  · have h1 : left.testBit i = false := by
      cases hb : left.testBit i with
      | false => rfl
      | true => exact absurd hd (this.1 hb)
    simp [hd, h1]
  · simp [hd, this.2 hd]
theorem left_step {n left m : Nat} {d : List Nat} (hn : n ≤ 8) (h : LeftOf n d left) (hm : m < n) (hb : left.testBit m = true) : LeftOf n (d ++ [m]) (left - 2 ^ m) := by
  refine ⟨Nat.lt_of_le_of_lt (Nat.sub_le _ _) h.1, fun j hj => ?_⟩
  rw [clr_bits left (lt256 hn h.1) m (by omega) hb j (by omega)]
  have := h.2 j hj
  by_cases e : j = m
  · subst e; simp
  · simp [e, this]
theorem left_plot {n left : Nat} {d : List Nat} (h : LeftOf n d left) (hd : d.Nodup) (hl : ∀ m ∈ d, m < n) : plotOf n left = d.length := by
  have h1 := rest_len hd hl
  have h2 := left_rest h
  unfold rest at h2
  unfold plotOf
  rw [← h2]; omega
theorem goOn_cut {n : Nat} {c : List Nat → Nat} {most f : Nat} {d : List Nat} (h : c d > most) : goOnF n c most f d = [] := by
  cases f with
  | zero => unfold goOnF; rw [if_pos h]
  | succ f => unfold goOnF; rw [if_pos h]
theorem goOn_succ {n : Nat} {c : List Nat → Nat} {most f : Nat} {d : List Nat} (h : ¬ c d > most) (hf : d.length ≠ n) : goOnF n c most (f + 1) d = (rest n d n).flatMap fun i => goOnF n c most f (d ++ [i]) := by
  show (if c d > most then [] else if d.length = n then [d] else _) = _
  rw [if_neg h, if_neg hf]; rfl
theorem goOn_zero {n : Nat} {c : List Nat → Nat} {most : Nat} {d : List Nat} (h : ¬ c d > most) (hf : d.length = n) : goOnF n c most 0 d = [d] := by
  unfold goOnF; rw [if_neg h, if_pos hf]
theorem snoc_nodup {d : List Nat} {i : Nat} (hd : d.Nodup) (hi : i ∉ d) : (d ++ [i]).Nodup := by
  rw [List.nodup_append]
  refine ⟨hd, by simp, fun x hx y hy e => ?_⟩
  simp at hy
  subst hy
  subst e
  exact hi hx
theorem snoc_lt {n : Nat} {d : List Nat} {i : Nat} (hd : ∀ m ∈ d, m < n) (hi : i < n) : ∀ m ∈ d ++ [i], m < n := by
  intro m hm
  rcases List.mem_append.1 hm with hm | hm
  · exact hd m hm
  · simp at hm; subst hm; exact hi
/-- Those that break nothing. -/
theorem goOn_lawful (hn : L.n ≤ 8) : ∀ (f : Nat) (d : List Nat) (left : Nat), d.length + f = L.n → d.Nodup → (∀ m ∈ d, m < L.n) → LeftOf L.n d left → cost L d = 0 → goOnF L.n (cost L) 0 f d = (allF L f left (prev d d.length)).map (d ++ ·)
  | 0, d, left, hf, hd, hl, hleft, hc => by
    rw [goOn_zero (by omega) (by omega)]
    show _ = [[]].map (d ++ ·)
    simp
  | f + 1, d, left, hf, hd, hl, hleft, hc => by
    have hplot := left_plot hleft hd hl
    have h0 : left ≠ 0 := fun e => by
      subst e
      have : menOf L.n 0 = [] := by unfold menOf; simp
      unfold plotOf at hplot
      rw [this] at hplot
      simp at hplot
      omega
    rw [goOn_succ (by omega) (by omega), allF_succ, if_neg h0, left_rest hleft, List.map_flatMap]
    refine flatMap_congr' _ fun m hm => ?_
    obtain ⟨h1, h2⟩ := menOf_mem.1 hm
    have hnot := (hleft.2 m h1).1 h2
    have hcs := cost_snoc L d m
    rw [hplot]
    by_cases hb : brk L d.length m (prev d d.length) = 0
    · rw [if_pos hb, goOn_lawful hn f (d ++ [m]) (left - 2 ^ m) (by simp; omega) (snoc_nodup hd hnot) (snoc_lt hl h1) (left_step hn hleft h1 h2) (by omega), prev_snoc]
      rw [List.map_map]
      apply List.map_congr_left
      intro r _
      simp
    · rw [if_neg hb, goOn_cut (by omega)]; rfl
theorem goOn_all (hn : L.n ≤ 8) : goOnF L.n (cost L) 0 L.n [] = allD L := by
  rw [goOn_lawful hn L.n [] (full L.n) (by simp) (by simp) (by simp) (left_start _) rfl]
  have e : (allF L L.n (full L.n) (prev [] 0)) = allD L := by
    unfold allD allL
    have key : ∀ k, L.n ≤ k → allF L k (full L.n) 8 = allF L L.n (full L.n) 8 := by
      intro k
      induction k with
      | zero => intro h; have : L.n = 0 := by omega
                rw [this]
      | succ k ih =>
        intro h
        by_cases hk : L.n = k + 1
        · rw [hk]
        · rw [← allF_stable L hn k (full L.n) 8 full_lt8 (Nat.le_trans (menOf_len_le _ _) (by omega))]
          exact ih (by omega)
    exact (key 9 (by omega)).symm
  show (allF L L.n (full L.n) (prev [] 0)).map (fun r => [] ++ r) = _
  rw [e]; simp
theorem cost_app_le (L : Lts) (d e : List Nat) : cost L d ≤ cost L (d ++ e) := by
  unfold cost
  rw [List.length_append, ← brokenK_app L d e d.length (Nat.le_refl _)]
  have : ∀ k, brokenK L (d ++ e) d.length ≤ brokenK L (d ++ e) (d.length + k) := by
    intro k
    induction k with
    | zero => exact Nat.le_refl _
    | succ k ih => exact Nat.le_trans ih (Nat.le_add_right _ _)
  exact this _
/-- Those that break at most so many. -/
theorem goOn_mem (hn : L.n ≤ 8) (most : Nat) : ∀ (f : Nat) (d : List Nat) (left : Nat), d.length + f = L.n → d.Nodup → (∀ m ∈ d, m < L.n) → LeftOf L.n d left → ∀ e, e ∈ goOnF L.n (cost L) most f d ↔ ∃ r, e = d ++ r ∧ RP L.n r left ∧ cost L e ≤ most
  | 0, d, left, hf, hd, hl, hleft, e => by
    have hplot := left_plot hleft hd hl
    have h0 : left = 0 := menOf_nil hleft.1 (by have := menOf_len_le L.n left; unfold plotOf at hplot; omega)
    subst h0
    by_cases hc : cost L d > most
    · rw [goOn_cut hc]
      constructor
      · intro h; cases h
      · rintro ⟨r, rfl, _, h⟩
        have := cost_app_le L d r; omega
    · rw [goOn_zero hc (by omega)]
      simp only [List.mem_singleton]
      constructor
      · rintro rfl; exact ⟨[], by simp, rfl, by omega⟩
      · rintro ⟨r, rfl, hr, _⟩
        cases r with
        | nil => simp
        | cons m r => have := hr.2.1; simp at this
  | f + 1, d, left, hf, hd, hl, hleft, e => by
    have hplot := left_plot hleft hd hl
    by_cases hc : cost L d > most
    · rw [goOn_cut hc]
      constructor
      · intro h; cases h
      · rintro ⟨r, rfl, _, h⟩
        have := cost_app_le L d r; omega
    · rw [goOn_succ hc (by omega), left_rest hleft, List.mem_flatMap]
      constructor
      · rintro ⟨m, hm, he⟩
        obtain ⟨h1, h2⟩ := menOf_mem.1 hm
        have hnot := (hleft.2 m h1).1 h2
        obtain ⟨r, rfl, hr, hcst⟩ := (goOn_mem hn most f (d ++ [m]) (left - 2 ^ m) (by simp; omega) (snoc_nodup hd hnot) (snoc_lt hl h1) (left_step hn hleft h1 h2) e).1 he
        exact ⟨m :: r, by simp, ⟨h1, h2, hr⟩, hcst⟩
      · rintro ⟨r, rfl, hr, hcst⟩
        cases r with
        | nil =>
          have h0 : left = 0 := hr
          subst h0
          have : menOf L.n 0 = [] := by unfold menOf; simp
          unfold plotOf at hplot
          rw [this] at hplot
          simp at hplot
          omega
        | cons m r =>
          obtain ⟨h1, h2, hr⟩ := hr
          have hnot := (hleft.2 m h1).1 h2
          refine ⟨m, menOf_mem.2 ⟨h1, h2⟩, ?_⟩
          exact (goOn_mem hn most f (d ++ [m]) (left - 2 ^ m) (by simp; omega) (snoc_nodup hd hnot) (snoc_lt hl h1) (left_step hn hleft h1 h2) _).2 ⟨r, by simp, hr, hcst⟩
theorem lexLt_app : ∀ (d a b : List Nat), lexLt a b → lexLt (d ++ a) (d ++ b)
  | [], _, _, h => h
  | x :: d, a, b, h => .inr ⟨rfl, lexLt_app d a b h⟩
theorem goOn_sorted (hn : L.n ≤ 8) (most : Nat) : ∀ (f : Nat) (d : List Nat) (left : Nat), d.length + f = L.n → d.Nodup → (∀ m ∈ d, m < L.n) → LeftOf L.n d left → (goOnF L.n (cost L) most f d).Pairwise lexLt
  | 0, d, left, hf, hd, hl, hleft => by
    by_cases hc : cost L d > most
    · rw [goOn_cut hc]; exact List.Pairwise.nil
    · rw [goOn_zero hc (by omega)]; exact List.pairwise_singleton _ _
  | f + 1, d, left, hf, hd, hl, hleft => by
    by_cases hc : cost L d > most
    · rw [goOn_cut hc]; exact List.Pairwise.nil
    · rw [goOn_succ hc (by omega), left_rest hleft]
      have key : ∀ (l : List Nat), l.Pairwise (· < ·) → (∀ m ∈ l, m ∈ menOf L.n left) → (l.flatMap fun m => goOnF L.n (cost L) most f (d ++ [m])).Pairwise lexLt := by
        intro l
        induction l with
        | nil => intro _ _; exact List.Pairwise.nil
        | cons m l ih =>
          intro hs hl'
          obtain ⟨hs1, hs2⟩ := List.pairwise_cons.1 hs
          obtain ⟨h1, h2⟩ := menOf_mem.1 (hl' m (by simp))
          have hnot := (hleft.2 m h1).1 h2
          rw [List.flatMap_cons, List.pairwise_append]
          refine ⟨goOn_sorted hn most f (d ++ [m]) (left - 2 ^ m) (by simp; omega) (snoc_nodup hd hnot) (snoc_lt hl h1) (left_step hn hleft h1 h2), ih hs2 (fun x hx => hl' x (by simp [hx])), ?_⟩
          intro a ha b hb
          obtain ⟨r, rfl, _, _⟩ := (goOn_mem hn most f (d ++ [m]) (left - 2 ^ m) (by simp; omega) (snoc_nodup hd hnot) (snoc_lt hl h1) (left_step hn hleft h1 h2) a).1 ha
          obtain ⟨m', hm', hb'⟩ := List.mem_flatMap.1 hb
          obtain ⟨h1', h2'⟩ := menOf_mem.1 (hl' m' (by simp [hm']))
          have hnot' := (hleft.2 m' h1').1 h2'
          obtain ⟨r', rfl, _, _⟩ := (goOn_mem hn most f (d ++ [m']) (left - 2 ^ m') (by simp; omega) (snoc_nodup hd hnot') (snoc_lt hl h1') (left_step hn hleft h1' h2') b).1 hb'
          rw [List.append_assoc, List.append_assoc]
          exact lexLt_app d _ _ (.inl (hs1 m' hm'))
      exact key _ (menOf_sorted _ _) (fun m hm => hm)
/-- The first of those that break the fewest. -/
theorem goOn_least (hn : L.n ≤ 8) {most : Nat} : (most < fewA L → goOnF L.n (cost L) most L.n [] = []) ∧ (most = fewA L → (goOnF L.n (cost L) most L.n [])[0]? = some (leastA L)) := by
  have hmem := goOn_mem hn most L.n [] (full L.n) (by simp) (by simp) (by simp) (left_start _)
  have hsort := goOn_sorted hn most L.n [] (full L.n) (by simp) (by simp) (by simp) (left_start _)
  have hcost := least_cost (L := L) hn
  constructor
  · intro h
    refine List.eq_nil_iff_forall_not_mem.2 fun e he => ?_
    obtain ⟨r, he', hr, hc⟩ := (hmem e).1 he
    rw [List.nil_append] at he'
    subst he'
    have := (least_min hn ((rp_full hn).1 hr)).1
    have h2 : cost L e = brokenK L e e.length := rfl
    omega
  · intro h
    have hin : leastA L ∈ goOnF L.n (cost L) most L.n [] := (hmem _).2 ⟨leastA L, rfl, (rp_full hn).2 (least_perm hn), by show brokenK L (leastA L) _ ≤ _; omega⟩
    cases hg : goOnF L.n (cost L) most L.n [] with
    | nil => rw [hg] at hin; cases hin
    | cons e l =>
      rw [hg] at hin hsort
      obtain ⟨r, he, hr, hc⟩ := (hmem e).1 (by rw [hg]; simp)
      rw [List.nil_append] at he
      subst he
      have hmin := least_min hn ((rp_full hn).1 hr)
      have h2 : cost L e = brokenK L e e.length := rfl
      rcases hmin.2 (by omega) with h3 | h3
      · rw [h3]; rfl
      · rcases List.mem_cons.1 hin with h4 | h4
        · rw [← h4]; rfl
        · have := (List.pairwise_cons.1 hsort).1 _ h4
          exact absurd (lexLt_trans _ _ _ h3 this) (lexLt_irrefl _)
end
end Go.Proofs.Ytocnkdkgajdejaa.G

/- More of the functions' shallow texts, by gen.py. -/
set_option linter.unusedVariables false
set_option maxRecDepth 100000
namespace Go.Proofs.Ytocnkdkgajdejaa.G
open Go.V
def an_5 : Nat → Ann := fun b => match b with
  | 0 => { ms := [4, 189], ks := [.b, .i .i64], us := [2, 10, 13, 20, 21, 22, 188, 277], rt := false, ex := [] }
  | _ => {}
abbrev rv_5 : List ResultVar := [.tmp 4]
abbrev rs_5 : List Nat := [277, 4]
def L_law03_LotLawful_0 (W : World) (R : Ending → Hp → Prop) (za0 : Addr) (zp1 : Option Addr) (zl2 : Nat) (zl3 : Nat) (zn4 : Int) (zb5 : Bool) (zb6 : Bool) (zb7 : Bool) (zn8 : Int) (b174 : Bool) (n175 : Int) : Hp → Prop :=
  LOOPN [.b, .i .i64] (fun ys next s => ∀ j : Tm, vc Pg W 277 rs_5 an_5 false (sub (bodyOf Try.f5) [1, 1, 1, 1, 1, 1, 1, 1, 1, 1, 1, 1, 1, 1, 0, 1, 0, 0]) 0 (KLoop [4, 189] [2, 10, 13, 20, 21, 22, 188, 277] [(.pointer (some za0)), (.slice zp1 zl2 zl3), (.int .i64 zn4), (.bool zb5), (.bool zb6), (.bool zb7), (.int .i64 zn8), (.tuple #[])] next (KBlk 0 (KS Pg W 277 rs_5 an_5 false (sub (bodyOf Try.f5) [1, 1, 1, 1, 1, 1, 1, 1, 1, 1, 1, 1, 1, 1, 1]) 0 (fin Pg W 277 rv_5 R)))) (known [4, 189] ys (known [2, 10, 13, 20, 21, 22, 188, 277] [(.pointer (some za0)), (.slice zp1 zl2 zl3), (.int .i64 zn4), (.bool zb5), (.bool zb6), (.bool zb7), (.int .i64 zn8), (.tuple #[])] j)) s) [(.bool b174), (.int .i64 n175)]
def J_law03_LotLawful_0 (W : World) (R : Ending → Hp → Prop) (b119 : Bool) (n98 : Int) (n116 : Int) : Hp → Prop :=
  BR b119
    (BR (decide (n98 ≥ 0))
      (BR (n116 == 0)
        (CALL Pg W F_law03_awake []
          (fun v120 => TYB v120 fun b122 =>
            R (.returned (.bool b122)))
            (fun e121 => R (.panicked e121)))
        (R (.returned (.bool false))))
      (R (.returned (.bool false))))
    (R (.returned (.bool false)))
def J_law03_LotLawful_1 (W : World) (R : Ending → Hp → Prop) (b118 : Bool) (n101 : Int) (n98 : Int) (n116 : Int) : Hp → Prop :=
  BR b118
    (J_law03_LotLawful_0 W R (n101 == 0) n98 n116)
    (J_law03_LotLawful_0 W R false n98 n116)
def J_law03_LotLawful_2 (W : World) (R : Ending → Hp → Prop) (b117 : Bool) (n85 : Int) (n101 : Int) (n98 : Int) (n116 : Int) : Hp → Prop :=
  BR b117
    (J_law03_LotLawful_1 W R (n85 == 0) n101 n98 n116)
    (J_law03_LotLawful_1 W R false n101 n98 n116)
def J_law03_LotLawful_3 (W : World) (R : Ending → Hp → Prop) (B8 : Nat) (x63 : Option Addr) (l64 : Nat) (c65 : Nat) (n85 : Int) (b167 : Bool) (b170 : Bool) (b173 : Bool) (n82 : Int) : Hp → Prop :=
  L_law03_LotLawful_0 W R ⟨B8, 0, none⟩ x63 l64 c65 n85 b167 b170 b173 n82 false 0
def J_law03_LotLawful_4 (W : World) (R : Ending → Hp → Prop) (B138 : Nat) (B8 : Nat) (n82 : Int) (x63 : Option Addr) (l64 : Nat) (c65 : Nat) (n85 : Int) (b167 : Bool) (b170 : Bool) : Hp → Prop :=
  RDB (Addr.add ⟨B138, 0, none⟩ 2) fun b171 =>
    BR b171
      (RDI .i64 (Addr.add ⟨B8, 0, none⟩ 1) fun n172 =>
        NNI n82 <|
          J_law03_LotLawful_3 W R B8 x63 l64 c65 n85 b167 b170 ((andv .i64 (shrv .i64 n172 n82) 1) == 1) n82)
      (J_law03_LotLawful_3 W R B8 x63 l64 c65 n85 b167 b170 false n82)
def J_law03_LotLawful_5 (W : World) (R : Ending → Hp → Prop) (b169 : Bool) (B138 : Nat) (B8 : Nat) (n82 : Int) (x63 : Option Addr) (l64 : Nat) (c65 : Nat) (n85 : Int) (b167 : Bool) : Hp → Prop :=
  BR b169
    (J_law03_LotLawful_4 W R B138 B8 n82 x63 l64 c65 n85 b167 (decide (n82 < (IntKind.wrap .i64 ((↑l64 : Int) - 1)))))
    (J_law03_LotLawful_4 W R B138 B8 n82 x63 l64 c65 n85 b167 false)
def J_law03_LotLawful_6 (W : World) (R : Ending → Hp → Prop) (B138 : Nat) (n82 : Int) (B8 : Nat) (x63 : Option Addr) (l64 : Nat) (c65 : Nat) (n85 : Int) (b167 : Bool) : Hp → Prop :=
  RDB (Addr.add ⟨B138, 0, none⟩ 1) fun b168 =>
    BR b168
      (J_law03_LotLawful_5 W R (decide (n82 > 0)) B138 B8 n82 x63 l64 c65 n85 b167)
      (J_law03_LotLawful_5 W R false B138 B8 n82 x63 l64 c65 n85 b167)
def J_law03_LotLawful_7 (W : World) (R : Ending → Hp → Prop) (b150 : Bool) (B138 : Nat) (B8 : Nat) (x63 : Option Addr) (l64 : Nat) (n82 : Int) (c65 : Nat) (n85 : Int) : Hp → Prop :=
  BR b150
    (RDI .i64 (Addr.add ⟨B138, 0, none⟩ 0) fun n151 =>
      RDL (Addr.add ⟨B8, 0, none⟩ 0) fun x152 l153 c154 =>
        ANDS (RDL (Addr.add ⟨B8, 0, none⟩ 0) fun x158 l159 c160 =>
          fun _ => ((.slice x158 l159 c160) : Value) = (.slice x152 l153 c154)) <|
          ANDS (RDI .i64 (Addr.add ⟨B138, 0, none⟩ 0) fun n162 =>
            fun _ => ((.int .i64 n162) : Value) = (.int .i64 n151)) <|
            IXS x63 l64 (if (IntKind.wrap .i64 (n82 - 1)) > 0 then (IntKind.wrap .i64 (n82 - 1)) else 0) 1 fun a163 =>
              RDI .i64 a163 fun n164 =>
                IXS x152 l153 n164 3 fun a165 =>
                  RDI .i64 (Addr.add a165 0) fun n166 =>
                    J_law03_LotLawful_6 W R B138 n82 B8 x63 l64 c65 n85 (n151 == n166))
    (J_law03_LotLawful_6 W R B138 n82 B8 x63 l64 c65 n85 false)
def J_law03_LotLawful_8 (W : World) (R : Ending → Hp → Prop) (b128 : Bool) (B8 : Nat) (x63 : Option Addr) (l64 : Nat) (n82 : Int) (c65 : Nat) (n85 : Int) : Hp → Prop :=
  BR b128
    (R (.returned (.bool false)))
    (RDL (Addr.add ⟨B8, 0, none⟩ 0) fun x129 l130 c131 =>
      IXS x63 l64 n82 1 fun a132 =>
        RDI .i64 a132 fun n133 =>
          IXS x129 l130 n133 3 fun a134 =>
            RDI .i64 (Addr.add a134 0) fun n135 =>
              RDB (Addr.add a134 1) fun b136 =>
                RDB (Addr.add a134 2) fun b137 =>
                  NEWZ Pg 51 fun B138 =>
                    ANDS (RDI .i64 (Addr.add a134 0) fun n139 =>
                      RDB (Addr.add a134 1) fun b140 =>
                        RDB (Addr.add a134 2) fun b141 =>
                          fun _ => ((.agg #[(.int .i64 n139), (.bool b140), (.bool b141)]) : Value) = (.agg #[(.int .i64 n135), (.bool b136), (.bool b137)])) <|
                      ANDS (RDI .i64 a132 fun n142 =>
                        fun _ => ((.int .i64 n142) : Value) = (.int .i64 n133)) <|
                        ANDS (RDL (Addr.add ⟨B8, 0, none⟩ 0) fun x143 l144 c145 =>
                          fun _ => ((.slice x143 l144 c145) : Value) = (.slice x129 l130 c131)) <|
                          WR (Addr.add ⟨B138, 0, none⟩ 0) (.int .i64 n135) <|
                            WR (Addr.add ⟨B138, 0, none⟩ 1) (.bool b136) <|
                              WR (Addr.add ⟨B138, 0, none⟩ 2) (.bool b137) <|
                                BR (decide (n82 > 0))
                                  (RDI .i64 (Addr.add ⟨B138, 0, none⟩ 0) fun n146 =>
                                    J_law03_LotLawful_7 W R (n146 != 0) B138 B8 x63 l64 n82 c65 n85)
                                  (J_law03_LotLawful_7 W R false B138 B8 x63 l64 n82 c65 n85))
def J_law03_LotLawful_9 (W : World) (R : Ending → Hp → Prop) (b127 : Bool) (B8 : Nat) (x63 : Option Addr) (l64 : Nat) (n82 : Int) (c65 : Nat) (n85 : Int) : Hp → Prop :=
  BR b127
    (J_law03_LotLawful_8 W R true B8 x63 l64 n82 c65 n85)
    (J_law03_LotLawful_8 W R (decide (n82 ≥ (↑l64 : Int))) B8 x63 l64 n82 c65 n85)
def J_law03_LotLawful_10 (W : World) (R : Ending → Hp → Prop) (b126 : Bool) (B8 : Nat) (x63 : Option Addr) (l64 : Nat) (n82 : Int) (c65 : Nat) (n85 : Int) : Hp → Prop :=
  BR b126
    (J_law03_LotLawful_9 W R true B8 x63 l64 n82 c65 n85)
    (J_law03_LotLawful_9 W R (decide (n82 < 0)) B8 x63 l64 n82 c65 n85)
def J_law03_LotLawful_11 (W : World) (R : Ending → Hp → Prop) (b125 : Bool) (B8 : Nat) (x63 : Option Addr) (l64 : Nat) (n82 : Int) (c65 : Nat) (n85 : Int) (l112 : Nat) : Hp → Prop :=
  BR b125
    (J_law03_LotLawful_10 W R true B8 x63 l64 n82 c65 n85)
    (J_law03_LotLawful_10 W R ((↑l112 : Int) != 0) B8 x63 l64 n82 c65 n85)
def J_law03_LotLawful_12 (W : World) (R : Ending → Hp → Prop) (b124 : Bool) (B8 : Nat) (x63 : Option Addr) (l64 : Nat) (n82 : Int) (c65 : Nat) (n85 : Int) (l112 : Nat) (n116 : Int) : Hp → Prop :=
  BR b124
    (J_law03_LotLawful_11 W R true B8 x63 l64 n82 c65 n85 l112)
    (J_law03_LotLawful_11 W R (n116 != 4) B8 x63 l64 n82 c65 n85 l112)
def J_law03_LotLawful_13 (W : World) (R : Ending → Hp → Prop) (b123 : Bool) (B8 : Nat) (x63 : Option Addr) (l64 : Nat) (n82 : Int) (c65 : Nat) (n85 : Int) (l112 : Nat) (n116 : Int) (n98 : Int) : Hp → Prop :=
  BR b123
    (J_law03_LotLawful_12 W R true B8 x63 l64 n82 c65 n85 l112 n116)
    (J_law03_LotLawful_12 W R (n98 != 0) B8 x63 l64 n82 c65 n85 l112 n116)
def J_law03_LotLawful_14 (W : World) (R : Ending → Hp → Prop) (b239 : Bool) (za0 : Addr) (zp1 : Option Addr) (zl2 : Nat) (zl3 : Nat) (zn4 : Int) (zb5 : Bool) (zb6 : Bool) (zb7 : Bool) (zn8 : Int) (nx0 : List Value → Hp → Prop) (b174 : Bool) (n175 : Int) : Hp → Prop :=
  BR b239
    (R (.returned (.bool false)))
    (NX [(.pointer (some za0)), (.slice zp1 zl2 zl3), (.int .i64 zn4), (.bool zb5), (.bool zb6), (.bool zb7), (.int .i64 zn8), (.tuple #[])] [(.pointer (some za0)), (.slice zp1 zl2 zl3), (.int .i64 zn4), (.bool zb5), (.bool zb6), (.bool zb7), (.int .i64 zn8), (.tuple #[])] (nx0 [(.bool b174), (.int .i64 (IntKind.wrap .i64 (n175 + 1)))]))
def J_law03_LotLawful_15 (W : World) (R : Ending → Hp → Prop) (b238 : Bool) (za0 : Addr) (zp1 : Option Addr) (zl2 : Nat) (zl3 : Nat) (zn4 : Int) (zb5 : Bool) (zb6 : Bool) (zb7 : Bool) (zn8 : Int) (nx0 : List Value → Hp → Prop) (b174 : Bool) (n175 : Int) (B185 : Nat) : Hp → Prop :=
  BR b238
    (J_law03_LotLawful_14 W R true za0 zp1 zl2 zl3 zn4 zb5 zb6 zb7 zn8 nx0 b174 n175)
    (RDB (Addr.add ⟨B185, 0, none⟩ 2) fun b240 =>
      BR b240
        (RDI .i64 (Addr.add za0 1) fun n241 =>
          NNI n175 <|
            J_law03_LotLawful_14 W R ((andv .i64 (shrv .i64 n241 n175) 1) == 1) za0 zp1 zl2 zl3 zn4 zb5 zb6 zb7 zn8 nx0 b174 n175)
        (J_law03_LotLawful_14 W R false za0 zp1 zl2 zl3 zn4 zb5 zb6 zb7 zn8 nx0 b174 n175))
def J_law03_LotLawful_16 (W : World) (R : Ending → Hp → Prop) (b220 : Bool) (za0 : Addr) (zp1 : Option Addr) (zl2 : Nat) (zl3 : Nat) (zn4 : Int) (zb5 : Bool) (zb6 : Bool) (zb7 : Bool) (zn8 : Int) (nx0 : List Value → Hp → Prop) (b174 : Bool) (n175 : Int) (B185 : Nat) : Hp → Prop :=
  BR b220
    (J_law03_LotLawful_15 W R true za0 zp1 zl2 zl3 zn4 zb5 zb6 zb7 zn8 nx0 b174 n175 B185)
    (RDB (Addr.add ⟨B185, 0, none⟩ 1) fun b242 =>
      BR b242
        (J_law03_LotLawful_15 W R (decide (n175 > 0)) za0 zp1 zl2 zl3 zn4 zb5 zb6 zb7 zn8 nx0 b174 n175 B185)
        (J_law03_LotLawful_15 W R false za0 zp1 zl2 zl3 zn4 zb5 zb6 zb7 zn8 nx0 b174 n175 B185))
def J_law03_LotLawful_17 (W : World) (R : Ending → Hp → Prop) (b197 : Bool) (B185 : Nat) (za0 : Addr) (zp1 : Option Addr) (zl2 : Nat) (n175 : Int) (zl3 : Nat) (zn4 : Int) (zb5 : Bool) (zb6 : Bool) (zb7 : Bool) (zn8 : Int) (nx0 : List Value → Hp → Prop) (b174 : Bool) : Hp → Prop :=
  BR b197
    (RDI .i64 (Addr.add ⟨B185, 0, none⟩ 0) fun n198 =>
      RDL (Addr.add za0 0) fun x199 l200 c201 =>
        IXS zp1 zl2 (IntKind.wrap .i64 (n175 - 1)) 1 fun a202 =>
          RDI .i64 a202 fun n203 =>
            IXS x199 l200 n203 3 fun a204 =>
              RDI .i64 (Addr.add a204 0) fun n205 =>
                J_law03_LotLawful_16 W R (n198 == n205) za0 zp1 zl2 zl3 zn4 zb5 zb6 zb7 zn8 nx0 b174 n175 B185)
    (J_law03_LotLawful_16 W R false za0 zp1 zl2 zl3 zn4 zb5 zb6 zb7 zn8 nx0 b174 n175 B185)
def J_law03_LotLawful_18 (W : World) (R : Ending → Hp → Prop) (b244 : Bool) (zn4 : Int) (zb5 : Bool) (zb6 : Bool) (zb7 : Bool) : Hp → Prop :=
  BR b244
    (CALL Pg W F_law03_awake []
      (fun v245 => TYB v245 fun b247 =>
        R (.returned (.bool b247)))
        (fun e246 => R (.panicked e246)))
    (BR (zn4 == 3)
      (BR (!zb5)
        (BR (!zb6)
          (BR zb7
            (CALL Pg W F_law03_awake []
              (fun v248 => TYB v248 fun b250 =>
                R (.returned (.bool b250)))
                (fun e249 => R (.panicked e249)))
            (R (.returned (.bool false))))
          (R (.returned (.bool false))))
        (R (.returned (.bool false))))
      (R (.returned (.bool false))))
def J_law03_LotLawful_19 (W : World) (R : Ending → Hp → Prop) (b243 : Bool) (zn4 : Int) (zb5 : Bool) (zb6 : Bool) (zb7 : Bool) : Hp → Prop :=
  BR b243
    (J_law03_LotLawful_18 W R true zn4 zb5 zb6 zb7)
    (BR (zn4 == 2)
      (BR (!zb5)
        (J_law03_LotLawful_18 W R zb6 zn4 zb5 zb6 zb7)
        (J_law03_LotLawful_18 W R false zn4 zb5 zb6 zb7))
      (J_law03_LotLawful_18 W R false zn4 zb5 zb6 zb7))
def B_law03_LotLawful_0 (W : World) (R : Ending → Hp → Prop) (za0 : Addr) (zp1 : Option Addr) (zl2 : Nat) (zl3 : Nat) (zn4 : Int) (zb5 : Bool) (zb6 : Bool) (zb7 : Bool) (zn8 : Int) (b174 : Bool) (n175 : Int) (nx0 : List Value → Hp → Prop) : Hp → Prop :=
  BR (decide (n175 < zn8))
    (RDL (Addr.add za0 0) fun x176 l177 c178 =>
      IXS zp1 zl2 n175 1 fun a179 =>
        RDI .i64 a179 fun n180 =>
          IXS x176 l177 n180 3 fun a181 =>
            RDI .i64 (Addr.add a181 0) fun n182 =>
              RDB (Addr.add a181 1) fun b183 =>
                RDB (Addr.add a181 2) fun b184 =>
                  NEWZ Pg 51 fun B185 =>
                    ANDS (RDI .i64 (Addr.add a181 0) fun n186 =>
                      RDB (Addr.add a181 1) fun b187 =>
                        RDB (Addr.add a181 2) fun b188 =>
                          fun _ => ((.agg #[(.int .i64 n186), (.bool b187), (.bool b188)]) : Value) = (.agg #[(.int .i64 n182), (.bool b183), (.bool b184)])) <|
                      ANDS (RDI .i64 a179 fun n189 =>
                        fun _ => ((.int .i64 n189) : Value) = (.int .i64 n180)) <|
                        ANDS (RDL (Addr.add za0 0) fun x190 l191 c192 =>
                          fun _ => ((.slice x190 l191 c192) : Value) = (.slice x176 l177 c178)) <|
                          WR (Addr.add ⟨B185, 0, none⟩ 0) (.int .i64 n182) <|
                            WR (Addr.add ⟨B185, 0, none⟩ 1) (.bool b183) <|
                              WR (Addr.add ⟨B185, 0, none⟩ 2) (.bool b184) <|
                                BR (decide (n175 > 0))
                                  (RDI .i64 (Addr.add ⟨B185, 0, none⟩ 0) fun n193 =>
                                    J_law03_LotLawful_17 W R (n193 != 0) B185 za0 zp1 zl2 n175 zl3 zn4 zb5 zb6 zb7 zn8 nx0 b174)
                                  (J_law03_LotLawful_17 W R false B185 za0 zp1 zl2 n175 zl3 zn4 zb5 zb6 zb7 zn8 nx0 b174))
    (BR (zn4 == 1)
      (J_law03_LotLawful_19 W R zb5 zn4 zb5 zb6 zb7)
      (J_law03_LotLawful_19 W R false zn4 zb5 zb6 zb7))
theorem B_law03_LotLawful_0_eq (W : World) (R : Ending → Hp → Prop) (za0 : Addr) (zp1 : Option Addr) (zl2 : Nat) (zl3 : Nat) (zn4 : Int) (zb5 : Bool) (zb6 : Bool) (zb7 : Bool) (zn8 : Int) (b174 : Bool) (n175 : Int) (nx0 : List Value → Hp → Prop) (j : Tm) : vc Pg W 277 rs_5 an_5 false (sub (bodyOf Try.f5) [1, 1, 1, 1, 1, 1, 1, 1, 1, 1, 1, 1, 1, 1, 0, 1, 0, 0]) 0 (KLoop [4, 189] [2, 10, 13, 20, 21, 22, 188, 277] [(.pointer (some za0)), (.slice zp1 zl2 zl3), (.int .i64 zn4), (.bool zb5), (.bool zb6), (.bool zb7), (.int .i64 zn8), (.tuple #[])] nx0 (KBlk 0 (KS Pg W 277 rs_5 an_5 false (sub (bodyOf Try.f5) [1, 1, 1, 1, 1, 1, 1, 1, 1, 1, 1, 1, 1, 1, 1]) 0 (fin Pg W 277 rv_5 R)))) (known [4, 189] [(.bool b174), (.int .i64 n175)] (known [2, 10, 13, 20, 21, 22, 188, 277] [(.pointer (some za0)), (.slice zp1 zl2 zl3), (.int .i64 zn4), (.bool zb5), (.bool zb6), (.bool zb7), (.int .i64 zn8), (.tuple #[])] j)) = B_law03_LotLawful_0 W R za0 zp1 zl2 zl3 zn4 zb5 zb6 zb7 zn8 b174 n175 nx0 := by kernel_rfl
def N_law03_LotLawful_0 (I : Bool → Int → Hp → Prop) (μ : Bool → Int → Hp → Nat) (b1740 : Bool) (n1750 : Int) (s : Hp) (vs : List Value) : Hp → Prop := fun s' => ∃ b174 n175, vs = [(.bool b174), (.int .i64 n175)] ∧ I b174 n175 s' ∧ μ b174 n175 s' < μ b1740 n1750 s
theorem L_law03_LotLawful_0_rule (W : World) (R : Ending → Hp → Prop) (za0 : Addr) (zp1 : Option Addr) (zl2 : Nat) (zl3 : Nat) (zn4 : Int) (zb5 : Bool) (zb6 : Bool) (zb7 : Bool) (zn8 : Int) (I : Bool → Int → Hp → Prop) (μ : Bool → Int → Hp → Nat) (b1740 : Bool) (n1750 : Int) (s : Hp) (h0 : I b1740 n1750 s)
    (hr : ∀ (b174 : Bool) (n175 : Int) (s : Hp), I b174 n175 s → B_law03_LotLawful_0 W R za0 zp1 zl2 zl3 zn4 zb5 zb6 zb7 zn8 b174 n175 (fun vs => N_law03_LotLawful_0 I μ b174 n175 s vs) s) : L_law03_LotLawful_0 W R za0 zp1 zl2 zl3 zn4 zb5 zb6 zb7 zn8 b1740 n1750 s := by
  refine ⟨fun vs s => ∃ b174 n175, vs = [(.bool b174), (.int .i64 n175)] ∧ I b174 n175 s, fun vs s => (match vs with | [.bool b174, .int _ n175] => μ b174 n175 s | _ => 0), ⟨⟨⟨_, rfl⟩, ⟨⟨_, rfl⟩, trivial⟩⟩, ⟨_, _, rfl, h0⟩⟩, ?_⟩
  intro b174 n175 s hI j
  obtain ⟨b174', n175', hy, hI⟩ := hI
  have hI' : I b174 n175 s := by cases hy; exact hI
  have hh := hr b174 n175 s hI'
  rw [← B_law03_LotLawful_0_eq W R za0 zp1 zl2 zl3 zn4 zb5 zb6 zb7 zn8 b174 n175 _ j] at hh
  refine vc_mono ?_ _ _ hh
  exact KLoop_mono (fun vs s' h => by obtain ⟨b1741, n1751, rfl, h1, h2⟩ := h; exact ⟨⟨⟨_, rfl⟩, ⟨⟨_, rfl⟩, trivial⟩⟩, ⟨_, _, rfl, h1⟩, h2⟩)
def T_law03_LotLawful (W : World) (x1 : Option Addr) (l2 : Nat) (c3 : Nat) (n4 : Int) (x5 : Option Addr) (l6 : Nat) (c7 : Nat) (R : Ending → Hp → Prop) : Hp → Prop :=
  NEW 24 [(.slice x1 l2 c3), (.int .i64 n4)] fun B8 =>
    RDL (Addr.add ⟨B8, 0, none⟩ 0) fun x9 l10 c11 =>
      RDI .i64 (Addr.add ⟨B8, 0, none⟩ 1) fun n12 =>
        CALL Pg W F_law03_far [(.agg #[(.slice x9 l10 c11), (.int .i64 n12)]), (.slice none 0 0), (.int .i64 8)]
          (fun v13 => TYB v13 fun b15 =>
            BR b15
              (CALL Pg W F_law03_awake []
                (fun v16 => TYB v16 fun b18 =>
                  R (.returned (.bool b18)))
                  (fun e17 => R (.panicked e17)))
              (RDL (Addr.add ⟨B8, 0, none⟩ 0) fun x19 l20 c21 =>
                RDI .i64 (Addr.add ⟨B8, 0, none⟩ 1) fun n22 =>
                  CALL Pg W F_ref03_Lots [(.agg #[(.slice x19 l20 c21), (.int .i64 n22)])]
                    (fun v23 => TYB v23 fun b25 =>
                      BR (!b25)
                        (RDL (Addr.add ⟨B8, 0, none⟩ 0) fun x26 l27 c28 =>
                          RDI .i64 (Addr.add ⟨B8, 0, none⟩ 1) fun n29 =>
                            CALL Pg W F_lot_Check [(.agg #[(.slice x26 l27 c28), (.int .i64 n29)]), (.slice none 0 0)]
                              (fun v30 => TUP v30 fun q32 => HD q32 fun v33 r34 => TYI .i64 v33 fun n35 =>
                                HD r34 fun v36 r37 => TYI .i64 v36 fun n38 =>
                                  HD r37 fun v39 r40 => TYI .i64 v39 fun n41 =>
                                    NL r40 <|
                                      RDL (Addr.add ⟨B8, 0, none⟩ 0) fun x42 l43 c44 =>
                                        RDI .i64 (Addr.add ⟨B8, 0, none⟩ 1) fun n45 =>
                                          CALL Pg W F_lot_Place [(.agg #[(.slice x42 l43 c44), (.int .i64 n45)]), (.slice none 0 0)]
                                            (fun v46 => TUP v46 fun q48 => HD q48 fun v49 r50 => TYI .i64 v49 fun n51 =>
                                              HD r50 fun v52 r53 => TYI .i64 v52 fun n54 =>
                                                NL r53 <|
                                                  BR (n41 == 1)
                                                    (BR (n54 == n41)
                                                      (CALL Pg W F_law03_awake []
                                                        (fun v55 => TYB v55 fun b57 =>
                                                          R (.returned (.bool b57)))
                                                          (fun e56 => R (.panicked e56)))
                                                      (R (.returned (.bool false))))
                                                    (R (.returned (.bool false))))
                                              (fun e47 => R (.panicked e47)))
                                (fun e31 => R (.panicked e31)))
                        (RDL (Addr.add ⟨B8, 0, none⟩ 0) fun x58 l59 c60 =>
                          CALL Pg W F_law03_made [(.int .i64 (↑l59 : Int)), (.slice x5 l6 c7)]
                            (fun v61 => TYL v61 fun x63 l64 c65 =>
                              RDL (Addr.add ⟨B8, 0, none⟩ 0) fun x66 l67 c68 =>
                                RDI .i64 (Addr.add ⟨B8, 0, none⟩ 1) fun n69 =>
                                  CALL Pg W F_law03_lawful [(.agg #[(.slice x66 l67 c68), (.int .i64 n69)]), (.slice x63 l64 c65)]
                                    (fun v70 => TYB v70 fun b72 =>
                                      RDL (Addr.add ⟨B8, 0, none⟩ 0) fun x73 l74 c75 =>
                                        RDI .i64 (Addr.add ⟨B8, 0, none⟩ 1) fun n76 =>
                                          CALL Pg W F_lot_Check [(.agg #[(.slice x73 l74 c75), (.int .i64 n76)]), (.slice x63 l64 c65)]
                                            (fun v77 => TUP v77 fun q79 => HD q79 fun v80 r81 => TYI .i64 v80 fun n82 =>
                                              HD r81 fun v83 r84 => TYI .i64 v83 fun n85 =>
                                                HD r84 fun v86 r87 => TYI .i64 v86 fun n88 =>
                                                  NL r87 <|
                                                    RDL (Addr.add ⟨B8, 0, none⟩ 0) fun x89 l90 c91 =>
                                                      RDI .i64 (Addr.add ⟨B8, 0, none⟩ 1) fun n92 =>
                                                        CALL Pg W F_lot_Place [(.agg #[(.slice x89 l90 c91), (.int .i64 n92)]), (.slice x63 l64 c65)]
                                                          (fun v93 => TUP v93 fun q95 => HD q95 fun v96 r97 => TYI .i64 v96 fun n98 =>
                                                            HD r97 fun v99 r100 => TYI .i64 v99 fun n101 =>
                                                              NL r100 <|
                                                                RDL (Addr.add ⟨B8, 0, none⟩ 0) fun x102 l103 c104 =>
                                                                  RDI .i64 (Addr.add ⟨B8, 0, none⟩ 1) fun n105 =>
                                                                    CALL Pg W F_lot_Swaps [(.agg #[(.slice x102 l103 c104), (.int .i64 n105)]), (.slice x63 l64 c65)]
                                                                      (fun v106 => TUP v106 fun q108 => HD q108 fun v109 r110 => TYL v109 fun x111 l112 c113 =>
                                                                        HD r110 fun v114 r115 => TYI .i64 v114 fun n116 =>
                                                                          NL r115 <|
                                                                            BR b72
                                                                              (BR (n88 == 4)
                                                                                (J_law03_LotLawful_2 W R (n82 == 0) n85 n101 n98 n116)
                                                                                (J_law03_LotLawful_2 W R false n85 n101 n98 n116))
                                                                              (BR (n88 != 0)
                                                                                (J_law03_LotLawful_13 W R true B8 x63 l64 n82 c65 n85 l112 n116 n98)
                                                                                (J_law03_LotLawful_13 W R (n101 != 4) B8 x63 l64 n82 c65 n85 l112 n116 n98)))
                                                                        (fun e107 => R (.panicked e107)))
                                                            (fun e94 => R (.panicked e94)))
                                              (fun e78 => R (.panicked e78)))
                                      (fun e71 => R (.panicked e71)))
                              (fun e62 => R (.panicked e62))))
                      (fun e24 => R (.panicked e24))))
            (fun e14 => R (.panicked e14))
theorem T_law03_LotLawful_eq (W : World) (x1 : Option Addr) (l2 : Nat) (c3 : Nat) (n4 : Int) (x5 : Option Addr) (l6 : Nat) (c7 : Nat) (R : Ending → Hp → Prop) : vfun Pg W an_5 Try.f5 [(.agg #[(.slice x1 l2 c3), (.int .i64 n4)]), (.slice x5 l6 c7)] R = T_law03_LotLawful W x1 l2 c3 n4 x5 l6 c7 R := by kernel_rfl
theorem does_law03_LotLawful (W : World) (x1 : Option Addr) (l2 : Nat) (c3 : Nat) (n4 : Int) (x5 : Option Addr) (l6 : Nat) (c7 : Nat) (R : Ending → Hp → Prop) (s : Hp) (h : T_law03_LotLawful W x1 l2 c3 n4 x5 l6 c7 R s) : Does Pg W F_law03_LotLawful #[(.agg #[(.slice x1 l2 c3), (.int .i64 n4)]), (.slice x5 l6 c7)] s R :=
  does_of_vfun Pg W an_5 Try.func5 rfl (by kernel_rfl) (by rw [T_law03_LotLawful_eq]; exact h)
end Go.Proofs.Ytocnkdkgajdejaa.G

/- The statement LotLawful: a draw is lawful just if nothing is broken by the words of the chapter. -/
set_option linter.unusedSimpArgs false
set_option linter.unusedVariables false
set_option maxRecDepth 20000
namespace Go.Proofs.Ytocnkdkgajdejaa.G
open Go.V Go.Lot
section
variable {W : World} {K : VK} {E : List PanicEntry → Hp → Prop} {s : Hp} {L : Lts}
theorem man_new3 {KK : Nat → Hp → Prop} {A1 A2 A3 : Hp → Prop} {a : Int} {b c : Bool} (hA : ∀ s', Ext s s' → A1 s' ∧ A2 s' ∧ A3 s')
    (h : ∀ s', Ext s s' → s'.size = s.size + 1 → Own s' (Addr.add ⟨s.size, 0, none⟩ 0) (.int .i64 a) → Own s' (Addr.add ⟨s.size, 0, none⟩ 1) (.bool b) → Own s' (Addr.add ⟨s.size, 0, none⟩ 2) (.bool c) → KK s.size s') :
    NEWZ Pg 51 (fun B => ANDS A1 <| ANDS A2 <| ANDS A3 <| WR (Addr.add ⟨B, 0, none⟩ 0) (.int .i64 a) <| WR (Addr.add ⟨B, 0, none⟩ 1) (.bool b) <| WR (Addr.add ⟨B, 0, none⟩ 2) (.bool c) <| KK B) s := by
  obtain ⟨h1, h2, h3⟩ := hA _ (Ext.push (Ext.refl s))
  exact ⟨h1, h2, h3, man_new h⟩
/-- A plot's ploughman, as it lies. -/
theorem man_at {x y : Option Addr} {d : List Nat} {k : Nat} (hm : MenAt s x L.men) (hy : RowAt s y (vals d)) (hd : ∀ m ∈ d, m < L.n) (hk : k < d.length) :
    ∃ a b, y = some a ∧ x = some b ∧ cellAt s (a.add (k * 1)) = some (.int .i64 (d.getD k 0 : Nat)) ∧ d.getD k 0 < L.n ∧ cellAt s ((b.add (d.getD k 0 * 3)).add 0) = some (.int .i64 (man L (d.getD k 0)).club) ∧
      cellAt s ((b.add (d.getD k 0 * 3)).add 1) = some (.bool (man L (d.getD k 0)).left) ∧ cellAt s ((b.add (d.getD k 0 * 3)).add 2) = some (.bool (man L (d.getD k 0)).nov) := by
  have hget : d.getD k 0 = d[k] := by simp [List.getD, hk]
  have hkv : k < (vals d).length := by rw [vals_len]; exact hk
  obtain ⟨a, ha, g⟩ := hy k hkv
  rw [vals_get hkv] at g
  have hmi := hd d[k] (List.getElem_mem _)
  obtain ⟨b, hb, g1, g2, g3⟩ := hm d[k] hmi
  have hman := man_get' L (m := d[k]) hmi
  rw [← hman] at g1 g2 g3
  rw [hget]
  exact ⟨a, b, ha, hb, g, hmi, g1, g2, g3⟩
theorem man_new3' {x : Option Addr} {d : List Nat} {k : Nat} {a b Z : Addr} {c : Nat} {KK : Nat → Hp → Prop} (hZ : cellAt s (Z.add 0) = some (.slice x L.n c)) (g : cellAt s (a.add (k * 1)) = some (.int .i64 (d.getD k 0 : Nat)))
    (g1 : cellAt s ((b.add (d.getD k 0 * 3)).add 0) = some (.int .i64 (man L (d.getD k 0)).club)) (g2 : cellAt s ((b.add (d.getD k 0 * 3)).add 1) = some (.bool (man L (d.getD k 0)).left)) (g3 : cellAt s ((b.add (d.getD k 0 * 3)).add 2) = some (.bool (man L (d.getD k 0)).nov))
    (h : ∀ s', Ext s s' → s'.size = s.size + 1 → Own s' (Addr.add ⟨s.size, 0, none⟩ 0) (.int .i64 (man L (d.getD k 0)).club) → Own s' (Addr.add ⟨s.size, 0, none⟩ 1) (.bool (man L (d.getD k 0)).left) → Own s' (Addr.add ⟨s.size, 0, none⟩ 2) (.bool (man L (d.getD k 0)).nov) → KK s.size s') :
    NEWZ Pg 51 (fun B => ANDS (RDI .i64 (Addr.add (b.add (d.getD k 0 * 3)) 0) fun n130 => RDB (Addr.add (b.add (d.getD k 0 * 3)) 1) fun b131 => RDB (Addr.add (b.add (d.getD k 0 * 3)) 2) fun b132 => fun _ => ((.agg #[(.int .i64 n130), (.bool b131), (.bool b132)]) : Value) = (.agg #[(.int .i64 (man L (d.getD k 0)).club), (.bool (man L (d.getD k 0)).left), (.bool (man L (d.getD k 0)).nov)])) <|
      ANDS (RDI .i64 (a.add (k * 1)) fun n133 => fun _ => ((.int .i64 n133) : Value) = (.int .i64 ((d.getD k 0 : Nat) : Int))) <|
      ANDS (RDL (Z.add 0) fun x134 l135 c136 => fun _ => ((.slice x134 l135 c136) : Value) = (.slice x L.n c)) <|
      WR (Addr.add ⟨B, 0, none⟩ 0) (.int .i64 (man L (d.getD k 0)).club) <| WR (Addr.add ⟨B, 0, none⟩ 1) (.bool (man L (d.getD k 0)).left) <| WR (Addr.add ⟨B, 0, none⟩ 2) (.bool (man L (d.getD k 0)).nov) <| KK B) s :=
  man_new3 (fun s' e => ⟨⟨_, e.cell g1, _, e.cell g2, _, e.cell g3, rfl⟩, ⟨_, e.cell g, rfl⟩, ⟨_, _, _, e.cell hZ, rfl⟩⟩) h

theorem lawful_loop {x y : Option Addr} {c c' B p : Nat} {d : List Nat} {r : Int} {q1 q2 q3 : Bool} {R : Ending → Hp → Prop} {s1 : Hp} (hm : MenAt s1 x L.men) (hy : RowAt s1 y (vals d)) (hv : valid L = true) (hd : ∀ m ∈ d, m < L.n) (hln : d.length = L.n)
    (c0 : cellAt s1 ((⟨B, 0, none⟩ : Addr).add 0) = some (.slice x L.n c)) (c1 : cellAt s1 ((⟨B, 0, none⟩ : Addr).add 1) = some (.int .i64 L.worst)) (hp : p < d.length) (hok : ∀ k, k < p → brk L k (d.getD k 0) (prev d k) = 0)
    (h : ∀ t nx, Ext s1 t → B_law03_LotLawful_0 W R ⟨B, 0, none⟩ y d.length c' r q1 q2 q3 p false p nx t) :
    L_law03_LotLawful_0 W R ⟨B, 0, none⟩ y d.length c' r q1 q2 q3 (p : Int) false 0 s1 := by
  have v := vd_iff.1 hv
  have hn8 := v.hi
  refine L_law03_LotLawful_0_rule W R ⟨B, 0, none⟩ y d.length c' r q1 q2 q3 p (fun bb n t => bb = false ∧ Ext s1 t ∧ ∃ k : Nat, k ≤ p ∧ n = k) (fun _ n _ => (p - n).toNat) false 0 s1 ⟨rfl, Ext.refl _, 0, by omega, rfl⟩ ?_
  rintro b9 n t ⟨rfl, et, k, hk, rfl⟩
  by_cases hkp : k = p
  · subst hkp; exact h t _ et
  have hkp' : k < p := by omega
  have hz := hok k hkp'
  have hz' := brk_zero L k (d.getD k 0) (prev d k)
  rw [decide_eq_true hz] at hz'
  have hz2 : (r1 L (d.getD k 0) (prev d k) || r2 L k (d.getD k 0) || r3 L k (d.getD k 0)) = false := by simpa using hz'
  have hr1 : r1 L (d.getD k 0) (prev d k) = false := by simp at hz2; exact hz2.1.1
  have hr2 : r2 L k (d.getD k 0) = false := by simp at hz2; exact hz2.1.2
  have hr3 : r3 L k (d.getD k 0) = false := by simp at hz2; exact hz2.2
  have hkd : k < d.length := by omega
  obtain ⟨a, b, ha, hb, g, hlt, g1, g2, g3⟩ := man_at (hm.ext et) (hy.ext et) hd hkd
  have ti : ((k : Int)).toNat = k := by omega
  have tm : (((d.getD k 0 : Nat) : Int)).toNat = d.getD k 0 := by omega
  have hw : IntKind.i64.wrap ((k : Int) + 1) = ((k + 1 : Nat) : Int) := by rw [wrap_i64 (by omega) (by omega)]; rfl
  unfold B_law03_LotLawful_0
  refine BR_dec (fun _ => ?_) (fun h1 => by omega)
  refine ⟨_, _, _, et.cell c0, a, ha, ⟨by omega, by omega⟩, _, by rw [ti]; exact g, b, hb, ⟨by omega, by omega⟩, ?_⟩
  rw [ti, tm]
  refine ⟨_, g1, _, g2, _, g3, ?_⟩
  refine man_new3' (et.cell c0) g g1 g2 g3 fun t2 e2 z2 o0 o1 o2 => ?_
  have e12 := et.trans e2
  have j14 : ∀ bb : Bool, bb = false → J_law03_LotLawful_14 W R bb ⟨B, 0, none⟩ y d.length c' r q1 q2 q3 p (fun vs => N_law03_LotLawful_0 (fun bb n t => bb = false ∧ Ext s1 t ∧ ∃ k : Nat, k ≤ p ∧ n = k) (fun _ n _ => (p - n).toNat) false k t vs) false k t2 := by
    rintro bb rfl
    unfold J_law03_LotLawful_14
    refine ⟨rfl, _, _, rfl, ⟨rfl, e12, k + 1, by omega, hw⟩, ?_⟩
    show ((p : Int) - IntKind.i64.wrap ((k : Int) + 1)).toNat < ((p : Int) - k).toNat
    rw [hw]; omega
  have j15 : ∀ bb : Bool, bb = false → J_law03_LotLawful_15 W R bb ⟨B, 0, none⟩ y d.length c' r q1 q2 q3 p (fun vs => N_law03_LotLawful_0 (fun bb n t => bb = false ∧ Ext s1 t ∧ ∃ k : Nat, k ≤ p ∧ n = k) (fun _ n _ => (p - n).toNat) false k t vs) false k t.size t2 := by
    rintro bb rfl
    unfold J_law03_LotLawful_15
    refine ⟨_, o2.cell, ?_⟩
    refine BR_bool (fun h3 => ?_) (fun h3 => j14 _ rfl)
    refine ⟨_, e12.cell c1, NNI_nat (j14 _ ?_)⟩
    rw [bad_eq v (by omega)]
    unfold r3 at hr3
    rw [h3] at hr3
    simpa using hr3
  have j16 : ∀ bb : Bool, bb = false → J_law03_LotLawful_16 W R bb ⟨B, 0, none⟩ y d.length c' r q1 q2 q3 p (fun vs => N_law03_LotLawful_0 (fun bb n t => bb = false ∧ Ext s1 t ∧ ∃ k : Nat, k ≤ p ∧ n = k) (fun _ n _ => (p - n).toNat) false k t vs) false k t.size t2 := by
    rintro bb rfl
    unfold J_law03_LotLawful_16
    refine ⟨_, o1.cell, ?_⟩
    refine BR_bool (fun h3 => j15 _ ?_) (fun h3 => j15 _ rfl)
    unfold r2 at hr2
    rw [h3] at hr2
    have hlt' : k < L.n - 1 := by omega
    have hd : decide (k < L.n - 1) = true := decide_eq_true hlt'
    rw [hd] at hr2
    have : ¬ k > 0 := by simpa using hr2
    have : ¬ ((k : Int) > 0) := by omega
    exact decide_eq_false this
  have j17 : ∀ bb : Bool, bb = (decide (k ≠ 0) && decide ((man L (d.getD k 0)).club ≠ 0)) → J_law03_LotLawful_17 W R bb t.size ⟨B, 0, none⟩ y d.length k c' r q1 q2 q3 p (fun vs => N_law03_LotLawful_0 (fun bb n t => bb = false ∧ Ext s1 t ∧ ∃ k : Nat, k ≤ p ∧ n = k) (fun _ n _ => (p - n).toNat) false k t vs) false t2 := by
    intro bb hbb
    unfold J_law03_LotLawful_17
    refine BR_bool (fun h2 => ?_) (fun h2 => j16 _ rfl)
    rw [h2] at hbb
    obtain ⟨hk0, hc0⟩ : k ≠ 0 ∧ (man L (d.getD k 0)).club ≠ 0 := by simpa using hbb.symm
    obtain ⟨a', b', ha', hb', g', hlt', gg1, _, _⟩ := man_at (hm.ext e12) (hy.ext e12) hd (show k - 1 < d.length by omega)
    have hp : prev d k = d.getD (k - 1) 0 := by unfold prev; rw [if_neg hk0]
    have hw' : IntKind.wrap .i64 ((k : Int) - 1) = ((k - 1 : Nat) : Int) := by rw [wrap_i64 (by omega) (by omega)]; omega
    refine ⟨_, o0.cell, _, _, _, e12.cell c0, ?_⟩
    dsimp only
    rw [hw']
    have ti' : (((k - 1 : Nat) : Int)).toNat = k - 1 := by omega
    have tm' : (((d.getD (k - 1) 0 : Nat) : Int)).toNat = d.getD (k - 1) 0 := by omega
    refine ⟨a', ha', ⟨by omega, by omega⟩, _, by rw [ti']; exact g', b', hb', ⟨by omega, by omega⟩, _, by rw [tm']; exact gg1, ?_⟩
    refine j16 _ ?_
    unfold r1 at hr1
    rw [hp] at hr1
    have h8 : d.getD (k - 1) 0 ≠ 8 := by omega
    simp only [h8, hc0, ne_eq, not_false_eq_true, decide_true, Bool.true_and] at hr1
    have := of_decide_eq_false hr1
    simpa using this
  refine BR_dec (fun h2 => ?_) (fun h2 => ?_)
  · refine ⟨_, o0.cell, ?_⟩
    refine j17 _ ?_
    have : k ≠ 0 := by omega
    simp [this, bne, Bool.beq_eq_decide_eq]
  · refine j17 _ ?_
    have : k = 0 := by omega
    simp [this]
end
end Go.Proofs.Ytocnkdkgajdejaa.G

/- The statement LotLawful: a draw is lawful just if nothing is broken by the words of the chapter. -/
set_option linter.unusedSimpArgs false
set_option linter.unusedVariables false
set_option maxRecDepth 20000
namespace Go.Proofs.Ytocnkdkgajdejaa.G
open Go.V Go.Lot
section
variable {W : World} {K : VK} {E : List PanicEntry → Hp → Prop} {s : Hp} {L : Lts}
theorem c_Check' {x y : Option Addr} {c c' l : Nat} {ds : List Int} (hm : MenAt s x L.men) (hy : RowAt s y (ints ds)) (hlen : ds.length ≤ 100000) (hl : l = ds.length)
    (h : ∀ s', Ext s s' → K (.tuple #[.int .i64 (checkP L ds).1, .int .i64 (checkP L ds).2.1, .int .i64 (checkP L ds).2.2]) s') :
    CALL Pg W F_lot_Check [.agg #[.slice x L.n c, .int .i64 L.worst], .slice y l c'] K E s := by subst hl; exact c_Check hm hy hlen h
theorem c_Place' {x y : Option Addr} {c c' l : Nat} {ds : List Int} (hm : MenAt s x L.men) (hy : RowAt s y (ints ds)) (hlen : ds.length ≤ 100000) (hl : l = ds.length)
    (h : ∀ s', Ext s s' → K (.tuple #[.int .i64 (placeP L ds).1, .int .i64 (placeP L ds).2]) s') :
    CALL Pg W F_lot_Place [.agg #[.slice x L.n c, .int .i64 L.worst], .slice y l c'] K E s := by subst hl; exact c_Place hm hy hlen h
theorem c_Swaps' {x y : Option Addr} {c c' l : Nat} {ds : List Int} (hm : MenAt s x L.men) (hy : RowAt s y (ints ds)) (hlen : ds.length ≤ 100000) (hl : l = ds.length)
    (h1 : ∀ s' v, Ext s s' → valid L = true → okDraw L ds → wrong L (ds.map Int.toNat) = none → OutP s' (swapsP L (ds.map Int.toNat)) v → K (.tuple #[v, .int .i64 0]) s')
    (h2 : ∀ s', Ext s s' → errP L ds ≠ 0 → K (.tuple #[.slice none 0 0, .int .i64 (errP L ds)]) s') :
    CALL Pg W F_lot_Swaps [.agg #[.slice x L.n c, .int .i64 L.worst], .slice y l c'] K E s := by subst hl; exact c_Swaps hm hy hlen h1 h2
/-- 'awake' at the end. -/
theorem c_awake' {s0 : Hp} (e : Ext s0 s) (h : ∀ s', Ext s0 s' → K (.bool true) s') : CALL Pg W F_law03_awake [] K E s := c_awake fun s' e' => h s' (e.trans e')
theorem row_nil : RowAt s none (ints []) := fun i hi => by simp [ints] at hi

theorem w_LotLawful {x y : Option Addr} {l c c' : Nat} (hm : MenAt s x L.men) (hy : U8At s y l) (h : ∀ s', Ext s s' → K (.bool true) s') :
    CALL Pg W F_law03_LotLawful [.agg #[.slice x L.n c, .int .i64 L.worst], .slice y l c'] K E s := by
  refine does_law03_LotLawful W x L.n c L.worst y l c' _ s ?_
  unfold T_law03_LotLawful
  refine NEW_rule fun s1 e1 z1 n1 _ => ?_
  have c0 := (n1 0 _ rfl).cell
  have c1 := (n1 1 _ rfl).cell
  -- how it ends
  have aw : ∀ t, Ext s1 t → CALL Pg W F_law03_awake [] (fun v16 => TYB v16 fun b18 => (endK K E) (.returned (.bool b18))) (fun c17 => (endK K E) (.panicked c17)) t := fun t et => c_awake fun t' et' => h t' (e1.trans (et.trans et'))
  refine ⟨_, _, _, c0, _, c1, ?_⟩
  refine c_far (n := 8) (hm.ext e1) fun s2 b e2 hb1 hb2 => ?_
  try simp only [TUP_mk, AGG_mk, HD_mk, NL_mk, TYI_mk, TYB_mk, TYP_mk, TYL_mk, TYS_mk, TYM_mk, SO_mk, NX_mk, endK_mk, endK_mk', add_0]
  refine BR_bool (fun hb => aw s2 e2) (fun hb => ?_)
  obtain ⟨hn30, _, hn8'⟩ := hb2 hb
  refine ⟨_, _, _, e2.cell c0, _, e2.cell c1, ?_⟩
  have e02 := e1.trans e2
  refine f_Lots (hm.ext e02) (by omega) fun s3 e3 => ?_
  try simp only [TUP_mk, AGG_mk, HD_mk, NL_mk, TYI_mk, TYB_mk, TYP_mk, TYL_mk, TYS_mk, TYM_mk, SO_mk, NX_mk, endK_mk, endK_mk', add_0]
  have e13 := e2.trans e3
  have e03 := e1.trans e13
  refine BR_not (fun hv => ?_) (fun hv => ?_)
  · refine ⟨_, _, _, e13.cell c0, _, e13.cell c1, ?_⟩
    refine c_Check' (ds := []) (hm.ext e03) row_nil (by simp) rfl fun s4 e4 => ?_
    try simp only [TUP_mk, AGG_mk, HD_mk, NL_mk, TYI_mk, TYB_mk, TYP_mk, TYL_mk, TYS_mk, TYM_mk, SO_mk, NX_mk, endK_mk, endK_mk', add_0]
    have hc : checkP L [] = (0, 0, 1) := by unfold checkP; rw [hv]; rfl
    rw [hc]
    have e14 := e13.trans e4
    refine ⟨_, _, _, e14.cell c0, _, e14.cell c1, ?_⟩
    refine c_Place' (ds := []) (hm.ext (e1.trans e14)) row_nil (by simp) rfl fun s5 e5 => ?_
    try simp only [TUP_mk, AGG_mk, HD_mk, NL_mk, TYI_mk, TYB_mk, TYP_mk, TYL_mk, TYS_mk, TYM_mk, SO_mk, NX_mk, endK_mk, endK_mk', add_0]
    have hp : placeP L [] = (0, 1) := by unfold placeP; rw [hv]; rfl
    rw [hp]
    refine BR_eq (fun _ => ?_) (fun hh => absurd rfl hh)
    refine BR_eq (fun _ => ?_) (fun hh => absurd rfl hh)
    exact aw s5 (e14.trans e5)
  · have v := vd_iff.1 hv
    have hn8 := v.hi
    have hlo := v.lo
    refine ⟨_, _, _, e13.cell c0, ?_⟩
    refine c_made (hy.ext e03) (by omega) fun s4 a d e4 fr pd bd => ?_
    try simp only [TUP_mk, AGG_mk, HD_mk, NL_mk, TYI_mk, TYB_mk, TYP_mk, TYL_mk, TYS_mk, TYM_mk, SO_mk, NX_mk, endK_mk, endK_mk', add_0]
    have e14 := e13.trans e4
    have e04 := e1.trans e14
    have hok := Perm0.ok pd
    have hback := map_back d
    have hdl : (d.map fun (n : Nat) => (n : Int)).length = L.n := by rw [List.length_map]; exact pd.len
    have hrow : RowAt s4 (some a) (vals d) := bd.row
    have hrowi : RowAt s4 (some a) (ints (d.map fun (n : Nat) => (n : Int))) := by rw [ints_vals]; exact hrow
    refine ⟨_, _, _, e14.cell c0, _, e14.cell c1, ?_⟩
    refine c_lawful (hm.ext e04) hrow hv pd.lt pd.len.symm pd.len fun s5 e5 => ?_
    try simp only [TUP_mk, AGG_mk, HD_mk, NL_mk, TYI_mk, TYB_mk, TYP_mk, TYL_mk, TYS_mk, TYM_mk, SO_mk, NX_mk, endK_mk, endK_mk', add_0]
    have e15 := e14.trans e5
    refine ⟨_, _, _, e15.cell c0, _, e15.cell c1, ?_⟩
    refine c_Check' (ds := d.map fun (n : Nat) => (n : Int)) (hm.ext (e1.trans e15)) (hrowi.ext e5) (by omega) hdl.symm fun s6 e6 => ?_
    try simp only [TUP_mk, AGG_mk, HD_mk, NL_mk, TYI_mk, TYB_mk, TYP_mk, TYL_mk, TYS_mk, TYM_mk, SO_mk, NX_mk, endK_mk, endK_mk', add_0]
    have e16 := e15.trans e6
    refine ⟨_, _, _, e16.cell c0, _, e16.cell c1, ?_⟩
    refine c_Place' (ds := d.map fun (n : Nat) => (n : Int)) (hm.ext (e1.trans e16)) (hrowi.ext (e5.trans e6)) (by omega) hdl.symm fun s7 e7 => ?_
    try simp only [TUP_mk, AGG_mk, HD_mk, NL_mk, TYI_mk, TYB_mk, TYP_mk, TYL_mk, TYS_mk, TYM_mk, SO_mk, NX_mk, endK_mk, endK_mk', add_0]
    have e17 := e16.trans e7
    refine ⟨_, _, _, e17.cell c0, _, e17.cell c1, ?_⟩
    refine c_Swaps' (ds := d.map fun (n : Nat) => (n : Int)) (hm.ext (e1.trans e17)) (hrowi.ext (e5.trans (e6.trans e7))) (by omega) hdl.symm (fun s8 vv e8 _ _ hw ho => ?_) (fun s8 e8 he => ?_)
    · rw [hback] at hw ho
      obtain ⟨xo, co, rfl, hro⟩ := ho
      try simp only [TUP_mk, AGG_mk, HD_mk, NL_mk, TYI_mk, TYB_mk, TYP_mk, TYL_mk, TYS_mk, TYM_mk, SO_mk, NX_mk, endK_mk, endK_mk', add_0]
      have hc : checkP L (d.map fun (n : Nat) => (n : Int)) = (0, 0, 4) := by unfold checkP; rw [hv, if_pos rfl, if_pos hok, hback, hw]
      have hp : placeP L (d.map fun (n : Nat) => (n : Int)) = (((placeN L d (full L.n) 8 : Nat) : Int), 0) := by unfold placeP; rw [hv, if_pos rfl, if_pos hok, hback, hw]
      rw [hc, hp]
      refine BR_bool (fun _ => ?_) (fun hh => by rw [decide_eq_true hw] at hh; cases hh)
      refine BR_eq (fun _ => ?_) (fun hh => absurd rfl hh)
      unfold J_law03_LotLawful_2
      refine BR_eq (fun _ => ?_) (fun hh => absurd rfl hh)
      unfold J_law03_LotLawful_1
      refine BR_eq (fun _ => ?_) (fun hh => absurd rfl hh)
      unfold J_law03_LotLawful_0
      refine BR_eq (fun _ => ?_) (fun hh => absurd rfl hh)
      refine BR_dec (fun _ => ?_) (fun hh => by dsimp only at hh; omega)
      refine BR_eq (fun _ => ?_) (fun hh => absurd rfl hh)
      exact aw s8 (e17.trans e8)
    · have hwne : wrong L d ≠ none := fun hw => by
        refine he ?_
        unfold errP
        rw [hv, if_pos rfl, if_pos hok, hback, hw]
      obtain ⟨⟨p, r⟩, hw⟩ := Option.ne_none_iff_exists'.1 hwne
      obtain ⟨hp1, hr, hr0, hall⟩ := wrong_some hw
      have hc : checkP L (d.map fun (n : Nat) => (n : Int)) = (((p : Nat) : Int), ((r : Nat) : Int), 0) := by unfold checkP; rw [hv, if_pos rfl, if_pos hok, hback, hw]
      have hp : placeP L (d.map fun (n : Nat) => (n : Int)) = (0, 4) := by unfold placeP; rw [hv, if_pos rfl, if_pos hok, hback, hw]
      have hs : errP L (d.map fun (n : Nat) => (n : Int)) = 4 := by unfold errP; rw [hv, if_pos rfl, if_pos hok, hback, hw]
      try simp only [TUP_mk, AGG_mk, HD_mk, NL_mk, TYI_mk, TYB_mk, TYP_mk, TYL_mk, TYS_mk, TYM_mk, SO_mk, NX_mk, endK_mk, endK_mk', add_0]
      rw [hc, hp, hs]
      have e18 := e17.trans e8
      have e48 := e5.trans (e6.trans (e7.trans e8))
      refine BR_bool (fun hh => by rw [decide_eq_false hwne] at hh; cases hh) (fun _ => ?_)
      refine BR_ne (fun hh => absurd rfl hh) (fun _ => ?_)
      unfold J_law03_LotLawful_13
      refine BR_ne (fun hh => absurd rfl hh) (fun _ => ?_)
      unfold J_law03_LotLawful_12
      refine BR_ne (fun hh => absurd rfl hh) (fun _ => ?_)
      unfold J_law03_LotLawful_11
      refine BR_ne (fun hh => absurd rfl hh) (fun _ => ?_)
      unfold J_law03_LotLawful_10
      refine BR_ne (fun hh => absurd rfl hh) (fun _ => ?_)
      unfold J_law03_LotLawful_9
      have hpl : p < L.n := by rw [← pd.len]; exact hp1
      refine BR_dec (fun hh => by dsimp only at hh; omega) (fun _ => ?_)
      unfold J_law03_LotLawful_8
      refine BR_dec (fun hh => by dsimp only at hh; omega) (fun _ => ?_)
      obtain ⟨a1, b1, ha1, hb1', g, hlt, g1, g2, g3⟩ := man_at ((hm.ext (e1.trans e18))) (hrow.ext e48) pd.lt hp1
      cases ha1
      have ti : ((p : Int)).toNat = p := by omega
      have tm : (((d.getD p 0 : Nat) : Int)).toNat = d.getD p 0 := by omega
      refine ⟨_, _, _, e18.cell c0, a, rfl, ⟨by omega, by omega⟩, _, by dsimp only; rw [ti]; exact g, b1, hb1', ⟨by omega, by omega⟩, ?_⟩
      dsimp only
      rw [ti, tm]
      refine ⟨_, g1, _, g2, _, g3, ?_⟩
      refine man_new3' (e18.cell c0) g g1 g2 g3 fun t2 e9 z9 o0 o1 o2 => ?_
      have e19 := e18.trans e9
      have e49 := e48.trans e9
      have dlen := pd.len
      rw [← dlen]
      have j3 : J_law03_LotLawful_3 W (endK K E) s.size (some a) d.length d.length r (r1 L (d.getD p 0) (prev d p)) (r2 L p (d.getD p 0)) (r3 L p (d.getD p 0)) p t2 := by
        unfold J_law03_LotLawful_3
        refine lawful_loop (x := x) (c := c) ((hm.ext (e1.trans e19))) (hrow.ext e49) hv pd.lt pd.len (e19.cell c0) (e19.cell c1) hp1 hall fun t3 nx e10 => ?_
        unfold B_law03_LotLawful_0
        refine BR_dec (fun hh => by omega) (fun _ => ?_)
        have fin := aw t3 (e19.trans e10)
        have h18 : ∀ b q1 q2 q3, (b = true ∨ (r = 3 ∧ q1 = false ∧ q2 = false ∧ q3 = true)) → J_law03_LotLawful_18 W (endK K E) b r q1 q2 q3 t3 := by
          rintro b q1 q2 q3 hb
          unfold J_law03_LotLawful_18
          refine BR_bool (fun _ => fin) (fun hf => ?_)
          rcases hb with hb | ⟨hb1, rfl, rfl, rfl⟩
          · rw [hb] at hf; cases hf
          · refine BR_eq (fun _ => ?_) (fun hh => absurd (by omega) hh)
            exact fin
        have h19 : ∀ b q1 q2 q3, (b = true ∨ (r = 2 ∧ q1 = false ∧ q2 = true) ∨ (r = 3 ∧ q1 = false ∧ q2 = false ∧ q3 = true)) → J_law03_LotLawful_19 W (endK K E) b r q1 q2 q3 t3 := by
          rintro b q1 q2 q3 hb
          unfold J_law03_LotLawful_19
          refine BR_bool (fun _ => h18 _ _ _ _ (.inl rfl)) (fun hf => ?_)
          rcases hb with hb | ⟨hb1, rfl, rfl⟩ | ⟨hb1, rfl, rfl, rfl⟩
          · rw [hb] at hf; cases hf
          · refine BR_eq (fun _ => ?_) (fun hh => absurd (by omega) hh)
            exact h18 _ _ _ _ (.inl rfl)
          · refine BR_eq (fun hh => by omega) (fun _ => ?_)
            exact h18 _ _ _ _ (.inr ⟨hb1, rfl, rfl, rfl⟩)
        unfold fst at hr
        refine BR_eq (fun hh => ?_) (fun hh => ?_)
        · refine h19 _ _ _ _ (.inl ?_)
          cases h1 : r1 L (d.getD p 0) (prev d p) with
          | true => rfl
          | false =>
            rw [h1] at hr
            cases h2 : r2 L p (d.getD p 0) <;> cases h3 : r3 L p (d.getD p 0) <;> rw [h2, h3] at hr <;> simp at hr <;> omega
        · refine h19 _ _ _ _ (.inr ?_)
          cases h1 : r1 L (d.getD p 0) (prev d p) with
          | true => rw [h1] at hr; simp at hr; omega
          | false =>
            rw [h1] at hr
            cases h2 : r2 L p (d.getD p 0) with
            | true => rw [h2] at hr; simp at hr; exact .inl ⟨hr, rfl, rfl⟩
            | false =>
              rw [h2] at hr
              cases h3 : r3 L p (d.getD p 0) with
              | true => rw [h3] at hr; simp at hr; exact .inr ⟨hr, rfl, rfl, rfl⟩
              | false => rw [h3] at hr; simp at hr; omega
      have j4 : ∀ b, b = r2 L p (d.getD p 0) → J_law03_LotLawful_4 W (endK K E) s8.size s.size p (some a) d.length d.length r (r1 L (d.getD p 0) (prev d p)) b t2 := by
        rintro b rfl
        unfold J_law03_LotLawful_4
        refine ⟨_, o2.cell, ?_⟩
        refine BR_bool (fun h3 => ?_) (fun h3 => ?_)
        · refine ⟨_, e19.cell c1, NNI_nat ?_⟩
          rw [bad_eq v (by omega)]
          have : bad L p = r3 L p (d.getD p 0) := by unfold r3; rw [h3]; simp
          rw [this]; exact j3
        · have : false = r3 L p (d.getD p 0) := by unfold r3; rw [h3]; simp
          rw [this]; exact j3
      have j5 : ∀ b, b = ((man L (d.getD p 0)).left && decide (p > 0)) → J_law03_LotLawful_5 W (endK K E) b s8.size s.size p (some a) d.length d.length r (r1 L (d.getD p 0) (prev d p)) t2 := by
        rintro b hb
        unfold J_law03_LotLawful_5
        refine BR_bool (fun h3 => ?_) (fun h3 => ?_)
        · refine j4 _ ?_
          rw [h3] at hb
          unfold r2
          rw [← hb, wrap_i64 (by omega) (by omega)]
          simp
          omega
        · refine j4 _ ?_
          rw [h3] at hb
          unfold r2
          rw [← hb]; simp
      have j6 : ∀ b, b = r1 L (d.getD p 0) (prev d p) → J_law03_LotLawful_6 W (endK K E) s8.size p s.size (some a) d.length d.length r b t2 := by
        rintro b rfl
        unfold J_law03_LotLawful_6
        refine ⟨_, o1.cell, ?_⟩
        refine BR_bool (fun h3 => ?_) (fun h3 => ?_)
        · refine j5 _ ?_
          rw [h3]; simp
        · refine j5 _ ?_
          rw [h3]; simp
      have j7 : ∀ bb : Bool, bb = (decide (p ≠ 0) && decide ((man L (d.getD p 0)).club ≠ 0)) → J_law03_LotLawful_7 W (endK K E) bb s8.size s.size (some a) d.length p d.length r t2 := by
        intro bb hbb
        unfold J_law03_LotLawful_7
        refine BR_bool (fun h2 => ?_) (fun h2 => j6 _ ?_)
        · rw [h2] at hbb
          obtain ⟨hk0, hc0⟩ : p ≠ 0 ∧ (man L (d.getD p 0)).club ≠ 0 := by simpa using hbb.symm
          obtain ⟨a', b', ha', hb', g', hlt', gg1, _, _⟩ := man_at (hm.ext (e1.trans e19)) (hrow.ext e49) pd.lt (show p - 1 < d.length by omega)
          have hp : prev d p = d.getD (p - 1) 0 := by unfold prev; rw [if_neg hk0]
          have hw' : IntKind.wrap .i64 ((p : Int) - 1) = ((p - 1 : Nat) : Int) := by rw [wrap_i64 (by omega) (by omega)]; omega
          refine ⟨_, o0.cell, _, _, _, e19.cell c0, ⟨_, _, _, e19.cell c0, rfl⟩, ⟨_, o0.cell, rfl⟩, ?_⟩
          rw [hw']
          have hmx : (if ((p - 1 : Nat) : Int) > 0 then ((p - 1 : Nat) : Int) else 0) = ((p - 1 : Nat) : Int) := by split <;> omega
          rw [hmx]
          have ti' : (((p - 1 : Nat) : Int)).toNat = p - 1 := by omega
          have tm' : (((d.getD (p - 1) 0 : Nat) : Int)).toNat = d.getD (p - 1) 0 := by omega
          refine ⟨a', ha', ⟨by omega, by omega⟩, _, by rw [ti']; exact g', b', hb', ⟨by omega, by omega⟩, _, by rw [tm']; exact gg1, ?_⟩
          refine j6 _ ?_
          unfold r1
          rw [hp]
          have h8 : d.getD (p - 1) 0 ≠ 8 := by omega
          simp only [h8, hc0, ne_eq, not_false_eq_true, decide_true, Bool.true_and, Bool.beq_eq_decide_eq]
        · rw [h2] at hbb
          unfold r1
          by_cases hk0 : p = 0
          · have : prev d p = 8 := by unfold prev; rw [if_pos hk0]
            rw [this]; simp
          · simp [hk0] at hbb
            simp [hbb]
      refine BR_dec (fun h2 => ?_) (fun h2 => ?_)
      · refine ⟨_, o0.cell, ?_⟩
        refine j7 _ ?_
        have : p ≠ 0 := by omega
        simp [this, bne, Bool.beq_eq_decide_eq]
      · refine j7 _ ?_
        have : p = 0 := by omega
        simp [this]
end
end Go.Proofs.Ytocnkdkgajdejaa.G

/- More of the functions' shallow texts, by gen.py. -/
set_option linter.unusedVariables false
set_option maxRecDepth 100000
namespace Go.Proofs.Ytocnkdkgajdejaa.G
open Go.V
def an_8 : Nat → Ann := fun b => match b with
  | 0 => { ms := [6, 14, 15, 68], ks := [.b, .i .i64, .i .i64, .i .i64], us := [3, 7, 8, 9, 10, 12, 67, 163], rt := false, ex := [] }
  | _ => {}
abbrev rv_8 : List ResultVar := [.tmp 6]
abbrev rs_8 : List Nat := [163, 6]
def L_law03_LotOften_0 (W : World) (R : Ending → Hp → Prop) (za0 : Addr) (zn1 : Int) (zn2 : Int) (zn3 : Int) (zn4 : Int) (zn5 : Int) (b58 : Bool) (n59 : Int) (n60 : Int) (n61 : Int) : Hp → Prop :=
  LOOPN [.b, .i .i64, .i .i64, .i .i64] (fun ys next s => ∀ j : Tm, vc Pg W 163 rs_8 an_8 false (sub (bodyOf Try.f8) [1, 1, 1, 1, 1, 1, 1, 1, 0, 1, 0, 0]) 0 (KLoop [6, 14, 15, 68] [3, 7, 8, 9, 10, 12, 67, 163] [(.pointer (some za0)), (.int .i64 zn1), (.int .i64 zn2), (.int .i64 zn3), (.int .i64 zn4), (.int .i64 zn5), (.int .i64 zn1), (.tuple #[])] next (KBlk 0 (KS Pg W 163 rs_8 an_8 false (sub (bodyOf Try.f8) [1, 1, 1, 1, 1, 1, 1, 1, 1]) 0 (fin Pg W 163 rv_8 R)))) (known [6, 14, 15, 68] ys (known [3, 7, 8, 9, 10, 12, 67, 163] [(.pointer (some za0)), (.int .i64 zn1), (.int .i64 zn2), (.int .i64 zn3), (.int .i64 zn4), (.int .i64 zn5), (.int .i64 zn1), (.tuple #[])] j)) s) [(.bool b58), (.int .i64 n59), (.int .i64 n60), (.int .i64 n61)]
def J_law03_LotOften_0 (W : World) (R : Ending → Hp → Prop) (b50 : Bool) (B7 : Nat) (l20 : Nat) (n5 : Int) (n6 : Int) (n31 : Int) (n44 : Int) : Hp → Prop :=
  BR b50
    (R (.returned (.bool false)))
    (L_law03_LotOften_0 W R ⟨B7, 0, none⟩ (↑l20 : Int) (Int.tmod (IntKind.wrap .i64 n5) (↑l20 : Int)) (Int.tmod (IntKind.wrap .i64 n6) (↑l20 : Int)) n31 n44 false 0 0 0)
def J_law03_LotOften_1 (W : World) (R : Ending → Hp → Prop) (b49 : Bool) (B7 : Nat) (l20 : Nat) (n5 : Int) (n6 : Int) (n31 : Int) (n44 : Int) : Hp → Prop :=
  BR b49
    (J_law03_LotOften_0 W R true B7 l20 n5 n6 n31 n44)
    (NNI (↑l20 : Int) <|
      J_law03_LotOften_0 W R ((shrv .i64 n44 (↑l20 : Int)) != 0) B7 l20 n5 n6 n31 n44)
def J_law03_LotOften_2 (W : World) (R : Ending → Hp → Prop) (b48 : Bool) (B7 : Nat) (l20 : Nat) (n5 : Int) (n6 : Int) (n31 : Int) (n44 : Int) : Hp → Prop :=
  BR b48
    (J_law03_LotOften_1 W R true B7 l20 n5 n6 n31 n44)
    (J_law03_LotOften_1 W R (decide (n44 < 0)) B7 l20 n5 n6 n31 n44)
def J_law03_LotOften_3 (W : World) (R : Ending → Hp → Prop) (b15 : Bool) (B7 : Nat) (n5 : Int) (n6 : Int) : Hp → Prop :=
  BR b15
    (CALL Pg W F_law03_awake []
      (fun v16 => TYB v16 fun b18 =>
        R (.returned (.bool b18)))
        (fun e17 => R (.panicked e17)))
    (RDL (Addr.add ⟨B7, 0, none⟩ 0) fun x19 l20 c21 =>
      NZI (↑l20 : Int) <|
        NZI (↑l20 : Int) <|
          RDL (Addr.add ⟨B7, 0, none⟩ 0) fun x22 l23 c24 =>
            RDI .i64 (Addr.add ⟨B7, 0, none⟩ 1) fun n25 =>
              CALL Pg W F_lot_Count [(.agg #[(.slice x22 l23 c24), (.int .i64 n25)])]
                (fun v26 => TUP v26 fun q28 => HD q28 fun v29 r30 => TYI .i64 v29 fun n31 =>
                  HD r30 fun v32 r33 => TYI .i64 v32 fun n34 =>
                    NL r33 <|
                      RDL (Addr.add ⟨B7, 0, none⟩ 0) fun x35 l36 c37 =>
                        RDI .i64 (Addr.add ⟨B7, 0, none⟩ 1) fun n38 =>
                          CALL Pg W F_lot_Can [(.agg #[(.slice x35 l36 c37), (.int .i64 n38)]), (.int .i64 (Int.tmod (IntKind.wrap .i64 n5) (↑l20 : Int)))]
                            (fun v39 => TUP v39 fun q41 => HD q41 fun v42 r43 => TYI .i64 v42 fun n44 =>
                              HD r43 fun v45 r46 => TYI .i64 v45 fun n47 =>
                                NL r46 <|
                                  BR (n34 != 0)
                                    (J_law03_LotOften_2 W R true B7 l20 n5 n6 n31 n44)
                                    (J_law03_LotOften_2 W R (n47 != 0) B7 l20 n5 n6 n31 n44))
                              (fun e40 => R (.panicked e40)))
                  (fun e27 => R (.panicked e27)))
def J_law03_LotOften_4 (W : World) (R : Ending → Hp → Prop) (b97 : Bool) (za0 : Addr) (zn1 : Int) (zn2 : Int) (zn3 : Int) (zn4 : Int) (zn5 : Int) (nx0 : List Value → Hp → Prop) (b58 : Bool) (n59 : Int) (n71 : Int) (n60 : Int) (n84 : Int) (n61 : Int) : Hp → Prop :=
  BR b97
    (R (.returned (.bool false)))
    (NX [(.pointer (some za0)), (.int .i64 zn1), (.int .i64 zn2), (.int .i64 zn3), (.int .i64 zn4), (.int .i64 zn5), (.int .i64 zn1), (.tuple #[])] [(.pointer (some za0)), (.int .i64 zn1), (.int .i64 zn2), (.int .i64 zn3), (.int .i64 zn4), (.int .i64 zn5), (.int .i64 zn1), (.tuple #[])] (nx0 [(.bool b58), (.int .i64 (IntKind.wrap .i64 (n59 + n71))), (.int .i64 (IntKind.wrap .i64 (n60 + n84))), (.int .i64 (IntKind.wrap .i64 (n61 + 1)))]))
def J_law03_LotOften_5 (W : World) (R : Ending → Hp → Prop) (b91 : Bool) (n71 : Int) (za0 : Addr) (zn2 : Int) (n61 : Int) (zn1 : Int) (zn3 : Int) (zn4 : Int) (zn5 : Int) (nx0 : List Value → Hp → Prop) (b58 : Bool) (n59 : Int) (n60 : Int) (n84 : Int) : Hp → Prop :=
  BR b91
    (R (.returned (.bool false)))
    (BR (decide (n71 > 0))
      (RDL (Addr.add za0 0) fun x92 l93 c94 =>
        IXS x92 l93 zn2 3 fun a95 =>
          RDB (Addr.add a95 1) fun b96 =>
            BR b96
              (BR (decide (n61 > 0))
                (BR (decide (n61 < (IntKind.wrap .i64 (zn1 - 1))))
                  (J_law03_LotOften_4 W R true za0 zn1 zn2 zn3 zn4 zn5 nx0 b58 n59 n71 n60 n84 n61)
                  (RDL (Addr.add za0 0) fun x98 l99 c100 =>
                    IXS x98 l99 zn2 3 fun a101 =>
                      RDB (Addr.add a101 2) fun b102 =>
                        BR b102
                          (RDI .i64 (Addr.add za0 1) fun n103 =>
                            NNI n61 <|
                              J_law03_LotOften_4 W R ((andv .i64 (shrv .i64 n103 n61) 1) == 1) za0 zn1 zn2 zn3 zn4 zn5 nx0 b58 n59 n71 n60 n84 n61)
                          (J_law03_LotOften_4 W R false za0 zn1 zn2 zn3 zn4 zn5 nx0 b58 n59 n71 n60 n84 n61)))
                (RDL (Addr.add za0 0) fun x104 l105 c106 =>
                  IXS x104 l105 zn2 3 fun a107 =>
                    RDB (Addr.add a107 2) fun b108 =>
                      BR b108
                        (RDI .i64 (Addr.add za0 1) fun n109 =>
                          NNI n61 <|
                            J_law03_LotOften_4 W R ((andv .i64 (shrv .i64 n109 n61) 1) == 1) za0 zn1 zn2 zn3 zn4 zn5 nx0 b58 n59 n71 n60 n84 n61)
                        (J_law03_LotOften_4 W R false za0 zn1 zn2 zn3 zn4 zn5 nx0 b58 n59 n71 n60 n84 n61)))
              (RDL (Addr.add za0 0) fun x110 l111 c112 =>
                IXS x110 l111 zn2 3 fun a113 =>
                  RDB (Addr.add a113 2) fun b114 =>
                    BR b114
                      (RDI .i64 (Addr.add za0 1) fun n115 =>
                        NNI n61 <|
                          J_law03_LotOften_4 W R ((andv .i64 (shrv .i64 n115 n61) 1) == 1) za0 zn1 zn2 zn3 zn4 zn5 nx0 b58 n59 n71 n60 n84 n61)
                      (J_law03_LotOften_4 W R false za0 zn1 zn2 zn3 zn4 zn5 nx0 b58 n59 n71 n60 n84 n61)))
      (J_law03_LotOften_4 W R false za0 zn1 zn2 zn3 zn4 zn5 nx0 b58 n59 n71 n60 n84 n61))
def J_law03_LotOften_6 (W : World) (R : Ending → Hp → Prop) (b90 : Bool) (n71 : Int) (za0 : Addr) (zn2 : Int) (n61 : Int) (zn1 : Int) (zn3 : Int) (zn4 : Int) (zn5 : Int) (nx0 : List Value → Hp → Prop) (b58 : Bool) (n59 : Int) (n60 : Int) (n84 : Int) : Hp → Prop :=
  BR b90
    (J_law03_LotOften_5 W R true n71 za0 zn2 n61 zn1 zn3 zn4 zn5 nx0 b58 n59 n60 n84)
    (NNI n61 <|
      J_law03_LotOften_5 W R (!((decide (n71 > 0)) == ((andv .i64 (shrv .i64 zn5 n61) 1) == 1))) n71 za0 zn2 n61 zn1 zn3 zn4 zn5 nx0 b58 n59 n60 n84)
def J_law03_LotOften_7 (W : World) (R : Ending → Hp → Prop) (b89 : Bool) (n71 : Int) (za0 : Addr) (zn2 : Int) (n61 : Int) (zn1 : Int) (zn3 : Int) (zn4 : Int) (zn5 : Int) (nx0 : List Value → Hp → Prop) (b58 : Bool) (n59 : Int) (n60 : Int) (n84 : Int) : Hp → Prop :=
  BR b89
    (J_law03_LotOften_6 W R true n71 za0 zn2 n61 zn1 zn3 zn4 zn5 nx0 b58 n59 n60 n84)
    (J_law03_LotOften_6 W R (decide (n84 < 0)) n71 za0 zn2 n61 zn1 zn3 zn4 zn5 nx0 b58 n59 n60 n84)
def J_law03_LotOften_8 (W : World) (R : Ending → Hp → Prop) (b88 : Bool) (n71 : Int) (za0 : Addr) (zn2 : Int) (n61 : Int) (zn1 : Int) (zn3 : Int) (zn4 : Int) (zn5 : Int) (nx0 : List Value → Hp → Prop) (b58 : Bool) (n59 : Int) (n60 : Int) (n84 : Int) : Hp → Prop :=
  BR b88
    (J_law03_LotOften_7 W R true n71 za0 zn2 n61 zn1 zn3 zn4 zn5 nx0 b58 n59 n60 n84)
    (J_law03_LotOften_7 W R (decide (n71 < 0)) n71 za0 zn2 n61 zn1 zn3 zn4 zn5 nx0 b58 n59 n60 n84)
def B_law03_LotOften_0 (W : World) (R : Ending → Hp → Prop) (za0 : Addr) (zn1 : Int) (zn2 : Int) (zn3 : Int) (zn4 : Int) (zn5 : Int) (b58 : Bool) (n59 : Int) (n60 : Int) (n61 : Int) (nx0 : List Value → Hp → Prop) : Hp → Prop :=
  BR (decide (n61 < zn1))
    (RDL (Addr.add za0 0) fun x62 l63 c64 =>
      RDI .i64 (Addr.add za0 1) fun n65 =>
        CALL Pg W F_lot_Often [(.agg #[(.slice x62 l63 c64), (.int .i64 n65)]), (.int .i64 zn2), (.int .i64 n61)]
          (fun v66 => TUP v66 fun q68 => HD q68 fun v69 r70 => TYI .i64 v69 fun n71 =>
            HD r70 fun v72 r73 => TYI .i64 v72 fun n74 =>
              NL r73 <|
                RDL (Addr.add za0 0) fun x75 l76 c77 =>
                  RDI .i64 (Addr.add za0 1) fun n78 =>
                    CALL Pg W F_lot_Often [(.agg #[(.slice x75 l76 c77), (.int .i64 n78)]), (.int .i64 n61), (.int .i64 zn3)]
                      (fun v79 => TUP v79 fun q81 => HD q81 fun v82 r83 => TYI .i64 v82 fun n84 =>
                        HD r83 fun v85 r86 => TYI .i64 v85 fun n87 =>
                          NL r86 <|
                            BR (n74 != 0)
                              (J_law03_LotOften_8 W R true n71 za0 zn2 n61 zn1 zn3 zn4 zn5 nx0 b58 n59 n60 n84)
                              (J_law03_LotOften_8 W R (n87 != 0) n71 za0 zn2 n61 zn1 zn3 zn4 zn5 nx0 b58 n59 n60 n84))
                        (fun e80 => R (.panicked e80)))
            (fun e67 => R (.panicked e67)))
    (BR (n59 == zn4)
      (BR (n60 == zn4)
        (CALL Pg W F_law03_awake []
          (fun v116 => TYB v116 fun b118 =>
            R (.returned (.bool b118)))
            (fun e117 => R (.panicked e117)))
        (R (.returned (.bool false))))
      (R (.returned (.bool false))))
theorem B_law03_LotOften_0_eq (W : World) (R : Ending → Hp → Prop) (za0 : Addr) (zn1 : Int) (zn2 : Int) (zn3 : Int) (zn4 : Int) (zn5 : Int) (b58 : Bool) (n59 : Int) (n60 : Int) (n61 : Int) (nx0 : List Value → Hp → Prop) (j : Tm) : vc Pg W 163 rs_8 an_8 false (sub (bodyOf Try.f8) [1, 1, 1, 1, 1, 1, 1, 1, 0, 1, 0, 0]) 0 (KLoop [6, 14, 15, 68] [3, 7, 8, 9, 10, 12, 67, 163] [(.pointer (some za0)), (.int .i64 zn1), (.int .i64 zn2), (.int .i64 zn3), (.int .i64 zn4), (.int .i64 zn5), (.int .i64 zn1), (.tuple #[])] nx0 (KBlk 0 (KS Pg W 163 rs_8 an_8 false (sub (bodyOf Try.f8) [1, 1, 1, 1, 1, 1, 1, 1, 1]) 0 (fin Pg W 163 rv_8 R)))) (known [6, 14, 15, 68] [(.bool b58), (.int .i64 n59), (.int .i64 n60), (.int .i64 n61)] (known [3, 7, 8, 9, 10, 12, 67, 163] [(.pointer (some za0)), (.int .i64 zn1), (.int .i64 zn2), (.int .i64 zn3), (.int .i64 zn4), (.int .i64 zn5), (.int .i64 zn1), (.tuple #[])] j)) = B_law03_LotOften_0 W R za0 zn1 zn2 zn3 zn4 zn5 b58 n59 n60 n61 nx0 := by kernel_rfl
def N_law03_LotOften_0 (I : Bool → Int → Int → Int → Hp → Prop) (μ : Bool → Int → Int → Int → Hp → Nat) (b580 : Bool) (n590 : Int) (n600 : Int) (n610 : Int) (s : Hp) (vs : List Value) : Hp → Prop := fun s' => ∃ b58 n59 n60 n61, vs = [(.bool b58), (.int .i64 n59), (.int .i64 n60), (.int .i64 n61)] ∧ I b58 n59 n60 n61 s' ∧ μ b58 n59 n60 n61 s' < μ b580 n590 n600 n610 s
theorem L_law03_LotOften_0_rule (W : World) (R : Ending → Hp → Prop) (za0 : Addr) (zn1 : Int) (zn2 : Int) (zn3 : Int) (zn4 : Int) (zn5 : Int) (I : Bool → Int → Int → Int → Hp → Prop) (μ : Bool → Int → Int → Int → Hp → Nat) (b580 : Bool) (n590 : Int) (n600 : Int) (n610 : Int) (s : Hp) (h0 : I b580 n590 n600 n610 s)
    (hr : ∀ (b58 : Bool) (n59 : Int) (n60 : Int) (n61 : Int) (s : Hp), I b58 n59 n60 n61 s → B_law03_LotOften_0 W R za0 zn1 zn2 zn3 zn4 zn5 b58 n59 n60 n61 (fun vs => N_law03_LotOften_0 I μ b58 n59 n60 n61 s vs) s) : L_law03_LotOften_0 W R za0 zn1 zn2 zn3 zn4 zn5 b580 n590 n600 n610 s := by
  refine ⟨fun vs s => ∃ b58 n59 n60 n61, vs = [(.bool b58), (.int .i64 n59), (.int .i64 n60), (.int .i64 n61)] ∧ I b58 n59 n60 n61 s, fun vs s => (match vs with | [.bool b58, .int _ n59, .int _ n60, .int _ n61] => μ b58 n59 n60 n61 s | _ => 0), ⟨⟨⟨_, rfl⟩, ⟨⟨_, rfl⟩, ⟨⟨_, rfl⟩, ⟨⟨_, rfl⟩, trivial⟩⟩⟩⟩, ⟨_, _, _, _, rfl, h0⟩⟩, ?_⟩
  intro b58 n59 n60 n61 s hI j
  obtain ⟨b58', n59', n60', n61', hy, hI⟩ := hI
  have hI' : I b58 n59 n60 n61 s := by cases hy; exact hI
  have hh := hr b58 n59 n60 n61 s hI'
  rw [← B_law03_LotOften_0_eq W R za0 zn1 zn2 zn3 zn4 zn5 b58 n59 n60 n61 _ j] at hh
  refine vc_mono ?_ _ _ hh
  exact KLoop_mono (fun vs s' h => by obtain ⟨b581, n591, n601, n611, rfl, h1, h2⟩ := h; exact ⟨⟨⟨_, rfl⟩, ⟨⟨_, rfl⟩, ⟨⟨_, rfl⟩, ⟨⟨_, rfl⟩, trivial⟩⟩⟩⟩, ⟨_, _, _, _, rfl, h1⟩, h2⟩)
def T_law03_LotOften (W : World) (x1 : Option Addr) (l2 : Nat) (c3 : Nat) (n4 : Int) (n5 : Int) (n6 : Int) (R : Ending → Hp → Prop) : Hp → Prop :=
  NEW 24 [(.slice x1 l2 c3), (.int .i64 n4)] fun B7 =>
    RDL (Addr.add ⟨B7, 0, none⟩ 0) fun x8 l9 c10 =>
      RDI .i64 (Addr.add ⟨B7, 0, none⟩ 1) fun n11 =>
        CALL Pg W F_law03_far [(.agg #[(.slice x8 l9 c10), (.int .i64 n11)]), (.slice none 0 0), (.int .i64 8)]
          (fun v12 => TYB v12 fun b14 =>
            BR b14
              (J_law03_LotOften_3 W R true B7 n5 n6)
              (RDL (Addr.add ⟨B7, 0, none⟩ 0) fun x51 l52 c53 =>
                RDI .i64 (Addr.add ⟨B7, 0, none⟩ 1) fun n54 =>
                  CALL Pg W F_ref03_Lots [(.agg #[(.slice x51 l52 c53), (.int .i64 n54)])]
                    (fun v55 => TYB v55 fun b57 =>
                      J_law03_LotOften_3 W R (!b57) B7 n5 n6)
                      (fun e56 => R (.panicked e56))))
            (fun e13 => R (.panicked e13))
theorem T_law03_LotOften_eq (W : World) (x1 : Option Addr) (l2 : Nat) (c3 : Nat) (n4 : Int) (n5 : Int) (n6 : Int) (R : Ending → Hp → Prop) : vfun Pg W an_8 Try.f8 [(.agg #[(.slice x1 l2 c3), (.int .i64 n4)]), (.int .u8 n5), (.int .u8 n6)] R = T_law03_LotOften W x1 l2 c3 n4 n5 n6 R := by kernel_rfl
theorem does_law03_LotOften (W : World) (x1 : Option Addr) (l2 : Nat) (c3 : Nat) (n4 : Int) (n5 : Int) (n6 : Int) (R : Ending → Hp → Prop) (s : Hp) (h : T_law03_LotOften W x1 l2 c3 n4 n5 n6 R s) : Does Pg W F_law03_LotOften #[(.agg #[(.slice x1 l2 c3), (.int .i64 n4)]), (.int .u8 n5), (.int .u8 n6)] s R :=
  does_of_vfun Pg W an_8 Try.func8 rfl (by kernel_rfl) (by rw [T_law03_LotOften_eq]; exact h)
end Go.Proofs.Ytocnkdkgajdejaa.G

/- The statement LotOften: how often somebody has a plot. -/
set_option linter.unusedSimpArgs false
set_option linter.unusedVariables false
set_option maxRecDepth 20000
namespace Go.Proofs.Ytocnkdkgajdejaa.G
open Go.V Go.Lot
section
variable {W : World} {K : VK} {E : List PanicEntry → Hp → Prop} {s : Hp} {L : Lts}
theorem oftenP_ok {m p : Nat} (hv : valid L = true) (hm : m < L.n) (hp : p < L.n) : oftenP L m p = (((ofN L m p : Nat) : Int), 0) := by
  unfold oftenP; rw [hv, if_pos rfl, if_pos (by omega)]; rfl
theorem men_cell {x : Option Addr} {m : Nat} (hm : MenAt s x L.men) (h : m < L.n) : ∃ b, x = some b ∧ cellAt s ((b.add (m * 3)).add 0) = some (.int .i64 (man L m).club) ∧ cellAt s ((b.add (m * 3)).add 1) = some (.bool (man L m).left) ∧ cellAt s ((b.add (m * 3)).add 2) = some (.bool (man L m).nov) := by
  obtain ⟨b, hb, g1, g2, g3⟩ := hm m h
  have hman := man_get' L (m := m) h
  rw [← hman] at g1 g2 g3
  exact ⟨b, hb, g1, g2, g3⟩
theorem mod_nat {a n : Nat} : Int.tmod (a : Int) (n : Int) = ((a % n : Nat) : Int) := by rw [Int.tmod_eq_emod_of_nonneg (by omega)]; rfl
theorem shr_low {w n : Nat} (hn : n ≤ 8) (h : w < 2 ^ n) : shrv .i64 (w : Int) (n : Int) = 0 := by
  unfold shrv
  have h1 : min ((n : Int)).toNat (IntKind.bits .i64) = n := by simp [IntKind.bits]; omega
  rw [h1, Int.fdiv_eq_ediv_of_nonneg _ (Int.pow_nonneg (by omega))]
  refine Int.ediv_eq_zero_of_lt (by omega) ?_
  have e : ((2 : Int) ^ n) = ((2 ^ n : Nat) : Int) := by simp
  rw [e]; omega

theorem w_LotOften {x : Option Addr} {c a b : Nat} (hm : MenAt s x L.men) (ha : a ≤ 255) (hb : b ≤ 255) (h : ∀ s', Ext s s' → K (.bool true) s') :
    CALL Pg W F_law03_LotOften [.agg #[.slice x L.n c, .int .i64 L.worst], .int .u8 a, .int .u8 b] K E s := by
  refine does_law03_LotOften W x L.n c L.worst a b _ s ?_
  unfold T_law03_LotOften
  refine NEW_rule fun s1 e1 z1 n1 _ => ?_
  have c0 := (n1 0 _ rfl).cell
  have c1 := (n1 1 _ rfl).cell
  have aw : ∀ t, Ext s1 t → CALL Pg W F_law03_awake [] (fun v16 => TYB v16 fun b18 => (endK K E) (.returned (.bool b18))) (fun c17 => (endK K E) (.panicked c17)) t := fun t et => c_awake fun t' et' => h t' (e1.trans (et.trans et'))
  refine ⟨_, _, _, c0, _, c1, ?_⟩
  refine c_far (n := 8) (hm.ext e1) fun s2 bb e2 hb1 hb2 => ?_
  try simp only [TUP_mk, AGG_mk, HD_mk, NL_mk, TYI_mk, TYB_mk, TYP_mk, TYL_mk, TYS_mk, TYM_mk, SO_mk, NX_mk, endK_mk, endK_mk', add_0]
  refine BR_bool (fun hbb => ?_) (fun hbb => ?_)
  · unfold J_law03_LotOften_3
    exact aw s2 e2
  obtain ⟨hn30, _, hn8'⟩ := hb2 hbb
  refine ⟨_, _, _, e2.cell c0, _, e2.cell c1, ?_⟩
  have e02 := e1.trans e2
  refine f_Lots (hm.ext e02) (by omega) fun s3 e3 => ?_
  try simp only [TUP_mk, AGG_mk, HD_mk, NL_mk, TYI_mk, TYB_mk, TYP_mk, TYL_mk, TYS_mk, TYM_mk, SO_mk, NX_mk, endK_mk, endK_mk', add_0]
  have e13 := e2.trans e3
  have e03 := e1.trans e13
  unfold J_law03_LotOften_3
  refine BR_not (fun hv => aw s3 e13) (fun hv => ?_)
  have v := vd_iff.1 hv
  have hn8 := v.hi
  have hlo := v.lo
  refine ⟨_, _, _, e13.cell c0, NZI_pos (by omega) (NZI_pos (by omega) ⟨_, _, _, e13.cell c0, _, e13.cell c1, ?_⟩)⟩
  refine c_Count (hm.ext e03) fun s4 e4 => ?_
  try simp only [TUP_mk, AGG_mk, HD_mk, NL_mk, TYI_mk, TYB_mk, TYP_mk, TYL_mk, TYS_mk, TYM_mk, SO_mk, NX_mk, endK_mk, endK_mk', add_0]
  have hcp : countP L = (((cntAll L anyC : Nat) : Int), 0) := by unfold countP; rw [hv]; rfl
  rw [hcp]
  have e14 := e13.trans e4
  have hwa : IntKind.wrap .i64 (a : Int) = (a : Int) := wrap_i64 (by omega) (by omega)
  have hwb : IntKind.wrap .i64 (b : Int) = (b : Int) := wrap_i64 (by omega) (by omega)
  rw [hwa]
  try rw [mod_nat]
  refine ⟨_, _, _, e14.cell c0, _, e14.cell c1, ?_⟩
  have hml : a % L.n < L.n := Nat.mod_lt _ (by omega)
  have hpl : b % L.n < L.n := Nat.mod_lt _ (by omega)
  refine c_Can (hm.ext (e1.trans e14)) fun s5 e5 => ?_
  try simp only [TUP_mk, AGG_mk, HD_mk, NL_mk, TYI_mk, TYB_mk, TYP_mk, TYL_mk, TYS_mk, TYM_mk, SO_mk, NX_mk, endK_mk, endK_mk', add_0]
  have hcan : canP L ((a % L.n : Nat) : Int) = (((canSet L (a % L.n) L.n : Nat) : Int), 0) := by
    unfold canP; rw [hv, if_pos rfl, if_pos (by omega)]; rfl
  rw [hcan]
  have e15 := e14.trans e5
  have hlt := canSet_lt L (a % L.n) L.n
  have h256 := lt256 hn8 hlt
  refine BR_ne (fun hh => absurd rfl hh) (fun _ => ?_)
  unfold J_law03_LotOften_2
  refine BR_ne (fun hh => absurd rfl hh) (fun _ => ?_)
  unfold J_law03_LotOften_1
  refine BR_dec (fun hh => by dsimp only at hh; omega) (fun _ => ?_)
  refine NNI_nat ?_
  unfold J_law03_LotOften_0
  dsimp only
  rw [shr_low hn8 hlt]
  refine BR_ne (fun hh => absurd rfl hh) (fun _ => ?_)
  rw [hwa, hwb, mod_nat, mod_nat]
  generalize a % L.n = m at *
  generalize b % L.n = p at *
  refine L_law03_LotOften_0_rule W _ ⟨s.size, 0, none⟩ L.n m p _ _ (fun _ n1 n2 n3 t => Ext s1 t ∧ ∃ k : Nat, k ≤ L.n ∧ n3 = k ∧ n1 = ((ofPlots L m k : Nat) : Int) ∧ n2 = ((ofMen L p k : Nat) : Int) ∧ ofPlots L m k ≤ 134217728 * k ∧ ofMen L p k ≤ 134217728 * k) (fun _ _ _ n _ => (L.n - n).toNat) false 0 0 0 s5 ⟨e15, 0, by omega, rfl, rfl, rfl, by simp [ofPlots], by simp [ofMen]⟩ ?_
  rintro b58 n1 n2 n3 t ⟨et, k, hk, rfl, rfl, rfl, hb1', hb2'⟩
  unfold B_law03_LotOften_0
  refine BR_dec (fun h1 => ?_) (fun h1 => ?_)
  · have hkn : k < L.n := by omega
    have hw : IntKind.i64.wrap ((k : Int) + 1) = ((k + 1 : Nat) : Int) := by rw [wrap_i64 (by omega) (by omega)]; rfl
    refine ⟨_, _, _, et.cell c0, _, et.cell c1, ?_⟩
    refine c_Often (hm.ext (e1.trans et)) fun t1 f1 => ?_
    try simp only [TUP_mk, AGG_mk, HD_mk, NL_mk, TYI_mk, TYB_mk, TYP_mk, TYL_mk, TYS_mk, TYM_mk, SO_mk, NX_mk, endK_mk, endK_mk', add_0]
    rw [oftenP_ok hv hml hkn]
    have et1 := et.trans f1
    refine ⟨_, _, _, et1.cell c0, _, et1.cell c1, ?_⟩
    refine c_Often (hm.ext (e1.trans et1)) fun t2 f2 => ?_
    try simp only [TUP_mk, AGG_mk, HD_mk, NL_mk, TYI_mk, TYB_mk, TYP_mk, TYL_mk, TYS_mk, TYM_mk, SO_mk, NX_mk, endK_mk, endK_mk', add_0]
    rw [oftenP_ok hv hkn hpl]
    have et2 := et1.trans f2
    have l1 := ofN_le L hn8 m k
    have l2 := ofN_le L hn8 k p
    have j4 : ∀ bb : Bool, bb = false → J_law03_LotOften_4 W (endK K E) bb ⟨s.size, 0, none⟩ L.n m p ((cntAll L anyC : Nat) : Int) ((canSet L m L.n : Nat) : Int) (fun vs => N_law03_LotOften_0 (fun _ n1 n2 n3 t => Ext s1 t ∧ ∃ k : Nat, k ≤ L.n ∧ n3 = k ∧ n1 = ((ofPlots L m k : Nat) : Int) ∧ n2 = ((ofMen L p k : Nat) : Int) ∧ ofPlots L m k ≤ 134217728 * k ∧ ofMen L p k ≤ 134217728 * k) (fun _ _ _ n _ => (L.n - n).toNat) b58 (ofPlots L m k : Nat) (ofMen L p k : Nat) k t vs) b58 (ofPlots L m k : Nat) (ofN L m k : Nat) (ofMen L p k : Nat) (ofN L k p : Nat) k t2 := by
      rintro bb rfl
      unfold J_law03_LotOften_4
      refine ⟨rfl, _, _, _, _, rfl, ⟨et2, k + 1, hkn, hw, ?_, ?_, ?_, ?_⟩, ?_⟩
      · rw [wrap_i64 (by omega) (by omega), ofPlots_succ]; rfl
      · rw [wrap_i64 (by omega) (by omega), ofMen_succ]; rfl
      · rw [ofPlots_succ]; omega
      · rw [ofMen_succ]; omega
      · show ((L.n : Int) - IntKind.i64.wrap ((k : Int) + 1)).toNat < ((L.n : Int) - k).toNat
        rw [hw]; omega
    refine BR_ne (fun hh => absurd rfl hh) (fun _ => ?_)
    unfold J_law03_LotOften_8
    refine BR_ne (fun hh => absurd rfl hh) (fun _ => ?_)
    unfold J_law03_LotOften_7
    refine BR_dec (fun hh => by omega) (fun _ => ?_)
    unfold J_law03_LotOften_6
    refine BR_dec (fun hh => by omega) (fun _ => ?_)
    refine NNI_nat ?_
    unfold J_law03_LotOften_5
    rw [hasI _ h256 k (by omega), canSet_bit, decide_eq_true hkn, Bool.true_and]
    have hde : decide (((ofN L m k : Nat) : Int) > 0) = decide (0 < ofN L m k) := by congr 1; apply propext; omega
    rw [hde]
    refine BR_not (fun hh => by simp at hh) (fun _ => ?_)
    refine BR_dec (fun hpos => ?_) (fun hpos => j4 _ rfl)
    obtain ⟨q2, q3⟩ := ofN_ok hn8 hkn hpos
    obtain ⟨bA, hbA, g1, g2, g3⟩ := men_cell (hm.ext (e1.trans et2)) hml
    have tm : ((m : Int)).toNat = m := by omega
    have last : (RDL (Addr.add ⟨s.size, 0, none⟩ 0) fun x98 l99 c100 => IXS x98 l99 (m : Int) 3 fun a101 => RDB (Addr.add a101 2) fun b102 => BR b102
          (RDI .i64 (Addr.add ⟨s.size, 0, none⟩ 1) fun n103 => NNI (k : Int) <| J_law03_LotOften_4 W (endK K E) ((andv .i64 (shrv .i64 n103 (k : Int)) 1) == 1) ⟨s.size, 0, none⟩ L.n m p ((cntAll L anyC : Nat) : Int) ((canSet L m L.n : Nat) : Int) (fun vs => N_law03_LotOften_0 (fun _ n1 n2 n3 t => Ext s1 t ∧ ∃ k : Nat, k ≤ L.n ∧ n3 = k ∧ n1 = ((ofPlots L m k : Nat) : Int) ∧ n2 = ((ofMen L p k : Nat) : Int) ∧ ofPlots L m k ≤ 134217728 * k ∧ ofMen L p k ≤ 134217728 * k) (fun _ _ _ n _ => (L.n - n).toNat) b58 (ofPlots L m k : Nat) (ofMen L p k : Nat) k t vs) b58 (ofPlots L m k : Nat) (ofN L m k : Nat) (ofMen L p k : Nat) (ofN L k p : Nat) k)
          (J_law03_LotOften_4 W (endK K E) false ⟨s.size, 0, none⟩ L.n m p ((cntAll L anyC : Nat) : Int) ((canSet L m L.n : Nat) : Int) (fun vs => N_law03_LotOften_0 (fun _ n1 n2 n3 t => Ext s1 t ∧ ∃ k : Nat, k ≤ L.n ∧ n3 = k ∧ n1 = ((ofPlots L m k : Nat) : Int) ∧ n2 = ((ofMen L p k : Nat) : Int) ∧ ofPlots L m k ≤ 134217728 * k ∧ ofMen L p k ≤ 134217728 * k) (fun _ _ _ n _ => (L.n - n).toNat) b58 (ofPlots L m k : Nat) (ofMen L p k : Nat) k t vs) b58 (ofPlots L m k : Nat) (ofN L m k : Nat) (ofMen L p k : Nat) (ofN L k p : Nat) k)) t2 := by
      refine ⟨_, _, _, et2.cell c0, bA, hbA, ⟨by omega, by omega⟩, _, by rw [tm]; exact g3, ?_⟩
      refine BR_bool (fun h3 => ?_) (fun h3 => j4 _ rfl)
      refine ⟨_, et2.cell c1, NNI_nat (j4 _ ?_)⟩
      rw [bad_eq v (by omega)]
      unfold r3 at q3
      rw [h3] at q3
      simpa using q3
    refine ⟨_, _, _, et2.cell c0, bA, hbA, ⟨by omega, by omega⟩, _, by rw [tm]; exact g2, ?_⟩
    refine BR_bool (fun h3 => ?_) (fun h3 => last)
    unfold r2 at q2
    rw [h3] at q2
    refine BR_dec (fun h4 => ?_) (fun h4 => last)
    refine BR_dec (fun h5 => ?_) (fun h5 => last)
    rw [wrap_i64 (by omega) (by omega)] at h5
    have h6 : k > 0 := by omega
    have h7 : k < L.n - 1 := by omega
    rw [decide_eq_true h6, decide_eq_true h7] at q2
    cases q2
  · have : k = L.n := by omega
    subst this
    rw [ofPlots_all hn8 hml, ofMen_all hn8 hpl]
    refine BR_eq (fun _ => ?_) (fun hh => absurd rfl hh)
    refine BR_eq (fun _ => ?_) (fun hh => absurd rfl hh)
    exact aw t et
end
end Go.Proofs.Ytocnkdkgajdejaa.G

/- More of the functions' shallow texts, by gen.py. -/
set_option linter.unusedVariables false
set_option maxRecDepth 100000
namespace Go.Proofs.Ytocnkdkgajdejaa.G
open Go.V
def an_7 : Nat → Ann := fun b => match b with
  | 0 => { ms := [6, 46], ks := [.b, .i .i64], us := [1, 2, 3, 7, 44, 45, 182], rt := false, ex := [] }
  | _ => {}
abbrev rv_7 : List ResultVar := [.tmp 6]
abbrev rs_7 : List Nat := [182, 6]
def L_law03_LotOrder_0 (W : World) (R : Ending → Hp → Prop) (zn0 : Int) (zp1 : Option Addr) (zl2 : Nat) (zl3 : Nat) (za4 : Addr) (zn5 : Int) (za6 : Addr) (b43 : Bool) (n44 : Int) : Hp → Prop :=
  LOOPN [.b, .i .i64] (fun ys next s => ∀ j : Tm, vc Pg W 182 rs_7 an_7 false (sub (bodyOf Try.f7) [1, 1, 1, 1, 0, 1, 0, 0]) 0 (KLoop [6, 46] [1, 2, 3, 7, 44, 45, 182] [(.int .u16 zn0), (.slice zp1 zl2 zl3), (.pointer (some za4)), (.int .i64 zn5), (.slice (some za6) 2 2), (.int .i64 2), (.tuple #[])] next (KBlk 0 (KS Pg W 182 rs_7 an_7 false (sub (bodyOf Try.f7) [1, 1, 1, 1, 1]) 0 (fin Pg W 182 rv_7 R)))) (known [6, 46] ys (known [1, 2, 3, 7, 44, 45, 182] [(.int .u16 zn0), (.slice zp1 zl2 zl3), (.pointer (some za4)), (.int .i64 zn5), (.slice (some za6) 2 2), (.int .i64 2), (.tuple #[])] j)) s) [(.bool b43), (.int .i64 n44)]
def J_law03_LotOrder_0 (W : World) (R : Ending → Hp → Prop) (b34 : Bool) (n30 : Int) (n5 : Int) (x6 : Option Addr) (l7 : Nat) (c8 : Nat) (B9 : Nat) : Hp → Prop :=
  BR b34
    (R (.returned (.bool false)))
    (NEW 3 [(.int .i64 (-1)), (.int .i64 n30)] fun B35 =>
      L_law03_LotOrder_0 W R n5 x6 l7 c8 ⟨B9, 0, none⟩ n30 ⟨B35, 0, none⟩ false 0)
def J_law03_LotOrder_1 (W : World) (R : Ending → Hp → Prop) (b17 : Bool) (B9 : Nat) (n5 : Int) (x6 : Option Addr) (l7 : Nat) (c8 : Nat) : Hp → Prop :=
  BR b17
    (CALL Pg W F_law03_awake []
      (fun v18 => TYB v18 fun b20 =>
        R (.returned (.bool b20)))
        (fun e19 => R (.panicked e19)))
    (RDL (Addr.add ⟨B9, 0, none⟩ 0) fun x21 l22 c23 =>
      RDI .i64 (Addr.add ⟨B9, 0, none⟩ 1) fun n24 =>
        CALL Pg W F_lot_Count [(.agg #[(.slice x21 l22 c23), (.int .i64 n24)])]
          (fun v25 => TUP v25 fun q27 => HD q27 fun v28 r29 => TYI .i64 v28 fun n30 =>
            HD r29 fun v31 r32 => TYI .i64 v31 fun n33 =>
              NL r32 <|
                BR (n33 != 0)
                  (J_law03_LotOrder_0 W R true n30 n5 x6 l7 c8 B9)
                  (J_law03_LotOrder_0 W R (decide (n30 < 0)) n30 n5 x6 l7 c8 B9))
            (fun e26 => R (.panicked e26)))
def J_law03_LotOrder_2 (W : World) (R : Ending → Hp → Prop) (b62 : Bool) (zn0 : Int) (zp1 : Option Addr) (zl2 : Nat) (zl3 : Nat) (za4 : Addr) (zn5 : Int) (za6 : Addr) (nx0 : List Value → Hp → Prop) (b43 : Bool) (n44 : Int) : Hp → Prop :=
  BR b62
    (R (.returned (.bool false)))
    (NX [(.int .u16 zn0), (.slice zp1 zl2 zl3), (.pointer (some za4)), (.int .i64 zn5), (.slice (some za6) 2 2), (.int .i64 2), (.tuple #[])] [(.int .u16 zn0), (.slice zp1 zl2 zl3), (.pointer (some za4)), (.int .i64 zn5), (.slice (some za6) 2 2), (.int .i64 2), (.tuple #[])] (nx0 [(.bool b43), (.int .i64 (IntKind.wrap .i64 (n44 + 1)))]))
def J_law03_LotOrder_3 (W : World) (R : Ending → Hp → Prop) (b152 : Bool) (x121 : Option Addr) (l122 : Nat) (c123 : Nat) (x75 : Option Addr) (l76 : Nat) (c77 : Nat) (n143 : Int) (zn0 : Int) (zn5 : Int) : Hp → Prop :=
  BR b152
    (CALL Pg W F_ref03_Ints [(.slice x121 l122 c123), (.slice x75 l76 c77)]
      (fun v153 => TYB v153 fun b155 =>
        BR ((n143 == (Int.tmod (IntKind.wrap .i64 zn0) zn5)) == b155)
          (CALL Pg W F_law03_awake []
            (fun v156 => TYB v156 fun b158 =>
              R (.returned (.bool b158)))
              (fun e157 => R (.panicked e157)))
          (R (.returned (.bool false))))
        (fun e154 => R (.panicked e154)))
    (R (.returned (.bool false)))
def J_law03_LotOrder_4 (W : World) (R : Ending → Hp → Prop) (b148 : Bool) (x121 : Option Addr) (l122 : Nat) (c123 : Nat) (x75 : Option Addr) (l76 : Nat) (c77 : Nat) (n143 : Int) (zn0 : Int) (zn5 : Int) : Hp → Prop :=
  BR b148
    (CALLV Pg W (.func (.func 38) #[] #[]) [(.slice x121 l122 c123), (.slice x75 l76 c77)]
      (fun v149 => TYB v149 fun b151 =>
        J_law03_LotOrder_3 W R ((decide (n143 < (Int.tmod (IntKind.wrap .i64 zn0) zn5))) == b151) x121 l122 c123 x75 l76 c77 n143 zn0 zn5)
        (fun e150 => R (.panicked e150)))
    (J_law03_LotOrder_3 W R false x121 l122 c123 x75 l76 c77 n143 zn0 zn5)
def J_law03_LotOrder_5 (W : World) (R : Ending → Hp → Prop) (b147 : Bool) (n143 : Int) (zn5 : Int) (x121 : Option Addr) (l122 : Nat) (c123 : Nat) (x75 : Option Addr) (l76 : Nat) (c77 : Nat) (zn0 : Int) : Hp → Prop :=
  BR b147
    (J_law03_LotOrder_4 W R (decide (n143 < zn5)) x121 l122 c123 x75 l76 c77 n143 zn0 zn5)
    (J_law03_LotOrder_4 W R false x121 l122 c123 x75 l76 c77 n143 zn0 zn5)
def J_law03_LotOrder_6 (W : World) (R : Ending → Hp → Prop) (za4 : Addr) (zp1 : Option Addr) (zl2 : Nat) (zl3 : Nat) (zn5 : Int) (x75 : Option Addr) (l76 : Nat) (c77 : Nat) (zn0 : Int) : Hp → Prop :=
  RDL (Addr.add za4 0) fun x116 l117 c118 =>
    CALL Pg W F_law03_made [(.int .i64 (↑l117 : Int)), (.slice zp1 zl2 zl3)]
      (fun v119 => TYL v119 fun x121 l122 c123 =>
        RDL (Addr.add za4 0) fun x124 l125 c126 =>
          RDI .i64 (Addr.add za4 1) fun n127 =>
            CALL Pg W F_law03_lawful [(.agg #[(.slice x124 l125 c126), (.int .i64 n127)]), (.slice x121 l122 c123)]
              (fun v128 => TYB v128 fun b130 =>
                BR (!b130)
                  (CALL Pg W F_law03_awake []
                    (fun v131 => TYB v131 fun b133 =>
                      R (.returned (.bool b133)))
                      (fun e132 => R (.panicked e132)))
                  (RDL (Addr.add za4 0) fun x134 l135 c136 =>
                    RDI .i64 (Addr.add za4 1) fun n137 =>
                      CALL Pg W F_lot_Place [(.agg #[(.slice x134 l135 c136), (.int .i64 n137)]), (.slice x121 l122 c123)]
                        (fun v138 => TUP v138 fun q140 => HD q140 fun v141 r142 => TYI .i64 v141 fun n143 =>
                          HD r142 fun v144 r145 => TYI .i64 v144 fun n146 =>
                            NL r145 <|
                              BR (n146 == 0)
                                (J_law03_LotOrder_5 W R (decide (n143 ≥ 0)) n143 zn5 x121 l122 c123 x75 l76 c77 zn0)
                                (J_law03_LotOrder_5 W R false n143 zn5 x121 l122 c123 x75 l76 c77 zn0))
                          (fun e139 => R (.panicked e139))))
                (fun e129 => R (.panicked e129)))
        (fun e120 => R (.panicked e120))
def J_law03_LotOrder_7 (W : World) (R : Ending → Hp → Prop) (b114 : Bool) (za4 : Addr) (zp1 : Option Addr) (zl2 : Nat) (zl3 : Nat) (zn5 : Int) (x75 : Option Addr) (l76 : Nat) (c77 : Nat) (zn0 : Int) : Hp → Prop :=
  BR b114
    (R (.returned (.bool false)))
    (J_law03_LotOrder_6 W R za4 zp1 zl2 zl3 zn5 x75 l76 c77 zn0)
def J_law03_LotOrder_8 (W : World) (R : Ending → Hp → Prop) (b113 : Bool) (za4 : Addr) (zp1 : Option Addr) (zl2 : Nat) (zl3 : Nat) (zn5 : Int) (x75 : Option Addr) (l76 : Nat) (c77 : Nat) (zn0 : Int) (x107 : Option Addr) (l108 : Nat) (c109 : Nat) : Hp → Prop :=
  BR b113
    (J_law03_LotOrder_7 W R true za4 zp1 zl2 zl3 zn5 x75 l76 c77 zn0)
    (CALLV Pg W (.func (.func 38) #[] #[]) [(.slice x75 l76 c77), (.slice x107 l108 c109)]
      (fun v159 => TYB v159 fun b161 =>
        J_law03_LotOrder_7 W R (!b161) za4 zp1 zl2 zl3 zn5 x75 l76 c77 zn0)
        (fun e160 => R (.panicked e160)))
def J_law03_LotOrder_9 (W : World) (R : Ending → Hp → Prop) (b97 : Bool) (zn0 : Int) (zn5 : Int) (za4 : Addr) (zp1 : Option Addr) (zl2 : Nat) (zl3 : Nat) (x75 : Option Addr) (l76 : Nat) (c77 : Nat) : Hp → Prop :=
  BR b97
    (R (.returned (.bool false)))
    (BR (decide ((IntKind.wrap .i64 ((Int.tmod (IntKind.wrap .i64 zn0) zn5) + 1)) < zn5))
      (RDL (Addr.add za4 0) fun x98 l99 c100 =>
        RDI .i64 (Addr.add za4 1) fun n101 =>
          CALL Pg W F_lot_Nth [(.agg #[(.slice x98 l99 c100), (.int .i64 n101)]), (.int .i64 (IntKind.wrap .i64 ((Int.tmod (IntKind.wrap .i64 zn0) zn5) + 1)))]
            (fun v102 => TUP v102 fun q104 => HD q104 fun v105 r106 => TYL v105 fun x107 l108 c109 =>
              HD r106 fun v110 r111 => TYI .i64 v110 fun n112 =>
                NL r111 <|
                  BR (n112 != 0)
                    (J_law03_LotOrder_8 W R true za4 zp1 zl2 zl3 zn5 x75 l76 c77 zn0 x107 l108 c109)
                    (J_law03_LotOrder_8 W R ((↑l108 : Int) != (↑l76 : Int)) za4 zp1 zl2 zl3 zn5 x75 l76 c77 zn0 x107 l108 c109))
              (fun e103 => R (.panicked e103)))
      (J_law03_LotOrder_6 W R za4 zp1 zl2 zl3 zn5 x75 l76 c77 zn0))
def J_law03_LotOrder_10 (W : World) (R : Ending → Hp → Prop) (b96 : Bool) (zn0 : Int) (zn5 : Int) (za4 : Addr) (zp1 : Option Addr) (zl2 : Nat) (zl3 : Nat) (x75 : Option Addr) (l76 : Nat) (c77 : Nat) (n90 : Int) : Hp → Prop :=
  BR b96
    (J_law03_LotOrder_9 W R true zn0 zn5 za4 zp1 zl2 zl3 x75 l76 c77)
    (J_law03_LotOrder_9 W R (n90 != (Int.tmod (IntKind.wrap .i64 zn0) zn5)) zn0 zn5 za4 zp1 zl2 zl3 x75 l76 c77)
def J_law03_LotOrder_11 (W : World) (R : Ending → Hp → Prop) (b95 : Bool) (zn0 : Int) (zn5 : Int) (za4 : Addr) (zp1 : Option Addr) (zl2 : Nat) (zl3 : Nat) (x75 : Option Addr) (l76 : Nat) (c77 : Nat) (n90 : Int) (n93 : Int) : Hp → Prop :=
  BR b95
    (J_law03_LotOrder_10 W R true zn0 zn5 za4 zp1 zl2 zl3 x75 l76 c77 n90)
    (J_law03_LotOrder_10 W R (n93 != 0) zn0 zn5 za4 zp1 zl2 zl3 x75 l76 c77 n90)
def J_law03_LotOrder_12 (W : World) (R : Ending → Hp → Prop) (b94 : Bool) (zn0 : Int) (zn5 : Int) (za4 : Addr) (zp1 : Option Addr) (zl2 : Nat) (zl3 : Nat) (x75 : Option Addr) (l76 : Nat) (c77 : Nat) (n90 : Int) (n93 : Int) : Hp → Prop :=
  BR b94
    (J_law03_LotOrder_11 W R true zn0 zn5 za4 zp1 zl2 zl3 x75 l76 c77 n90 n93)
    (RDL (Addr.add za4 0) fun x162 l163 c164 =>
      RDI .i64 (Addr.add za4 1) fun n165 =>
        CALL Pg W F_law03_lawful [(.agg #[(.slice x162 l163 c164), (.int .i64 n165)]), (.slice x75 l76 c77)]
          (fun v166 => TYB v166 fun b168 =>
            J_law03_LotOrder_11 W R (!b168) zn0 zn5 za4 zp1 zl2 zl3 x75 l76 c77 n90 n93)
            (fun e167 => R (.panicked e167)))
def B_law03_LotOrder_0 (W : World) (R : Ending → Hp → Prop) (zn0 : Int) (zp1 : Option Addr) (zl2 : Nat) (zl3 : Nat) (za4 : Addr) (zn5 : Int) (za6 : Addr) (b43 : Bool) (n44 : Int) (nx0 : List Value → Hp → Prop) : Hp → Prop :=
  BR (decide (n44 < 2))
    (IXS (some za6) 2 n44 1 fun a45 =>
      RDI .i64 a45 fun n46 =>
        RDL (Addr.add za4 0) fun x47 l48 c49 =>
          RDI .i64 (Addr.add za4 1) fun n50 =>
            CALL Pg W F_lot_Nth [(.agg #[(.slice x47 l48 c49), (.int .i64 n50)]), (.int .i64 n46)]
              (fun v51 => TUP v51 fun q53 => HD q53 fun v54 r55 => TYL v54 fun x56 l57 c58 =>
                HD r55 fun v59 r60 => TYI .i64 v59 fun n61 =>
                  NL r60 <|
                    BR (n61 != 4)
                      (J_law03_LotOrder_2 W R true zn0 zp1 zl2 zl3 za4 zn5 za6 nx0 b43 n44)
                      (J_law03_LotOrder_2 W R ((↑l57 : Int) != 0) zn0 zp1 zl2 zl3 za4 zn5 za6 nx0 b43 n44))
                (fun e52 => R (.panicked e52)))
    (BR (zn5 == 0)
      (CALL Pg W F_law03_awake []
        (fun v63 => TYB v63 fun b65 =>
          R (.returned (.bool b65)))
          (fun e64 => R (.panicked e64)))
      (NZI zn5 <|
        RDL (Addr.add za4 0) fun x66 l67 c68 =>
          RDI .i64 (Addr.add za4 1) fun n69 =>
            CALL Pg W F_lot_Nth [(.agg #[(.slice x66 l67 c68), (.int .i64 n69)]), (.int .i64 (Int.tmod (IntKind.wrap .i64 zn0) zn5))]
              (fun v70 => TUP v70 fun q72 => HD q72 fun v73 r74 => TYL v73 fun x75 l76 c77 =>
                HD r74 fun v78 r79 => TYI .i64 v78 fun n80 =>
                  NL r79 <|
                    RDL (Addr.add za4 0) fun x81 l82 c83 =>
                      RDI .i64 (Addr.add za4 1) fun n84 =>
                        CALL Pg W F_lot_Place [(.agg #[(.slice x81 l82 c83), (.int .i64 n84)]), (.slice x75 l76 c77)]
                          (fun v85 => TUP v85 fun q87 => HD q87 fun v88 r89 => TYI .i64 v88 fun n90 =>
                            HD r89 fun v91 r92 => TYI .i64 v91 fun n93 =>
                              NL r92 <|
                                BR (n80 != 0)
                                  (J_law03_LotOrder_12 W R true zn0 zn5 za4 zp1 zl2 zl3 x75 l76 c77 n90 n93)
                                  (RDL (Addr.add za4 0) fun x169 l170 c171 =>
                                    RDI .i64 (Addr.add za4 1) fun n172 =>
                                      CALL Pg W F_ref03_Full [(.agg #[(.slice x169 l170 c171), (.int .i64 n172)]), (.slice x75 l76 c77)]
                                        (fun v173 => TYB v173 fun b175 =>
                                          J_law03_LotOrder_12 W R (!b175) zn0 zn5 za4 zp1 zl2 zl3 x75 l76 c77 n90 n93)
                                          (fun e174 => R (.panicked e174))))
                            (fun e86 => R (.panicked e86)))
                (fun e71 => R (.panicked e71))))
theorem B_law03_LotOrder_0_eq (W : World) (R : Ending → Hp → Prop) (zn0 : Int) (zp1 : Option Addr) (zl2 : Nat) (zl3 : Nat) (za4 : Addr) (zn5 : Int) (za6 : Addr) (b43 : Bool) (n44 : Int) (nx0 : List Value → Hp → Prop) (j : Tm) : vc Pg W 182 rs_7 an_7 false (sub (bodyOf Try.f7) [1, 1, 1, 1, 0, 1, 0, 0]) 0 (KLoop [6, 46] [1, 2, 3, 7, 44, 45, 182] [(.int .u16 zn0), (.slice zp1 zl2 zl3), (.pointer (some za4)), (.int .i64 zn5), (.slice (some za6) 2 2), (.int .i64 2), (.tuple #[])] nx0 (KBlk 0 (KS Pg W 182 rs_7 an_7 false (sub (bodyOf Try.f7) [1, 1, 1, 1, 1]) 0 (fin Pg W 182 rv_7 R)))) (known [6, 46] [(.bool b43), (.int .i64 n44)] (known [1, 2, 3, 7, 44, 45, 182] [(.int .u16 zn0), (.slice zp1 zl2 zl3), (.pointer (some za4)), (.int .i64 zn5), (.slice (some za6) 2 2), (.int .i64 2), (.tuple #[])] j)) = B_law03_LotOrder_0 W R zn0 zp1 zl2 zl3 za4 zn5 za6 b43 n44 nx0 := by kernel_rfl
def N_law03_LotOrder_0 (I : Bool → Int → Hp → Prop) (μ : Bool → Int → Hp → Nat) (b430 : Bool) (n440 : Int) (s : Hp) (vs : List Value) : Hp → Prop := fun s' => ∃ b43 n44, vs = [(.bool b43), (.int .i64 n44)] ∧ I b43 n44 s' ∧ μ b43 n44 s' < μ b430 n440 s
theorem L_law03_LotOrder_0_rule (W : World) (R : Ending → Hp → Prop) (zn0 : Int) (zp1 : Option Addr) (zl2 : Nat) (zl3 : Nat) (za4 : Addr) (zn5 : Int) (za6 : Addr) (I : Bool → Int → Hp → Prop) (μ : Bool → Int → Hp → Nat) (b430 : Bool) (n440 : Int) (s : Hp) (h0 : I b430 n440 s)
    (hr : ∀ (b43 : Bool) (n44 : Int) (s : Hp), I b43 n44 s → B_law03_LotOrder_0 W R zn0 zp1 zl2 zl3 za4 zn5 za6 b43 n44 (fun vs => N_law03_LotOrder_0 I μ b43 n44 s vs) s) : L_law03_LotOrder_0 W R zn0 zp1 zl2 zl3 za4 zn5 za6 b430 n440 s := by
  refine ⟨fun vs s => ∃ b43 n44, vs = [(.bool b43), (.int .i64 n44)] ∧ I b43 n44 s, fun vs s => (match vs with | [.bool b43, .int _ n44] => μ b43 n44 s | _ => 0), ⟨⟨⟨_, rfl⟩, ⟨⟨_, rfl⟩, trivial⟩⟩, ⟨_, _, rfl, h0⟩⟩, ?_⟩
  intro b43 n44 s hI j
  obtain ⟨b43', n44', hy, hI⟩ := hI
  have hI' : I b43 n44 s := by cases hy; exact hI
  have hh := hr b43 n44 s hI'
  rw [← B_law03_LotOrder_0_eq W R zn0 zp1 zl2 zl3 za4 zn5 za6 b43 n44 _ j] at hh
  refine vc_mono ?_ _ _ hh
  exact KLoop_mono (fun vs s' h => by obtain ⟨b431, n441, rfl, h1, h2⟩ := h; exact ⟨⟨⟨_, rfl⟩, ⟨⟨_, rfl⟩, trivial⟩⟩, ⟨_, _, rfl, h1⟩, h2⟩)
def T_law03_LotOrder (W : World) (x1 : Option Addr) (l2 : Nat) (c3 : Nat) (n4 : Int) (n5 : Int) (x6 : Option Addr) (l7 : Nat) (c8 : Nat) (R : Ending → Hp → Prop) : Hp → Prop :=
  NEW 24 [(.slice x1 l2 c3), (.int .i64 n4)] fun B9 =>
    RDL (Addr.add ⟨B9, 0, none⟩ 0) fun x10 l11 c12 =>
      RDI .i64 (Addr.add ⟨B9, 0, none⟩ 1) fun n13 =>
        CALL Pg W F_law03_far [(.agg #[(.slice x10 l11 c12), (.int .i64 n13)]), (.slice none 0 0), (.int .i64 8)]
          (fun v14 => TYB v14 fun b16 =>
            BR b16
              (J_law03_LotOrder_1 W R true B9 n5 x6 l7 c8)
              (RDL (Addr.add ⟨B9, 0, none⟩ 0) fun x36 l37 c38 =>
                RDI .i64 (Addr.add ⟨B9, 0, none⟩ 1) fun n39 =>
                  CALL Pg W F_ref03_Lots [(.agg #[(.slice x36 l37 c38), (.int .i64 n39)])]
                    (fun v40 => TYB v40 fun b42 =>
                      J_law03_LotOrder_1 W R (!b42) B9 n5 x6 l7 c8)
                      (fun e41 => R (.panicked e41))))
            (fun e15 => R (.panicked e15))
theorem T_law03_LotOrder_eq (W : World) (x1 : Option Addr) (l2 : Nat) (c3 : Nat) (n4 : Int) (n5 : Int) (x6 : Option Addr) (l7 : Nat) (c8 : Nat) (R : Ending → Hp → Prop) : vfun Pg W an_7 Try.f7 [(.agg #[(.slice x1 l2 c3), (.int .i64 n4)]), (.int .u16 n5), (.slice x6 l7 c8)] R = T_law03_LotOrder W x1 l2 c3 n4 n5 x6 l7 c8 R := by kernel_rfl
theorem does_law03_LotOrder (W : World) (x1 : Option Addr) (l2 : Nat) (c3 : Nat) (n4 : Int) (n5 : Int) (x6 : Option Addr) (l7 : Nat) (c8 : Nat) (R : Ending → Hp → Prop) (s : Hp) (h : T_law03_LotOrder W x1 l2 c3 n4 n5 x6 l7 c8 R s) : Does Pg W F_law03_LotOrder #[(.agg #[(.slice x1 l2 c3), (.int .i64 n4)]), (.int .u16 n5), (.slice x6 l7 c8)] s R :=
  does_of_vfun Pg W an_7 Try.func7 rfl (by kernel_rfl) (by rw [T_law03_LotOrder_eq]; exact h)
def an_38 : Nat → Ann := fun b => match b with
  | 0 => { ms := [8], ks := [.i .i64], us := [0, 1, 7, 30], rt := false, ex := [] }
  | _ => {}
abbrev rv_38 : List ResultVar := [.tmp 4]
abbrev rs_38 : List Nat := [30, 4]
def L_law03_LotOrder_c1_0 (W : World) (R : Ending → Hp → Prop) (zp0 : Option Addr) (zl1 : Nat) (zl2 : Nat) (zp3 : Option Addr) (zl4 : Nat) (zl5 : Nat) (zn6 : Int) (n7 : Int) : Hp → Prop :=
  LOOPN [.i .i64] (fun ys next s => ∀ j : Tm, vc Pg W 30 rs_38 an_38 false (sub (bodyOf Try.f38) [1, 0, 1, 0, 0]) 0 (KLoop [8] [0, 1, 7, 30] [(.slice zp0 zl1 zl2), (.slice zp3 zl4 zl5), (.int .i64 zn6), (.tuple #[])] next (KBlk 0 (KS Pg W 30 rs_38 an_38 false (sub (bodyOf Try.f38) [1, 1]) 0 (fin Pg W 30 rv_38 R)))) (known [8] ys (known [0, 1, 7, 30] [(.slice zp0 zl1 zl2), (.slice zp3 zl4 zl5), (.int .i64 zn6), (.tuple #[])] j)) s) [(.int .i64 n7)]
def B_law03_LotOrder_c1_0 (W : World) (R : Ending → Hp → Prop) (zp0 : Option Addr) (zl1 : Nat) (zl2 : Nat) (zp3 : Option Addr) (zl4 : Nat) (zl5 : Nat) (zn6 : Int) (n7 : Int) (nx0 : List Value → Hp → Prop) : Hp → Prop :=
  BR (decide (n7 < zn6))
    (IXS zp0 zl1 n7 1 fun a8 =>
      RDI .i64 a8 fun n9 =>
        IXS zp3 zl4 n7 1 fun a10 =>
          RDI .i64 a10 fun n11 =>
            BR (n9 != n11)
              (IXS zp0 zl1 n7 1 fun a12 =>
                RDI .i64 a12 fun n13 =>
                  IXS zp3 zl4 n7 1 fun a14 =>
                    RDI .i64 a14 fun n15 =>
                      R (.returned (.bool (decide (n13 < n15)))))
              (NX [(.slice zp0 zl1 zl2), (.slice zp3 zl4 zl5), (.int .i64 zn6), (.tuple #[])] [(.slice zp0 zl1 zl2), (.slice zp3 zl4 zl5), (.int .i64 zn6), (.tuple #[])] (nx0 [(.int .i64 (IntKind.wrap .i64 (n7 + 1)))])))
    (R (.returned (.bool false)))
theorem B_law03_LotOrder_c1_0_eq (W : World) (R : Ending → Hp → Prop) (zp0 : Option Addr) (zl1 : Nat) (zl2 : Nat) (zp3 : Option Addr) (zl4 : Nat) (zl5 : Nat) (zn6 : Int) (n7 : Int) (nx0 : List Value → Hp → Prop) (j : Tm) : vc Pg W 30 rs_38 an_38 false (sub (bodyOf Try.f38) [1, 0, 1, 0, 0]) 0 (KLoop [8] [0, 1, 7, 30] [(.slice zp0 zl1 zl2), (.slice zp3 zl4 zl5), (.int .i64 zn6), (.tuple #[])] nx0 (KBlk 0 (KS Pg W 30 rs_38 an_38 false (sub (bodyOf Try.f38) [1, 1]) 0 (fin Pg W 30 rv_38 R)))) (known [8] [(.int .i64 n7)] (known [0, 1, 7, 30] [(.slice zp0 zl1 zl2), (.slice zp3 zl4 zl5), (.int .i64 zn6), (.tuple #[])] j)) = B_law03_LotOrder_c1_0 W R zp0 zl1 zl2 zp3 zl4 zl5 zn6 n7 nx0 := by kernel_rfl
def N_law03_LotOrder_c1_0 (I : Int → Hp → Prop) (μ : Int → Hp → Nat) (n70 : Int) (s : Hp) (vs : List Value) : Hp → Prop := fun s' => ∃ n7, vs = [(.int .i64 n7)] ∧ I n7 s' ∧ μ n7 s' < μ n70 s
theorem L_law03_LotOrder_c1_0_rule (W : World) (R : Ending → Hp → Prop) (zp0 : Option Addr) (zl1 : Nat) (zl2 : Nat) (zp3 : Option Addr) (zl4 : Nat) (zl5 : Nat) (zn6 : Int) (I : Int → Hp → Prop) (μ : Int → Hp → Nat) (n70 : Int) (s : Hp) (h0 : I n70 s)
    (hr : ∀ (n7 : Int) (s : Hp), I n7 s → B_law03_LotOrder_c1_0 W R zp0 zl1 zl2 zp3 zl4 zl5 zn6 n7 (fun vs => N_law03_LotOrder_c1_0 I μ n7 s vs) s) : L_law03_LotOrder_c1_0 W R zp0 zl1 zl2 zp3 zl4 zl5 zn6 n70 s := by
  refine ⟨fun vs s => ∃ n7, vs = [(.int .i64 n7)] ∧ I n7 s, fun vs s => (match vs with | [.int _ n7] => μ n7 s | _ => 0), ⟨⟨⟨_, rfl⟩, trivial⟩, ⟨_, rfl, h0⟩⟩, ?_⟩
  intro n7 s hI j
  obtain ⟨n7', hy, hI⟩ := hI
  have hI' : I n7 s := by cases hy; exact hI
  have hh := hr n7 s hI'
  rw [← B_law03_LotOrder_c1_0_eq W R zp0 zl1 zl2 zp3 zl4 zl5 zn6 n7 _ j] at hh
  refine vc_mono ?_ _ _ hh
  exact KLoop_mono (fun vs s' h => by obtain ⟨n71, rfl, h1, h2⟩ := h; exact ⟨⟨⟨_, rfl⟩, trivial⟩, ⟨_, rfl, h1⟩, h2⟩)
def T_law03_LotOrder_c1 (W : World) (x1 : Option Addr) (l2 : Nat) (c3 : Nat) (x4 : Option Addr) (l5 : Nat) (c6 : Nat) (R : Ending → Hp → Prop) : Hp → Prop :=
  L_law03_LotOrder_c1_0 W R x1 l2 c3 x4 l5 c6 (↑l2 : Int) 0
theorem T_law03_LotOrder_c1_eq (W : World) (x1 : Option Addr) (l2 : Nat) (c3 : Nat) (x4 : Option Addr) (l5 : Nat) (c6 : Nat) (R : Ending → Hp → Prop) : vfun Pg W an_38 Try.f38 [(.slice x1 l2 c3), (.slice x4 l5 c6)] R = T_law03_LotOrder_c1 W x1 l2 c3 x4 l5 c6 R := by kernel_rfl
theorem does_law03_LotOrder_c1 (W : World) (x1 : Option Addr) (l2 : Nat) (c3 : Nat) (x4 : Option Addr) (l5 : Nat) (c6 : Nat) (R : Ending → Hp → Prop) (s : Hp) (h : T_law03_LotOrder_c1 W x1 l2 c3 x4 l5 c6 R s) : Does Pg W F_law03_LotOrder_c1 #[(.slice x1 l2 c3), (.slice x4 l5 c6)] s R :=
  does_of_vfun Pg W an_38 Try.func38 rfl (by kernel_rfl) (by rw [T_law03_LotOrder_c1_eq]; exact h)
end Go.Proofs.Ytocnkdkgajdejaa.G

/- The statement LotOrder: the lawful draws are in order. -/
set_option linter.unusedSimpArgs false
set_option linter.unusedVariables false
set_option maxRecDepth 20000
namespace Go.Proofs.Ytocnkdkgajdejaa.G
open Go.V Go.Lot
section
variable {W : World} {K : VK} {E : List PanicEntry → Hp → Prop} {s : Hp} {L : Lts}
theorem row_at {y : Option Addr} {d : List Nat} {k : Nat} (hy : RowAt s y (vals d)) (hk : k < d.length) : ∃ a, y = some a ∧ cellAt s (a.add (k * 1)) = some (.int .i64 (d.getD k 0 : Nat)) := by
  have hget : d.getD k 0 = d[k] := by simp [List.getD, hk]
  have hkv : k < (vals d).length := by rw [vals_len]; exact hk
  obtain ⟨a, ha, g⟩ := hy k hkv
  rw [vals_get hkv] at g
  exact ⟨a, ha, by rw [hget]; exact g⟩
theorem c_before {x y : Option Addr} {c c' l l' : Nat} {a b : List Nat} (ha : RowAt s x (vals a)) (hb : RowAt s y (vals b)) (hl : l = a.length) (hl' : l' = b.length) (hab : a.length = b.length) (h8 : a.length ≤ 100) (h : K (.bool (ltB a b)) s) :
    CALLV Pg W (.func (.func 38) #[] #[]) [.slice x l c, .slice y l' c'] K E s := by
  subst hl; subst hl'
  refine CALLV_func ?_
  refine does_law03_LotOrder_c1 W x a.length c y b.length c' _ s ?_
  unfold T_law03_LotOrder_c1
  refine L_law03_LotOrder_c1_0_rule W _ x a.length c y b.length c' a.length (fun n t => t = s ∧ ∃ k : Nat, k ≤ a.length ∧ n = k ∧ ∀ j, j < k → a.getD j 0 = b.getD j 0) (fun n _ => (a.length - n).toNat) 0 s ⟨rfl, 0, by omega, rfl, fun j hj => by omega⟩ ?_
  rintro n t ⟨rfl, k, hk, rfl, heq⟩
  unfold B_law03_LotOrder_c1_0
  refine BR_dec (fun h1 => ?_) (fun h1 => ?_)
  · obtain ⟨p, hp, g⟩ := row_at ha (show k < a.length by omega)
    obtain ⟨q, hq, g'⟩ := row_at hb (show k < b.length by omega)
    have tk : ((k : Int)).toNat = k := by omega
    refine ⟨p, hp, ⟨by omega, by omega⟩, _, by rw [tk]; exact g, q, hq, ⟨by omega, by omega⟩, _, by rw [tk]; exact g', ?_⟩
    refine BR_ne (fun h2 => ?_) (fun h2 => ?_)
    · refine ⟨p, hp, ⟨by omega, by omega⟩, _, by rw [tk]; exact g, q, hq, ⟨by omega, by omega⟩, _, by rw [tk]; exact g', ?_⟩
      have h2' : a.getD k 0 ≠ b.getD k 0 := fun e => h2 (by rw [e])
      rw [ltB_drop a b k heq (by omega) (by omega) h2'] at h
      have e : decide (((a.getD k 0 : Nat) : Int) < ((b.getD k 0 : Nat) : Int)) = decide (a.getD k 0 < b.getD k 0) := by congr 1; apply propext; omega
      show K _ t
      rw [e]; exact h
    · have hw : IntKind.i64.wrap ((k : Int) + 1) = ((k + 1 : Nat) : Int) := by rw [wrap_i64 (by omega) (by omega)]; rfl
      refine ⟨rfl, _, rfl, ⟨rfl, k + 1, by omega, hw, fun j hj => ?_⟩, ?_⟩
      · by_cases hjk : j < k
        · exact heq j hjk
        · have : j = k := by omega
          subst this
          omega
      · show ((a.length : Int) - IntKind.i64.wrap ((k : Int) + 1)).toNat < ((a.length : Int) - k).toNat
        rw [hw]; omega
  · have : k = a.length := by omega
    subst this
    rw [ltB_same a b hab heq] at h
    exact h
/-- 'Nth' where there is one, and where there is none. -/
theorem c_Nth_some {x : Option Addr} {c k : Nat} (hm : MenAt s x L.men) (hv : valid L = true) (hk : k < cntAll L anyC) (h : ∀ s' d y c', Ext s s' → (allD L)[k]? = some d → RowAt s' y (vals d) → K (.tuple #[.slice y d.length c', .int .i64 0]) s') :
    CALL Pg W F_lot_Nth [.agg #[.slice x L.n c, .int .i64 L.worst], .int .i64 k] K E s := by
  have hn := (vd_iff.1 hv).hi
  obtain ⟨d, h1, h2⟩ := nthP_some hn hk
  refine c_Nth hm (fun s' d' v e _ hd ho => ?_) (fun s' e _ hd => ?_) (fun s' e hv' => by rw [hv] at hv'; cases hv')
  · rw [h1] at hd; cases hd
    obtain ⟨y, c', rfl, hr⟩ := ho
    exact h s' d y c' e h2 hr
  · rw [h1] at hd; cases hd
theorem c_Nth_none {x : Option Addr} {c : Nat} {n : Int} (hm : MenAt s x L.men) (hv : valid L = true) (hk : ¬ (0 ≤ n ∧ n < cntAll L anyC)) (h : ∀ s', Ext s s' → K (.tuple #[.slice none 0 0, .int .i64 4]) s') :
    CALL Pg W F_lot_Nth [.agg #[.slice x L.n c, .int .i64 L.worst], .int .i64 n] K E s := by
  have h1 := nthP_none hk
  refine c_Nth hm (fun s' d' v e _ hd ho => ?_) (fun s' e _ hd => h s' e) (fun s' e hv' => by rw [hv] at hv'; cases hv')
  rw [h1] at hd; cases hd
theorem f_FullN {x y : Option Addr} {c c' l : Nat} {d : List Nat} (hd : Perm0 L.n d) (hy : RowAt s y (vals d)) (hl : l = d.length) (hn : L.n ≤ 8) (h : ∀ s', Ext s s' → K (.bool true) s') :
    CALL Pg W F_ref03_Full [.agg #[.slice x L.n c, .int .i64 L.worst], .slice y l c'] K E s := by
  subst hl
  have hok := Perm0.ok hd
  have hlen : (d.map fun (n : Nat) => (n : Int)).length = d.length := by simp
  have := f_Full (W := W) (K := K) (E := E) (L := L) (x := x) (c := c) (c' := c') (ds := d.map fun (n : Nat) => (n : Int)) (y := y) (s := s) (by rw [ints_vals]; exact hy) hn (by rw [hlen, hd.len]; omega) (fun s' e => by rw [decide_eq_true hok]; exact h s' e)
  rw [hlen] at this
  exact this
theorem c_PlaceN {x y : Option Addr} {c c' l : Nat} {d : List Nat} (hm : MenAt s x L.men) (hv : valid L = true) (h1 : Perm0 L.n d) (h2 : wrong L d = none) (hy : RowAt s y (vals d)) (hl : l = d.length) (h : ∀ s' (k : Nat), Ext s s' → (allD L)[k]? = some d → K (.tuple #[.int .i64 k, .int .i64 0]) s') :
    CALL Pg W F_lot_Place [.agg #[.slice x L.n c, .int .i64 L.worst], .slice y l c'] K E s := by
  have hn := (vd_iff.1 hv).hi
  obtain ⟨k, hp, ha⟩ := placeP_all hn hv h1 h2
  refine c_Place' (ds := d.map fun (n : Nat) => (n : Int)) hm (by rw [ints_vals]; exact hy) (by rw [List.length_map, h1.len]; omega) (by rw [List.length_map]; exact hl) fun s' e => ?_
  rw [hp]
  exact h s' k e ha
theorem f_IntsV {x y : Option Addr} {c c' l l' : Nat} {a b : List Nat} (ha : RowAt s x (vals a)) (hb : RowAt s y (vals b)) (hla : a.length ≤ 100000) (hl : l = a.length) (hl' : l' = b.length) (h : K (.bool (decide (a = b))) s) :
    CALL Pg W F_ref03_Ints [.slice x l c, .slice y l' c'] K E s := by
  refine f_IntsN (a := a.map fun (n : Nat) => (n : Int)) (b := b.map fun (n : Nat) => (n : Int)) (by rw [ints_vals]; exact ha) (by rw [ints_vals]; exact hb) (by rw [List.length_map]; exact hla) (by rw [List.length_map]; exact hl) (by rw [List.length_map]; exact hl') ?_
  have : decide ((a.map fun (n : Nat) => (n : Int)) = (b.map fun (n : Nat) => (n : Int))) = decide (a = b) := by
    congr 1
    apply propext
    constructor
    · intro e
      have := congrArg (List.map Int.toNat) e
      rwa [map_back, map_back] at this
    · intro e; rw [e]
  rw [this]; exact h

theorem w_LotOrder {x y : Option Addr} {c w l c' : Nat} (hm : MenAt s x L.men) (hw : w ≤ 65535) (hy : U8At s y l) (h : ∀ s', Ext s s' → K (.bool true) s') :
    CALL Pg W F_law03_LotOrder [.agg #[.slice x L.n c, .int .i64 L.worst], .int .u16 w, .slice y l c'] K E s := by
  refine does_law03_LotOrder W x L.n c L.worst w y l c' _ s ?_
  unfold T_law03_LotOrder
  refine NEW_rule fun s1 e1 z1 n1 _ => ?_
  have c0 := (n1 0 _ rfl).cell
  have c1 := (n1 1 _ rfl).cell
  have aw : ∀ t, Ext s1 t → CALL Pg W F_law03_awake [] (fun v16 => TYB v16 fun b18 => (endK K E) (.returned (.bool b18))) (fun c17 => (endK K E) (.panicked c17)) t := fun t et => c_awake fun t' et' => h t' (e1.trans (et.trans et'))
  refine ⟨_, _, _, c0, _, c1, ?_⟩
  refine c_far (n := 8) (hm.ext e1) fun s2 bb e2 hb1 hb2 => ?_
  try simp only [TUP_mk, AGG_mk, HD_mk, NL_mk, TYI_mk, TYB_mk, TYP_mk, TYL_mk, TYS_mk, TYM_mk, SO_mk, NX_mk, endK_mk, endK_mk', add_0]
  unfold J_law03_LotOrder_1
  refine BR_bool (fun hbb => aw s2 e2) (fun hbb => ?_)
  obtain ⟨hn30, _, hn8'⟩ := hb2 hbb
  refine ⟨_, _, _, e2.cell c0, _, e2.cell c1, ?_⟩
  have e02 := e1.trans e2
  refine f_Lots (hm.ext e02) (by omega) fun s3 e3 => ?_
  try simp only [TUP_mk, AGG_mk, HD_mk, NL_mk, TYI_mk, TYB_mk, TYP_mk, TYL_mk, TYS_mk, TYM_mk, SO_mk, NX_mk, endK_mk, endK_mk', add_0]
  have e13 := e2.trans e3
  have e03 := e1.trans e13
  refine BR_not (fun hv => aw s3 e13) (fun hv => ?_)
  have v := vd_iff.1 hv
  have hn8 := v.hi
  have hlo := v.lo
  refine ⟨_, _, _, e13.cell c0, _, e13.cell c1, ?_⟩
  refine c_Count (hm.ext e03) fun s4 e4 => ?_
  try simp only [TUP_mk, AGG_mk, HD_mk, NL_mk, TYI_mk, TYB_mk, TYP_mk, TYL_mk, TYS_mk, TYM_mk, SO_mk, NX_mk, endK_mk, endK_mk', add_0]
  have hcp : countP L = (((cntAll L anyC : Nat) : Int), 0) := by unfold countP; rw [hv]; rfl
  rw [hcp]
  have e14 := e13.trans e4
  have hcl : cntAll L anyC ≤ 134217728 := cnt_le L anyC hn8 _ _
  refine BR_ne (fun hh => absurd rfl hh) (fun _ => ?_)
  unfold J_law03_LotOrder_0
  refine BR_dec (fun hh => by dsimp only at hh; omega) (fun _ => ?_)
  refine NEW_rule fun s5 e5 z5 n5 _ => ?_
  have e15 := e14.trans e5
  dsimp only
  generalize hcN : cntAll L anyC = N at *
  refine L_law03_LotOrder_0_rule W _ w y l c' ⟨s.size, 0, none⟩ N ⟨s4.size, 0, none⟩ (fun _ n t => Ext s5 t ∧ ∃ k : Nat, k ≤ 2 ∧ n = k) (fun _ n _ => (2 - n).toNat) false 0 s5 ⟨Ext.refl _, 0, by omega, rfl⟩ ?_
  rintro b43 n t ⟨e5t, k, hk, rfl⟩
  have et := e15.trans e5t
  unfold B_law03_LotOrder_0
  refine BR_dec (fun h1 => ?_) (fun h1 => ?_)
  · have tk : ((k : Int)).toNat = k := by omega
    have hwk : IntKind.i64.wrap ((k : Int) + 1) = ((k + 1 : Nat) : Int) := by rw [wrap_i64 (by omega) (by omega)]; rfl
    obtain ⟨z, hz, hzn⟩ : ∃ z : Int, cellAt t ((⟨s4.size, 0, none⟩ : Addr).add (k * 1)) = some (.int .i64 z) ∧ ¬ (0 ≤ z ∧ z < cntAll L anyC) := by
      rw [add_nil, Nat.mul_one, Nat.zero_add]
      match k, hk, h1 with
      | 0, _, _ => exact ⟨-1, e5t.cell (n5 0 _ rfl).cell, by omega⟩
      | 1, _, _ => exact ⟨N, e5t.cell (n5 1 _ rfl).cell, by rw [hcN]; omega⟩
      | 2, _, h1 => exact absurd h1 (by decide)
    refine ⟨_, rfl, ⟨by omega, by omega⟩, _, by rw [tk]; exact hz, _, _, _, et.cell c0, _, et.cell c1, ?_⟩
    refine c_Nth_none (hm.ext (e1.trans et)) hv hzn fun t2 f2 => ?_
    try simp only [TUP_mk, AGG_mk, HD_mk, NL_mk, TYI_mk, TYB_mk, TYP_mk, TYL_mk, TYS_mk, TYM_mk, SO_mk, NX_mk, endK_mk, endK_mk', add_0]
    refine BR_ne (fun hh => absurd rfl hh) (fun _ => ?_)
    unfold J_law03_LotOrder_2
    refine BR_ne (fun hh => absurd rfl hh) (fun _ => ?_)
    refine ⟨rfl, _, _, rfl, ⟨e5t.trans f2, k + 1, by omega, hwk⟩, ?_⟩
    show (2 - IntKind.i64.wrap ((k : Int) + 1)).toNat < (2 - (k : Int)).toNat
    rw [hwk]; omega
  · refine BR_eq (fun _ => aw t et) (fun hN0 => ?_)
    have hNp : 0 < N := by omega
    have hww : IntKind.wrap .i64 (w : Int) = (w : Int) := wrap_i64 (by omega) (by omega)
    refine NZI_pos (by omega) ⟨_, _, _, et.cell c0, _, et.cell c1, ?_⟩
    rw [hww, mod_nat]
    have hkN : w % N < N := Nat.mod_lt _ hNp
    obtain ⟨q, hq⟩ : ∃ q, w % N = q := ⟨_, rfl⟩
    rw [hq] at hkN ⊢
    refine c_Nth_some (hm.ext (e1.trans et)) hv (by omega) fun t2 d yd cd f2 hd rd => ?_
    try simp only [TUP_mk, AGG_mk, HD_mk, NL_mk, TYI_mk, TYB_mk, TYP_mk, TYL_mk, TYS_mk, TYM_mk, SO_mk, NX_mk, endK_mk, endK_mk', add_0]
    have et2 := et.trans f2
    obtain ⟨pd, wd, _⟩ := allD_at hn8 hd
    refine ⟨_, _, _, et2.cell c0, _, et2.cell c1, ?_⟩
    refine c_PlaceN (hm.ext (e1.trans et2)) hv pd wd rd rfl fun t3 q' f3 hq' => ?_
    have hqq : q = q' := (allD_inj hn8 hq' hd).symm
    subst hqq
    try simp only [TUP_mk, AGG_mk, HD_mk, NL_mk, TYI_mk, TYB_mk, TYP_mk, TYL_mk, TYS_mk, TYM_mk, SO_mk, NX_mk, endK_mk, endK_mk', add_0]
    have et3 := et2.trans f3
    refine BR_ne (fun hh => absurd rfl hh) (fun _ => ?_)
    refine ⟨_, _, _, et3.cell c0, _, et3.cell c1, ?_⟩
    refine f_FullN pd (rd.ext f3) rfl hn8 fun t4 f4 => ?_
    try simp only [TUP_mk, AGG_mk, HD_mk, NL_mk, TYI_mk, TYB_mk, TYP_mk, TYL_mk, TYS_mk, TYM_mk, SO_mk, NX_mk, endK_mk, endK_mk', add_0]
    have et4 := et3.trans f4
    have rd4 := (rd.ext f3).ext f4
    unfold J_law03_LotOrder_12
    refine BR_not (fun hh => by cases hh) (fun _ => ?_)
    refine ⟨_, _, _, et4.cell c0, _, et4.cell c1, ?_⟩
    refine c_lawful (hm.ext (e1.trans et4)) rd4 hv pd.lt rfl pd.len fun t5 f5 => ?_
    try simp only [TUP_mk, AGG_mk, HD_mk, NL_mk, TYI_mk, TYB_mk, TYP_mk, TYL_mk, TYS_mk, TYM_mk, SO_mk, NX_mk, endK_mk, endK_mk', add_0]
    have et5 := et4.trans f5
    have rd5 := rd4.ext f5
    rw [decide_eq_true wd]
    unfold J_law03_LotOrder_11
    refine BR_not (fun hh => by cases hh) (fun _ => ?_)
    unfold J_law03_LotOrder_10
    refine BR_ne (fun hh => absurd rfl hh) (fun _ => ?_)
    unfold J_law03_LotOrder_9
    rw [hww, mod_nat, hq]
    refine BR_ne (fun hh => absurd rfl hh) (fun _ => ?_)
    have dlen := pd.len
    have j6 : ∀ t, Ext s1 t → RowAt t yd (vals d) → J_law03_LotOrder_6 W (endK K E) ⟨s.size, 0, none⟩ y l c' N yd d.length cd w t := by
      intro t et rd
      unfold J_law03_LotOrder_6
      refine ⟨_, _, _, et.cell c0, ?_⟩
      refine c_made (hy.ext (e1.trans et)) (by omega) fun u1 a own g1 fr po bo => ?_
      try simp only [TUP_mk, AGG_mk, HD_mk, NL_mk, TYI_mk, TYB_mk, TYP_mk, TYL_mk, TYS_mk, TYM_mk, SO_mk, NX_mk, endK_mk, endK_mk', add_0]
      have eu1 := et.trans g1
      have ro : RowAt u1 (some a) (vals own) := bo.row
      refine ⟨_, _, _, eu1.cell c0, _, eu1.cell c1, ?_⟩
      refine c_lawful (hm.ext (e1.trans eu1)) ro hv po.lt po.len.symm po.len fun u2 g2 => ?_
      try simp only [TUP_mk, AGG_mk, HD_mk, NL_mk, TYI_mk, TYB_mk, TYP_mk, TYL_mk, TYS_mk, TYM_mk, SO_mk, NX_mk, endK_mk, endK_mk', add_0]
      have eu2 := eu1.trans g2
      refine BR_not (fun hh => aw u2 eu2) (fun hh => ?_)
      have wo : wrong L own = none := of_decide_eq_true hh
      refine ⟨_, _, _, eu2.cell c0, _, eu2.cell c1, ?_⟩
      refine c_PlaceN (hm.ext (e1.trans eu2)) hv po wo (ro.ext g2) po.len.symm fun u3 p g3 hp => ?_
      try simp only [TUP_mk, AGG_mk, HD_mk, NL_mk, TYI_mk, TYB_mk, TYP_mk, TYL_mk, TYS_mk, TYM_mk, SO_mk, NX_mk, endK_mk, endK_mk', add_0]
      have eu3 := eu2.trans g3
      have hpN : p < N := by rw [← hcN]; exact (allD_at hn8 hp).2.2
      have ro3 := (ro.ext g2).ext g3
      have rd3 := rd.ext (g1.trans (g2.trans g3))
      refine BR_eq (fun _ => ?_) (fun hh => absurd rfl hh)
      unfold J_law03_LotOrder_5
      refine BR_dec (fun _ => ?_) (fun hh => by omega)
      unfold J_law03_LotOrder_4
      refine BR_dec (fun _ => ?_) (fun hh => by omega)
      refine c_before ro3 rd3 po.len.symm rfl (by rw [po.len, dlen]) (by rw [po.len]; omega) ?_
      try simp only [TUP_mk, AGG_mk, HD_mk, NL_mk, TYI_mk, TYB_mk, TYP_mk, TYL_mk, TYS_mk, TYM_mk, SO_mk, NX_mk, endK_mk, endK_mk', add_0]
      unfold J_law03_LotOrder_3
      rw [hww, mod_nat, hq]
      have e1' : decide ((p : Int) < (q : Int)) = ltB own d := by
        rw [Bool.eq_iff_iff, ltB_iff, ← allD_lt hn8 hp hd]
        simp
      rw [e1']
      refine BR_eq (fun _ => ?_) (fun hh => absurd rfl hh)
      refine f_IntsV ro3 rd3 (by rw [po.len]; omega) po.len.symm rfl ?_
      try simp only [TUP_mk, AGG_mk, HD_mk, NL_mk, TYI_mk, TYB_mk, TYP_mk, TYL_mk, TYS_mk, TYM_mk, SO_mk, NX_mk, endK_mk, endK_mk', add_0]
      have e2' : ((p : Int) == (q : Int)) = decide (own = d) := by
        rw [Bool.eq_iff_iff]
        simp only [beq_iff_eq, decide_eq_true_eq]
        constructor
        · intro e
          have : p = q := by omega
          subst this
          rw [hp] at hd; exact Option.some.inj hd
        · intro e
          subst e
          have := allD_inj hn8 hp hd
          omega
      rw [e2']
      refine BR_eq (fun _ => ?_) (fun hh => absurd rfl hh)
      exact aw u3 eu3
    have hwq : IntKind.wrap .i64 ((q : Int) + 1) = ((q + 1 : Nat) : Int) := by rw [wrap_i64 (by omega) (by omega)]; rfl
    rw [hwq]
    refine BR_dec (fun hlt => ?_) (fun _ => j6 t5 et5 rd5)
    refine ⟨_, _, _, et5.cell c0, _, et5.cell c1, ?_⟩
    refine c_Nth_some (hm.ext (e1.trans et5)) hv (by omega) fun t6 d2 yd2 cd2 f6 hd2 rd2 => ?_
    try simp only [TUP_mk, AGG_mk, HD_mk, NL_mk, TYI_mk, TYB_mk, TYP_mk, TYL_mk, TYS_mk, TYM_mk, SO_mk, NX_mk, endK_mk, endK_mk', add_0]
    obtain ⟨pd2, _, _⟩ := allD_at hn8 hd2
    have et6 := et5.trans f6
    refine BR_ne (fun hh => absurd rfl hh) (fun _ => ?_)
    unfold J_law03_LotOrder_8
    refine BR_ne (fun hh => absurd (by rw [pd2.len, dlen]) hh) (fun _ => ?_)
    refine c_before (rd5.ext f6) rd2 rfl rfl (by rw [pd2.len, dlen]) (by rw [dlen]; omega) ?_
    try simp only [TUP_mk, AGG_mk, HD_mk, NL_mk, TYI_mk, TYB_mk, TYP_mk, TYL_mk, TYS_mk, TYM_mk, SO_mk, NX_mk, endK_mk, endK_mk', add_0]
    have hlt2 : ltB d d2 = true := (ltB_iff _ _).2 ((allD_lt hn8 hd hd2).1 (by omega))
    rw [hlt2]
    unfold J_law03_LotOrder_7
    refine BR_not (fun hh => by cases hh) (fun _ => ?_)
    exact j6 t6 et6 (rd5.ext f6)
end
end Go.Proofs.Ytocnkdkgajdejaa.G

/- Draws of plots, in plain Lean: what is drawn. -/
set_option linter.unusedSimpArgs false
set_option linter.unusedVariables false
namespace Go.Proofs.Ytocnkdkgajdejaa.G
open Go.V Go.Lot
/-- What is chosen goes on, and is lawful. -/
theorem run_law (L : Lts) (hn : L.n ≤ 8) : ∀ (f num left b : Nat), left < 2 ^ L.n → (menOf L.n left).length ≤ f → 0 < cnt L anyC left b → Law L (runC (drawN L) f num left b) left b
  | 0, num, left, b, hl, hf, h => by
    have : left = 0 := menOf_nil hl (by omega)
    subst this
    exact rfl
  | f + 1, num, left, b, hl, hf, h => by
    by_cases h0 : left = 0
    · subst h0
      exact rfl
    · have hc := cans_pos L hn hl h0 h
      have hlt := Nat.mod_lt (nextD num) hc
      have hget : (drawN L num left b).1 = (cans L left b)[nextD num % (cans L left b).length] := by
        unfold drawN; simp [List.getD, hlt]
      have hmem : (drawN L num left b).1 ∈ cans L left b := by rw [hget]; exact List.getElem_mem _
      obtain ⟨hm, hg⟩ := List.mem_filter.1 hmem
      obtain ⟨h1, h2⟩ := menOf_mem.1 hm
      unfold good at hg
      simp only [Bool.and_eq_true, decide_eq_true_eq] at hg
      have hclr := clr_len hn (lt256 hn hl) h1 h2
      have hrun : runC (drawN L) (f + 1) num left b = (drawN L num left b).1 :: runC (drawN L) f (drawN L num left b).2 (left - 2 ^ (drawN L num left b).1) (drawN L num left b).1 := by
        show (if left = 0 then [] else _) = _
        rw [if_neg h0]
      rw [hrun]
      exact ⟨h1, h2, hg.1, run_law L hn f _ _ _ (Nat.lt_of_le_of_lt (Nat.sub_le _ _) hl) (by omega) hg.2⟩
/-- The lawful draws that begin in some way lie behind one another. -/
structure Seg (L : Lts) (pre : List Nat) (left b lo : Nat) : Prop where
  lt : left < 2 ^ L.n
  plot : plotOf L.n left = pre.length
  at' : ∀ t e, (allL L left b)[t]? = some e → (allD L)[lo + t]? = some (pre ++ e)
theorem seg_start (L : Lts) : Seg L [] (full L.n) 8 0 := ⟨full_lt8, plot_full, fun t e h => by rw [Nat.zero_add]; exact h⟩
def off (L : Lts) (left b k : Nat) : Nat := ((manys L left b).take k).sum
theorem cans_at {L : Lts} {left b k : Nat} (h : k < (cans L left b).length) : (cans L left b)[k] < L.n ∧ left.testBit (cans L left b)[k] = true ∧ 0 < cnt L anyC (left - 2 ^ (cans L left b)[k]) (cans L left b)[k] := by
  obtain ⟨hm, hg⟩ := List.mem_filter.1 (List.getElem_mem h)
  obtain ⟨h1, h2⟩ := menOf_mem.1 hm
  unfold good at hg
  simp only [Bool.and_eq_true, decide_eq_true_eq] at hg
  exact ⟨h1, h2, hg.2⟩
theorem off_succ {L : Lts} {left b k : Nat} (h : k < (cans L left b).length) : off L left b (k + 1) = off L left b k + cnt L anyC (left - 2 ^ (cans L left b)[k]) (cans L left b)[k] := by
  unfold off
  have hl : k < (manys L left b).length := by unfold manys; rw [List.length_map]; exact h
  rw [List.take_add_one, List.getElem?_eq_getElem hl, List.sum_append]
  have e : (manys L left b)[k] = cnt L anyC (left - 2 ^ (cans L left b)[k]) (cans L left b)[k] := by
    unfold manys
    exact List.getElem_map _
  rw [e]; simp
theorem off_mono {L : Lts} {left b : Nat} : ∀ {j k : Nat}, j ≤ k → k ≤ (cans L left b).length → off L left b j ≤ off L left b k := by
  intro j k hjk
  induction k with
  | zero => intro _; have : j = 0 := by omega
            subst this; exact Nat.le_refl _
  | succ k ih =>
    intro hk
    by_cases e : j = k + 1
    · subst e; exact Nat.le_refl _
    · have := ih (by omega) (by omega)
      rw [off_succ (by omega)]; omega
theorem off_all {L : Lts} (hn : L.n ≤ 8) {left b : Nat} (hl : left < 2 ^ L.n) (h0 : left ≠ 0) : off L left b (cans L left b).length = (allL L left b).length := by
  unfold off
  have hl' : (manys L left b).length = (cans L left b).length := by unfold manys; rw [List.length_map]
  rw [← hl', List.take_length, ← cnt_manys L hn hl h0, cnt_len L hn hl]
/-- Somewhere each index lies. -/
theorem off_find {L : Lts} {left b : Nat} : ∀ (k t : Nat), k ≤ (cans L left b).length → t < off L left b k → ∃ j, ∃ h : j < (cans L left b).length, j < k ∧ off L left b j ≤ t ∧ t < off L left b (j + 1)
  | 0, t, _, h => by simp [off] at h
  | k + 1, t, hk, h => by
    by_cases h1 : t < off L left b k
    · obtain ⟨j, h2, h3, h4⟩ := off_find k t (by omega) h1
      exact ⟨j, h2, by omega, h4⟩
    · exact ⟨k, by omega, by omega, by omega, h⟩
theorem all_block {L : Lts} (hn : L.n ≤ 8) {left b k t : Nat} (hl : left < 2 ^ L.n) (h0 : left ≠ 0) (hk : k < (cans L left b).length) {e : List Nat} (he : (allL L (left - 2 ^ (cans L left b)[k]) (cans L left b)[k])[t]? = some e) :
    (allL L left b)[off L left b k + t]? = some ((cans L left b)[k] :: e) := by
  rw [allL_cans L hn hl h0]
  have hlt : t < ((fun m => (allL L (left - 2 ^ m) m).map (m :: ·)) (cans L left b)[k]).length := by
    simp only [List.length_map]
    exact (List.getElem?_eq_some_iff.1 he).1
  have hg := flat_get (fun m => (allL L (left - 2 ^ m) m).map (m :: ·)) (cans L left b) k hk t hlt
  rw [← manys_sum L hn hl k] at hg
  unfold off
  rw [hg]
  simp only [List.getElem?_map, he]
  rfl
theorem Seg.step {L : Lts} (hn : L.n ≤ 8) {pre : List Nat} {left b lo k : Nat} (h : Seg L pre left b lo) (h0 : left ≠ 0) (hk : k < (cans L left b).length) : Seg L (pre ++ [(cans L left b)[k]]) (left - 2 ^ (cans L left b)[k]) (cans L left b)[k] (lo + off L left b k) := by
  obtain ⟨h1, h2, h3⟩ := cans_at hk
  refine ⟨Nat.lt_of_le_of_lt (Nat.sub_le _ _) h.lt, ?_, fun t e he => ?_⟩
  · rw [plot_clr hn h.lt h1 h2, h.plot]; simp
  · have := h.at' _ _ (all_block hn h.lt h0 hk he)
    rw [Nat.add_assoc, this]; simp
/-- Which one has the plot, by the index. -/
theorem Seg.which {L : Lts} (hn : L.n ≤ 8) {pre : List Nat} {left b lo k t : Nat} (h : Seg L pre left b lo) (h0 : left ≠ 0) (hk : k < (cans L left b).length) (h1 : off L left b k ≤ t) (h2 : t < (allL L left b).length) {d : List Nat} (hd : (allD L)[lo + t]? = some d) :
    (d.getD pre.length 0 = (cans L left b)[k] ↔ t < off L left b (k + 1)) := by
  rw [← off_all hn h.lt h0] at h2
  obtain ⟨j, hj, _, h3, h4⟩ := off_find _ t (Nat.le_refl _) h2
  have hlt : t - off L left b j < (allL L (left - 2 ^ (cans L left b)[j]) (cans L left b)[j]).length := by
    rw [← cnt_len L hn (Nat.lt_of_le_of_lt (Nat.sub_le _ _) h.lt)]
    rw [off_succ hj] at h4; omega
  have hb := all_block hn h.lt h0 hj (List.getElem?_eq_getElem hlt)
  rw [show off L left b j + (t - off L left b j) = t by omega] at hb
  have hd' := h.at' _ _ hb
  rw [hd] at hd'
  have hde := Option.some.inj hd'
  have hget : d.getD pre.length 0 = (cans L left b)[j] := by rw [hde]; simp [List.getD]
  rw [hget]
  constructor
  · intro e
    have hjk : j = k := by
      have hnd : (cans L left b).Nodup := by unfold cans; exact List.Nodup.sublist List.filter_sublist (nodup_menOf _ _)
      have hp := List.pairwise_iff_getElem.1 hnd
      rcases Nat.lt_trichotomy j k with g | g | g
      · exact absurd e (hp j k hj hk g)
      · exact g
      · exact absurd e.symm (hp k j hk hj g)
    subst hjk; exact h4
  · intro ht
    have hjk : j = k := by
      rcases Nat.lt_trichotomy j k with g | g | g
      · have := off_mono (L := L) (left := left) (b := b) (show j + 1 ≤ k by omega) (by omega); omega
      · exact g
      · have := off_mono (L := L) (left := left) (b := b) (show k + 1 ≤ j by omega) (by omega); omega
    subst hjk; rfl
end Go.Proofs.Ytocnkdkgajdejaa.G

/- More of the functions' shallow texts, by gen.py. -/
set_option linter.unusedVariables false
set_option maxRecDepth 100000
namespace Go.Proofs.Ytocnkdkgajdejaa.G
open Go.V
def an_6 : Nat → Ann := fun b => match b with
  | 0 => { ms := [4, 9, 10, 11, 80], ks := [.b, .i .i64, .i .i64, .i .i64, .i .i64], us := [2, 5, 79, 193], rt := false, ex := [] }
  | 2 => { ms := [4, 13, 14, 15], ks := [.b, .l, .l, .i .i64], us := [2, 5, 9, 11, 12, 79, 80, 193], rt := false, ex := [] }
  | 4 => { ms := [4, 18, 19], ks := [.b, .i .i64, .i .i64], us := [2, 5, 9, 11, 12, 13, 14, 16, 79, 80, 193], rt := false, ex := [] }
  | _ => {}
abbrev rv_6 : List ResultVar := [.tmp 4]
abbrev rs_6 : List Nat := [193, 4]
def L_law03_LotDraws_0 (W : World) (R : Ending → Hp → Prop) (za0 : Addr) (zp1 : Option Addr) (zl2 : Nat) (zl3 : Nat) (zn4 : Int) (b72 : Bool) (n73 : Int) (n74 : Int) (n75 : Int) (n76 : Int) : Hp → Prop :=
  LOOPN [.b, .i .i64, .i .i64, .i .i64, .i .i64] (fun ys next s => ∀ j : Tm, vc Pg W 193 rs_6 an_6 false (sub (bodyOf Try.f6) [1, 1, 1, 1, 1, 1, 1, 1, 1, 0, 1, 0, 0]) 0 (KLoop [4, 9, 10, 11, 80] [2, 5, 79, 193] [(.pointer (some za0)), (.slice zp1 zl2 zl3), (.int .i64 zn4), (.tuple #[])] next (KBlk 0 (KS Pg W 193 rs_6 an_6 false (sub (bodyOf Try.f6) [1, 1, 1, 1, 1, 1, 1, 1, 1, 1]) 0 (fin Pg W 193 rv_6 R)))) (known [4, 9, 10, 11, 80] ys (known [2, 5, 79, 193] [(.pointer (some za0)), (.slice zp1 zl2 zl3), (.int .i64 zn4), (.tuple #[])] j)) s) [(.bool b72), (.int .i64 n73), (.int .i64 n74), (.int .i64 n75), (.int .i64 n76)]
def L_law03_LotDraws_1 (W : World) (R : Ending → Hp → Prop) (nx0 : List Value → Hp → Prop) (za0 : Addr) (zp1 : Option Addr) (zl2 : Nat) (zl3 : Nat) (zn4 : Int) (zn5 : Int) (zn6 : Int) (zn7 : Int) (b80 : Bool) (x81 : Option Addr) (l82 : Nat) (c83 : Nat) (x84 : Option Addr) (l85 : Nat) (c86 : Nat) (n87 : Int) : Hp → Prop :=
  LOOPN [.b, .l, .l, .i .i64] (fun ys next s => ∀ j : Tm, vc Pg W 193 rs_6 an_6 false (sub (bodyOf Try.f6) [1, 1, 1, 1, 1, 1, 1, 1, 1, 0, 1, 0, 0, 1, 1, 0, 0, 1, 1, 1, 0, 1, 0, 0]) 2 (KLoop [4, 13, 14, 15] [2, 5, 9, 11, 12, 79, 80, 193] [(.pointer (some za0)), (.slice zp1 zl2 zl3), (.int .i64 zn4), (.int .i64 zn5), (.int .i64 zn6), (.int .i64 zn7), (.int .i64 zn6), (.tuple #[])] next (KBlk 2 (KS Pg W 193 rs_6 an_6 false (sub (bodyOf Try.f6) [1, 1, 1, 1, 1, 1, 1, 1, 1, 0, 1, 0, 0, 1, 1, 0, 0, 1, 1, 1, 1]) 1 (KBlk 1 (KS Pg W 193 rs_6 an_6 false (sub (bodyOf Try.f6) [1, 1, 1, 1, 1, 1, 1, 1, 1, 0, 1, 0, 0, 1, 1, 1]) 0 (KLoop [4, 9, 10, 11, 80] [2, 5, 79, 193] [(.pointer (some za0)), (.slice zp1 zl2 zl3), (.int .i64 zn7), (.tuple #[])] nx0 (KBlk 0 (KS Pg W 193 rs_6 an_6 false (sub (bodyOf Try.f6) [1, 1, 1, 1, 1, 1, 1, 1, 1, 1]) 0 (fin Pg W 193 rv_6 R))))))))) (known [4, 13, 14, 15] ys (known [2, 5, 9, 11, 12, 79, 80, 193] [(.pointer (some za0)), (.slice zp1 zl2 zl3), (.int .i64 zn4), (.int .i64 zn5), (.int .i64 zn6), (.int .i64 zn7), (.int .i64 zn6), (.tuple #[])] j)) s) [(.bool b80), (.slice x81 l82 c83), (.slice x84 l85 c86), (.int .i64 n87)]
def L_law03_LotDraws_2 (W : World) (R : Ending → Hp → Prop) (nx0 : List Value → Hp → Prop) (nx1 : List Value → Hp → Prop) (za0 : Addr) (zp1 : Option Addr) (zl2 : Nat) (zl3 : Nat) (zn4 : Int) (zn5 : Int) (zn6 : Int) (zp7 : Option Addr) (zl8 : Nat) (zl9 : Nat) (zp10 : Option Addr) (zl11 : Nat) (zl12 : Nat) (zp13 : Option Addr) (zl14 : Nat) (zl15 : Nat) (zn16 : Int) (b122 : Bool) (n123 : Int) (n124 : Int) : Hp → Prop :=
  LOOPN [.b, .i .i64, .i .i64] (fun ys next s => ∀ j : Tm, vc Pg W 193 rs_6 an_6 false (sub (bodyOf Try.f6) [1, 1, 1, 1, 1, 1, 1, 1, 1, 0, 1, 0, 0, 1, 1, 0, 0, 1, 1, 1, 0, 1, 0, 0, 1, 0, 1, 1, 1, 1, 0, 0, 0]) 4 (KLoop [4, 18, 19] [2, 5, 9, 11, 12, 13, 14, 16, 79, 80, 193] [(.pointer (some za0)), (.slice zp1 zl2 zl3), (.int .i64 zn4), (.int .i64 zn5), (.int .i64 zn6), (.slice zp7 zl8 zl9), (.slice zp10 zl11 zl12), (.slice zp13 zl14 zl15), (.int .i64 zn16), (.int .i64 zn6), (.tuple #[])] next (KBlk 4 (KS Pg W 193 rs_6 an_6 false (sub (bodyOf Try.f6) [1, 1, 1, 1, 1, 1, 1, 1, 1, 0, 1, 0, 0, 1, 1, 0, 0, 1, 1, 1, 0, 1, 0, 0, 1, 0, 1, 1, 1, 1, 1]) 3 (KBlk 3 (KLoop [4, 13, 14, 15] [2, 5, 9, 11, 12, 79, 80, 193] [(.pointer (some za0)), (.slice zp1 zl2 zl3), (.int .i64 zn4), (.int .i64 zn5), (.int .i64 zn6), (.int .i64 zn16), (.int .i64 zn6), (.tuple #[])] nx1 (KBlk 2 (KS Pg W 193 rs_6 an_6 false (sub (bodyOf Try.f6) [1, 1, 1, 1, 1, 1, 1, 1, 1, 0, 1, 0, 0, 1, 1, 0, 0, 1, 1, 1, 1]) 1 (KBlk 1 (KS Pg W 193 rs_6 an_6 false (sub (bodyOf Try.f6) [1, 1, 1, 1, 1, 1, 1, 1, 1, 0, 1, 0, 0, 1, 1, 1]) 0 (KLoop [4, 9, 10, 11, 80] [2, 5, 79, 193] [(.pointer (some za0)), (.slice zp1 zl2 zl3), (.int .i64 zn16), (.tuple #[])] nx0 (KBlk 0 (KS Pg W 193 rs_6 an_6 false (sub (bodyOf Try.f6) [1, 1, 1, 1, 1, 1, 1, 1, 1, 1]) 0 (fin Pg W 193 rv_6 R))))))))))))) (known [4, 18, 19] ys (known [2, 5, 9, 11, 12, 13, 14, 16, 79, 80, 193] [(.pointer (some za0)), (.slice zp1 zl2 zl3), (.int .i64 zn4), (.int .i64 zn5), (.int .i64 zn6), (.slice zp7 zl8 zl9), (.slice zp10 zl11 zl12), (.slice zp13 zl14 zl15), (.int .i64 zn16), (.int .i64 zn6), (.tuple #[])] j)) s) [(.bool b122), (.int .i64 n123), (.int .i64 n124)]
def J_law03_LotDraws_0 (W : World) (R : Ending → Hp → Prop) (b57 : Bool) (B6 : Nat) (x27 : Option Addr) (l28 : Nat) (c29 : Nat) (n5 : Int) (n42 : Int) : Hp → Prop :=
  BR b57
    (R (.returned (.bool false)))
    (L_law03_LotDraws_0 W R ⟨B6, 0, none⟩ x27 l28 c29 (↑l28 : Int) false (IntKind.wrap .i64 n5) 0 n42 0)
def J_law03_LotDraws_1 (W : World) (R : Ending → Hp → Prop) (b46 : Bool) (n32 : Int) (l28 : Nat) (B6 : Nat) (x27 : Option Addr) (c29 : Nat) (n5 : Int) (n42 : Int) : Hp → Prop :=
  BR b46
    (R (.returned (.bool false)))
    (BR (n32 != 0)
      (BR (n32 == 4)
        (BR ((↑l28 : Int) == 0)
          (CALL Pg W F_law03_awake []
            (fun v47 => TYB v47 fun b49 =>
              R (.returned (.bool b49)))
              (fun e48 => R (.panicked e48)))
          (R (.returned (.bool false))))
        (R (.returned (.bool false))))
      (RDL (Addr.add ⟨B6, 0, none⟩ 0) fun x50 l51 c52 =>
        RDI .i64 (Addr.add ⟨B6, 0, none⟩ 1) fun n53 =>
          CALL Pg W F_ref03_Full [(.agg #[(.slice x50 l51 c52), (.int .i64 n53)]), (.slice x27 l28 c29)]
            (fun v54 => TYB v54 fun b56 =>
              BR (!b56)
                (J_law03_LotDraws_0 W R true B6 x27 l28 c29 n5 n42)
                (RDL (Addr.add ⟨B6, 0, none⟩ 0) fun x58 l59 c60 =>
                  RDI .i64 (Addr.add ⟨B6, 0, none⟩ 1) fun n61 =>
                    CALL Pg W F_law03_lawful [(.agg #[(.slice x58 l59 c60), (.int .i64 n61)]), (.slice x27 l28 c29)]
                      (fun v62 => TYB v62 fun b64 =>
                        J_law03_LotDraws_0 W R (!b64) B6 x27 l28 c29 n5 n42)
                        (fun e63 => R (.panicked e63))))
              (fun e55 => R (.panicked e55))))
def J_law03_LotDraws_2 (W : World) (R : Ending → Hp → Prop) (b14 : Bool) (B6 : Nat) (n5 : Int) : Hp → Prop :=
  BR b14
    (CALL Pg W F_law03_awake []
      (fun v15 => TYB v15 fun b17 =>
        R (.returned (.bool b17)))
        (fun e16 => R (.panicked e16)))
    (RDL (Addr.add ⟨B6, 0, none⟩ 0) fun x18 l19 c20 =>
      RDI .i64 (Addr.add ⟨B6, 0, none⟩ 1) fun n21 =>
        CALL Pg W F_lot_Draw [(.agg #[(.slice x18 l19 c20), (.int .i64 n21)]), (.int .i64 (IntKind.wrap .i64 n5))]
          (fun v22 => TUP v22 fun q24 => HD q24 fun v25 r26 => TYL v25 fun x27 l28 c29 =>
            HD r26 fun v30 r31 => TYI .i64 v30 fun n32 =>
              NL r31 <|
                RDL (Addr.add ⟨B6, 0, none⟩ 0) fun x33 l34 c35 =>
                  RDI .i64 (Addr.add ⟨B6, 0, none⟩ 1) fun n36 =>
                    CALL Pg W F_lot_Count [(.agg #[(.slice x33 l34 c35), (.int .i64 n36)])]
                      (fun v37 => TUP v37 fun q39 => HD q39 fun v40 r41 => TYI .i64 v40 fun n42 =>
                        HD r41 fun v43 r44 => TYI .i64 v43 fun n45 =>
                          NL r44 <|
                            BR (n45 != 0)
                              (J_law03_LotDraws_1 W R true n32 l28 B6 x27 c29 n5 n42)
                              (J_law03_LotDraws_1 W R (!((n32 == 0) == (decide (n42 > 0)))) n32 l28 B6 x27 c29 n5 n42))
                        (fun e38 => R (.panicked e38)))
            (fun e23 => R (.panicked e23)))
def J_law03_LotDraws_3 (W : World) (R : Ending → Hp → Prop) (b103 : Bool) (x97 : Option Addr) (l98 : Nat) (zn6 : Int) (x81 : Option Addr) (l82 : Nat) (c83 : Nat) (n87 : Int) (x84 : Option Addr) (l85 : Nat) (c86 : Nat) (nx0 : List Value → Hp → Prop) (nx1 : List Value → Hp → Prop) (za0 : Addr) (zp1 : Option Addr) (zl2 : Nat) (zl3 : Nat) (zn4 : Int) (zn5 : Int) (c99 : Nat) (zn7 : Int) (b80 : Bool) : Hp → Prop :=
  BR b103
    (R (.returned (.bool false)))
    (IXS x97 l98 zn6 1 fun a104 =>
      RDI .i64 a104 fun n105 =>
        NEW 3 [(.int .i64 n105)] fun B106 =>
          APP Pg 3 1 x81 l82 c83 (some ⟨B106, 0, none⟩) 1 fun x107 l108 c109 =>
            NEW 3 [(.int .i64 n87)] fun B110 =>
              APP Pg 3 1 x84 l85 c86 (some ⟨B110, 0, none⟩) 1 fun x111 l112 c113 =>
                L_law03_LotDraws_2 W R nx0 nx1 za0 zp1 zl2 zl3 zn4 zn5 zn6 x107 l108 c109 x111 l112 c113 x97 l98 c99 zn7 b80 (IntKind.wrap .i64 (n87 + 1)) zn5)
def J_law03_LotDraws_4 (W : World) (R : Ending → Hp → Prop) (b140 : Bool) (x134 : Option Addr) (l135 : Nat) (zn6 : Int) (zp13 : Option Addr) (zl14 : Nat) (za0 : Addr) (zp1 : Option Addr) (zl2 : Nat) (zl3 : Nat) (zn4 : Int) (zn5 : Int) (zp7 : Option Addr) (zl8 : Nat) (zl9 : Nat) (zp10 : Option Addr) (zl11 : Nat) (zl12 : Nat) (zl15 : Nat) (zn16 : Int) (nx2 : List Value → Hp → Prop) (b122 : Bool) (n123 : Int) (n124 : Int) : Hp → Prop :=
  BR b140
    (R (.returned (.bool false)))
    (IXS x134 l135 zn6 1 fun a141 =>
      RDI .i64 a141 fun n142 =>
        IXS zp13 zl14 zn6 1 fun a143 =>
          RDI .i64 a143 fun n144 =>
            BR (n142 == n144)
              (NX [(.pointer (some za0)), (.slice zp1 zl2 zl3), (.int .i64 zn4), (.int .i64 zn5), (.int .i64 zn6), (.slice zp7 zl8 zl9), (.slice zp10 zl11 zl12), (.slice zp13 zl14 zl15), (.int .i64 zn16), (.int .i64 zn6), (.tuple #[])] [(.pointer (some za0)), (.slice zp1 zl2 zl3), (.int .i64 zn4), (.int .i64 zn5), (.int .i64 zn6), (.slice zp7 zl8 zl9), (.slice zp10 zl11 zl12), (.slice zp13 zl14 zl15), (.int .i64 zn16), (.int .i64 zn6), (.tuple #[])] (nx2 [(.bool b122), (.int .i64 (IntKind.wrap .i64 ((IntKind.wrap .i64 (Int.tdiv (IntKind.wrap .i64 (n123 + n124)) 2)) + 1))), (.int .i64 n124)]))
              (NX [(.pointer (some za0)), (.slice zp1 zl2 zl3), (.int .i64 zn4), (.int .i64 zn5), (.int .i64 zn6), (.slice zp7 zl8 zl9), (.slice zp10 zl11 zl12), (.slice zp13 zl14 zl15), (.int .i64 zn16), (.int .i64 zn6), (.tuple #[])] [(.pointer (some za0)), (.slice zp1 zl2 zl3), (.int .i64 zn4), (.int .i64 zn5), (.int .i64 zn6), (.slice zp7 zl8 zl9), (.slice zp10 zl11 zl12), (.slice zp13 zl14 zl15), (.int .i64 zn16), (.int .i64 zn6), (.tuple #[])] (nx2 [(.bool b122), (.int .i64 n123), (.int .i64 (IntKind.wrap .i64 (Int.tdiv (IntKind.wrap .i64 (n123 + n124)) 2)))])))
def B_law03_LotDraws_0 (W : World) (R : Ending → Hp → Prop) (za0 : Addr) (zp1 : Option Addr) (zl2 : Nat) (zl3 : Nat) (zn4 : Int) (b72 : Bool) (n73 : Int) (n74 : Int) (n75 : Int) (n76 : Int) (nx0 : List Value → Hp → Prop) : Hp → Prop :=
  BR (decide (n76 < zn4))
    (L_law03_LotDraws_1 W R nx0 za0 zp1 zl2 zl3 (Int.tmod (IntKind.wrap .i64 ((IntKind.wrap .i64 (75 * n73)) + 74)) 65537) n75 n76 zn4 b72 none 0 0 none 0 0 n74)
    (BR ((IntKind.wrap .i64 (n75 - n74)) == 1)
      (CALL Pg W F_law03_awake []
        (fun v77 => TYB v77 fun b79 =>
          R (.returned (.bool b79)))
          (fun e78 => R (.panicked e78)))
      (R (.returned (.bool false))))
theorem B_law03_LotDraws_0_eq (W : World) (R : Ending → Hp → Prop) (za0 : Addr) (zp1 : Option Addr) (zl2 : Nat) (zl3 : Nat) (zn4 : Int) (b72 : Bool) (n73 : Int) (n74 : Int) (n75 : Int) (n76 : Int) (nx0 : List Value → Hp → Prop) (j : Tm) : vc Pg W 193 rs_6 an_6 false (sub (bodyOf Try.f6) [1, 1, 1, 1, 1, 1, 1, 1, 1, 0, 1, 0, 0]) 0 (KLoop [4, 9, 10, 11, 80] [2, 5, 79, 193] [(.pointer (some za0)), (.slice zp1 zl2 zl3), (.int .i64 zn4), (.tuple #[])] nx0 (KBlk 0 (KS Pg W 193 rs_6 an_6 false (sub (bodyOf Try.f6) [1, 1, 1, 1, 1, 1, 1, 1, 1, 1]) 0 (fin Pg W 193 rv_6 R)))) (known [4, 9, 10, 11, 80] [(.bool b72), (.int .i64 n73), (.int .i64 n74), (.int .i64 n75), (.int .i64 n76)] (known [2, 5, 79, 193] [(.pointer (some za0)), (.slice zp1 zl2 zl3), (.int .i64 zn4), (.tuple #[])] j)) = B_law03_LotDraws_0 W R za0 zp1 zl2 zl3 zn4 b72 n73 n74 n75 n76 nx0 := by kernel_rfl
def N_law03_LotDraws_0 (I : Bool → Int → Int → Int → Int → Hp → Prop) (μ : Bool → Int → Int → Int → Int → Hp → Nat) (b720 : Bool) (n730 : Int) (n740 : Int) (n750 : Int) (n760 : Int) (s : Hp) (vs : List Value) : Hp → Prop := fun s' => ∃ b72 n73 n74 n75 n76, vs = [(.bool b72), (.int .i64 n73), (.int .i64 n74), (.int .i64 n75), (.int .i64 n76)] ∧ I b72 n73 n74 n75 n76 s' ∧ μ b72 n73 n74 n75 n76 s' < μ b720 n730 n740 n750 n760 s
theorem L_law03_LotDraws_0_rule (W : World) (R : Ending → Hp → Prop) (za0 : Addr) (zp1 : Option Addr) (zl2 : Nat) (zl3 : Nat) (zn4 : Int) (I : Bool → Int → Int → Int → Int → Hp → Prop) (μ : Bool → Int → Int → Int → Int → Hp → Nat) (b720 : Bool) (n730 : Int) (n740 : Int) (n750 : Int) (n760 : Int) (s : Hp) (h0 : I b720 n730 n740 n750 n760 s)
    (hr : ∀ (b72 : Bool) (n73 : Int) (n74 : Int) (n75 : Int) (n76 : Int) (s : Hp), I b72 n73 n74 n75 n76 s → B_law03_LotDraws_0 W R za0 zp1 zl2 zl3 zn4 b72 n73 n74 n75 n76 (fun vs => N_law03_LotDraws_0 I μ b72 n73 n74 n75 n76 s vs) s) : L_law03_LotDraws_0 W R za0 zp1 zl2 zl3 zn4 b720 n730 n740 n750 n760 s := by
  refine ⟨fun vs s => ∃ b72 n73 n74 n75 n76, vs = [(.bool b72), (.int .i64 n73), (.int .i64 n74), (.int .i64 n75), (.int .i64 n76)] ∧ I b72 n73 n74 n75 n76 s, fun vs s => (match vs with | [.bool b72, .int _ n73, .int _ n74, .int _ n75, .int _ n76] => μ b72 n73 n74 n75 n76 s | _ => 0), ⟨⟨⟨_, rfl⟩, ⟨⟨_, rfl⟩, ⟨⟨_, rfl⟩, ⟨⟨_, rfl⟩, ⟨⟨_, rfl⟩, trivial⟩⟩⟩⟩⟩, ⟨_, _, _, _, _, rfl, h0⟩⟩, ?_⟩
  intro b72 n73 n74 n75 n76 s hI j
  obtain ⟨b72', n73', n74', n75', n76', hy, hI⟩ := hI
  have hI' : I b72 n73 n74 n75 n76 s := by cases hy; exact hI
  have hh := hr b72 n73 n74 n75 n76 s hI'
  rw [← B_law03_LotDraws_0_eq W R za0 zp1 zl2 zl3 zn4 b72 n73 n74 n75 n76 _ j] at hh
  refine vc_mono ?_ _ _ hh
  exact KLoop_mono (fun vs s' h => by obtain ⟨b721, n731, n741, n751, n761, rfl, h1, h2⟩ := h; exact ⟨⟨⟨_, rfl⟩, ⟨⟨_, rfl⟩, ⟨⟨_, rfl⟩, ⟨⟨_, rfl⟩, ⟨⟨_, rfl⟩, trivial⟩⟩⟩⟩⟩, ⟨_, _, _, _, _, rfl, h1⟩, h2⟩)
def B_law03_LotDraws_1 (W : World) (R : Ending → Hp → Prop) (nx0 : List Value → Hp → Prop) (za0 : Addr) (zp1 : Option Addr) (zl2 : Nat) (zl3 : Nat) (zn4 : Int) (zn5 : Int) (zn6 : Int) (zn7 : Int) (b80 : Bool) (x81 : Option Addr) (l82 : Nat) (c83 : Nat) (x84 : Option Addr) (l85 : Nat) (c86 : Nat) (n87 : Int) (nx1 : List Value → Hp → Prop) : Hp → Prop :=
  BR (decide (n87 < zn5))
    (RDL (Addr.add za0 0) fun x88 l89 c90 =>
      RDI .i64 (Addr.add za0 1) fun n91 =>
        CALL Pg W F_lot_Nth [(.agg #[(.slice x88 l89 c90), (.int .i64 n91)]), (.int .i64 n87)]
          (fun v92 => TUP v92 fun q94 => HD q94 fun v95 r96 => TYL v95 fun x97 l98 c99 =>
            HD r96 fun v100 r101 => TYI .i64 v100 fun n102 =>
              NL r101 <|
                BR (n102 != 0)
                  (J_law03_LotDraws_3 W R true x97 l98 zn6 x81 l82 c83 n87 x84 l85 c86 nx0 nx1 za0 zp1 zl2 zl3 zn4 zn5 c99 zn7 b80)
                  (J_law03_LotDraws_3 W R ((↑l98 : Int) != (↑zl2 : Int)) x97 l98 zn6 x81 l82 c83 n87 x84 l85 c86 nx0 nx1 za0 zp1 zl2 zl3 zn4 zn5 c99 zn7 b80))
            (fun e93 => R (.panicked e93)))
    (BR ((↑l82 : Int) == 0)
      (R (.returned (.bool false)))
      (NZI (↑l82 : Int) <|
        IXS x81 l82 (Int.tmod zn4 (↑l82 : Int)) 1 fun a114 =>
          RDI .i64 a114 fun n115 =>
            IXS zp1 zl2 zn6 1 fun a116 =>
              RDI .i64 a116 fun n117 =>
                BR (n115 != n117)
                  (R (.returned (.bool false)))
                  (IXS x84 l85 (Int.tmod zn4 (↑l82 : Int)) 1 fun a118 =>
                    RDI .i64 a118 fun n119 =>
                      BR (decide ((IntKind.wrap .i64 ((Int.tmod zn4 (↑l82 : Int)) + 1)) < (↑l85 : Int)))
                        (IXS x84 l85 (IntKind.wrap .i64 ((Int.tmod zn4 (↑l82 : Int)) + 1)) 1 fun a120 =>
                          RDI .i64 a120 fun n121 =>
                            NX [(.pointer (some za0)), (.slice zp1 zl2 zl3), (.int .i64 zn7), (.tuple #[])] [(.pointer (some za0)), (.slice zp1 zl2 zl3), (.int .i64 zn7), (.tuple #[])] (nx0 [(.bool b80), (.int .i64 zn4), (.int .i64 n119), (.int .i64 n121), (.int .i64 (IntKind.wrap .i64 (zn6 + 1)))]))
                        (NX [(.pointer (some za0)), (.slice zp1 zl2 zl3), (.int .i64 zn7), (.tuple #[])] [(.pointer (some za0)), (.slice zp1 zl2 zl3), (.int .i64 zn7), (.tuple #[])] (nx0 [(.bool b80), (.int .i64 zn4), (.int .i64 n119), (.int .i64 zn5), (.int .i64 (IntKind.wrap .i64 (zn6 + 1)))])))))
theorem B_law03_LotDraws_1_eq (W : World) (R : Ending → Hp → Prop) (nx0 : List Value → Hp → Prop) (za0 : Addr) (zp1 : Option Addr) (zl2 : Nat) (zl3 : Nat) (zn4 : Int) (zn5 : Int) (zn6 : Int) (zn7 : Int) (b80 : Bool) (x81 : Option Addr) (l82 : Nat) (c83 : Nat) (x84 : Option Addr) (l85 : Nat) (c86 : Nat) (n87 : Int) (nx1 : List Value → Hp → Prop) (j : Tm) : vc Pg W 193 rs_6 an_6 false (sub (bodyOf Try.f6) [1, 1, 1, 1, 1, 1, 1, 1, 1, 0, 1, 0, 0, 1, 1, 0, 0, 1, 1, 1, 0, 1, 0, 0]) 2 (KLoop [4, 13, 14, 15] [2, 5, 9, 11, 12, 79, 80, 193] [(.pointer (some za0)), (.slice zp1 zl2 zl3), (.int .i64 zn4), (.int .i64 zn5), (.int .i64 zn6), (.int .i64 zn7), (.int .i64 zn6), (.tuple #[])] nx1 (KBlk 2 (KS Pg W 193 rs_6 an_6 false (sub (bodyOf Try.f6) [1, 1, 1, 1, 1, 1, 1, 1, 1, 0, 1, 0, 0, 1, 1, 0, 0, 1, 1, 1, 1]) 1 (KBlk 1 (KS Pg W 193 rs_6 an_6 false (sub (bodyOf Try.f6) [1, 1, 1, 1, 1, 1, 1, 1, 1, 0, 1, 0, 0, 1, 1, 1]) 0 (KLoop [4, 9, 10, 11, 80] [2, 5, 79, 193] [(.pointer (some za0)), (.slice zp1 zl2 zl3), (.int .i64 zn7), (.tuple #[])] nx0 (KBlk 0 (KS Pg W 193 rs_6 an_6 false (sub (bodyOf Try.f6) [1, 1, 1, 1, 1, 1, 1, 1, 1, 1]) 0 (fin Pg W 193 rv_6 R))))))))) (known [4, 13, 14, 15] [(.bool b80), (.slice x81 l82 c83), (.slice x84 l85 c86), (.int .i64 n87)] (known [2, 5, 9, 11, 12, 79, 80, 193] [(.pointer (some za0)), (.slice zp1 zl2 zl3), (.int .i64 zn4), (.int .i64 zn5), (.int .i64 zn6), (.int .i64 zn7), (.int .i64 zn6), (.tuple #[])] j)) = B_law03_LotDraws_1 W R nx0 za0 zp1 zl2 zl3 zn4 zn5 zn6 zn7 b80 x81 l82 c83 x84 l85 c86 n87 nx1 := by kernel_rfl
def N_law03_LotDraws_1 (I : Bool → Option Addr → Nat → Nat → Option Addr → Nat → Nat → Int → Hp → Prop) (μ : Bool → Option Addr → Nat → Nat → Option Addr → Nat → Nat → Int → Hp → Nat) (b800 : Bool) (x810 : Option Addr) (l820 : Nat) (c830 : Nat) (x840 : Option Addr) (l850 : Nat) (c860 : Nat) (n870 : Int) (s : Hp) (vs : List Value) : Hp → Prop := fun s' => ∃ b80 x81 l82 c83 x84 l85 c86 n87, vs = [(.bool b80), (.slice x81 l82 c83), (.slice x84 l85 c86), (.int .i64 n87)] ∧ I b80 x81 l82 c83 x84 l85 c86 n87 s' ∧ μ b80 x81 l82 c83 x84 l85 c86 n87 s' < μ b800 x810 l820 c830 x840 l850 c860 n870 s
theorem L_law03_LotDraws_1_rule (W : World) (R : Ending → Hp → Prop) (nx0 : List Value → Hp → Prop) (za0 : Addr) (zp1 : Option Addr) (zl2 : Nat) (zl3 : Nat) (zn4 : Int) (zn5 : Int) (zn6 : Int) (zn7 : Int) (I : Bool → Option Addr → Nat → Nat → Option Addr → Nat → Nat → Int → Hp → Prop) (μ : Bool → Option Addr → Nat → Nat → Option Addr → Nat → Nat → Int → Hp → Nat) (b800 : Bool) (x810 : Option Addr) (l820 : Nat) (c830 : Nat) (x840 : Option Addr) (l850 : Nat) (c860 : Nat) (n870 : Int) (s : Hp) (h0 : I b800 x810 l820 c830 x840 l850 c860 n870 s)
    (hr : ∀ (b80 : Bool) (x81 : Option Addr) (l82 : Nat) (c83 : Nat) (x84 : Option Addr) (l85 : Nat) (c86 : Nat) (n87 : Int) (s : Hp), I b80 x81 l82 c83 x84 l85 c86 n87 s → B_law03_LotDraws_1 W R nx0 za0 zp1 zl2 zl3 zn4 zn5 zn6 zn7 b80 x81 l82 c83 x84 l85 c86 n87 (fun vs => N_law03_LotDraws_1 I μ b80 x81 l82 c83 x84 l85 c86 n87 s vs) s) : L_law03_LotDraws_1 W R nx0 za0 zp1 zl2 zl3 zn4 zn5 zn6 zn7 b800 x810 l820 c830 x840 l850 c860 n870 s := by
  refine ⟨fun vs s => ∃ b80 x81 l82 c83 x84 l85 c86 n87, vs = [(.bool b80), (.slice x81 l82 c83), (.slice x84 l85 c86), (.int .i64 n87)] ∧ I b80 x81 l82 c83 x84 l85 c86 n87 s, fun vs s => (match vs with | [.bool b80, .slice x81 l82 c83, .slice x84 l85 c86, .int _ n87] => μ b80 x81 l82 c83 x84 l85 c86 n87 s | _ => 0), ⟨⟨⟨_, rfl⟩, ⟨⟨_, _, _, rfl⟩, ⟨⟨_, _, _, rfl⟩, ⟨⟨_, rfl⟩, trivial⟩⟩⟩⟩, ⟨_, _, _, _, _, _, _, _, rfl, h0⟩⟩, ?_⟩
  intro b80 x81 l82 c83 x84 l85 c86 n87 s hI j
  obtain ⟨b80', x81', l82', c83', x84', l85', c86', n87', hy, hI⟩ := hI
  have hI' : I b80 x81 l82 c83 x84 l85 c86 n87 s := by cases hy; exact hI
  have hh := hr b80 x81 l82 c83 x84 l85 c86 n87 s hI'
  rw [← B_law03_LotDraws_1_eq W R nx0 za0 zp1 zl2 zl3 zn4 zn5 zn6 zn7 b80 x81 l82 c83 x84 l85 c86 n87 _ j] at hh
  refine vc_mono ?_ _ _ hh
  exact KLoop_mono (fun vs s' h => by obtain ⟨b801, x811, l821, c831, x841, l851, c861, n871, rfl, h1, h2⟩ := h; exact ⟨⟨⟨_, rfl⟩, ⟨⟨_, _, _, rfl⟩, ⟨⟨_, _, _, rfl⟩, ⟨⟨_, rfl⟩, trivial⟩⟩⟩⟩, ⟨_, _, _, _, _, _, _, _, rfl, h1⟩, h2⟩)
def B_law03_LotDraws_2 (W : World) (R : Ending → Hp → Prop) (nx0 : List Value → Hp → Prop) (nx1 : List Value → Hp → Prop) (za0 : Addr) (zp1 : Option Addr) (zl2 : Nat) (zl3 : Nat) (zn4 : Int) (zn5 : Int) (zn6 : Int) (zp7 : Option Addr) (zl8 : Nat) (zl9 : Nat) (zp10 : Option Addr) (zl11 : Nat) (zl12 : Nat) (zp13 : Option Addr) (zl14 : Nat) (zl15 : Nat) (zn16 : Int) (b122 : Bool) (n123 : Int) (n124 : Int) (nx2 : List Value → Hp → Prop) : Hp → Prop :=
  BR (decide (n123 < n124))
    (RDL (Addr.add za0 0) fun x125 l126 c127 =>
      RDI .i64 (Addr.add za0 1) fun n128 =>
        CALL Pg W F_lot_Nth [(.agg #[(.slice x125 l126 c127), (.int .i64 n128)]), (.int .i64 (IntKind.wrap .i64 (Int.tdiv (IntKind.wrap .i64 (n123 + n124)) 2)))]
          (fun v129 => TUP v129 fun q131 => HD q131 fun v132 r133 => TYL v132 fun x134 l135 c136 =>
            HD r133 fun v137 r138 => TYI .i64 v137 fun n139 =>
              NL r138 <|
                BR (n139 != 0)
                  (J_law03_LotDraws_4 W R true x134 l135 zn6 zp13 zl14 za0 zp1 zl2 zl3 zn4 zn5 zp7 zl8 zl9 zp10 zl11 zl12 zl15 zn16 nx2 b122 n123 n124)
                  (J_law03_LotDraws_4 W R ((↑l135 : Int) != (↑zl2 : Int)) x134 l135 zn6 zp13 zl14 za0 zp1 zl2 zl3 zn4 zn5 zp7 zl8 zl9 zp10 zl11 zl12 zl15 zn16 nx2 b122 n123 n124))
            (fun e130 => R (.panicked e130)))
    (NX [(.pointer (some za0)), (.slice zp1 zl2 zl3), (.int .i64 zn4), (.int .i64 zn5), (.int .i64 zn6), (.int .i64 zn16), (.int .i64 zn6), (.tuple #[])] [(.pointer (some za0)), (.slice zp1 zl2 zl3), (.int .i64 zn4), (.int .i64 zn5), (.int .i64 zn6), (.int .i64 zn16), (.int .i64 zn6), (.tuple #[])] (nx1 [(.bool b122), (.slice zp7 zl8 zl9), (.slice zp10 zl11 zl12), (.int .i64 n123)]))
theorem B_law03_LotDraws_2_eq (W : World) (R : Ending → Hp → Prop) (nx0 : List Value → Hp → Prop) (nx1 : List Value → Hp → Prop) (za0 : Addr) (zp1 : Option Addr) (zl2 : Nat) (zl3 : Nat) (zn4 : Int) (zn5 : Int) (zn6 : Int) (zp7 : Option Addr) (zl8 : Nat) (zl9 : Nat) (zp10 : Option Addr) (zl11 : Nat) (zl12 : Nat) (zp13 : Option Addr) (zl14 : Nat) (zl15 : Nat) (zn16 : Int) (b122 : Bool) (n123 : Int) (n124 : Int) (nx2 : List Value → Hp → Prop) (j : Tm) : vc Pg W 193 rs_6 an_6 false (sub (bodyOf Try.f6) [1, 1, 1, 1, 1, 1, 1, 1, 1, 0, 1, 0, 0, 1, 1, 0, 0, 1, 1, 1, 0, 1, 0, 0, 1, 0, 1, 1, 1, 1, 0, 0, 0]) 4 (KLoop [4, 18, 19] [2, 5, 9, 11, 12, 13, 14, 16, 79, 80, 193] [(.pointer (some za0)), (.slice zp1 zl2 zl3), (.int .i64 zn4), (.int .i64 zn5), (.int .i64 zn6), (.slice zp7 zl8 zl9), (.slice zp10 zl11 zl12), (.slice zp13 zl14 zl15), (.int .i64 zn16), (.int .i64 zn6), (.tuple #[])] nx2 (KBlk 4 (KS Pg W 193 rs_6 an_6 false (sub (bodyOf Try.f6) [1, 1, 1, 1, 1, 1, 1, 1, 1, 0, 1, 0, 0, 1, 1, 0, 0, 1, 1, 1, 0, 1, 0, 0, 1, 0, 1, 1, 1, 1, 1]) 3 (KBlk 3 (KLoop [4, 13, 14, 15] [2, 5, 9, 11, 12, 79, 80, 193] [(.pointer (some za0)), (.slice zp1 zl2 zl3), (.int .i64 zn4), (.int .i64 zn5), (.int .i64 zn6), (.int .i64 zn16), (.int .i64 zn6), (.tuple #[])] nx1 (KBlk 2 (KS Pg W 193 rs_6 an_6 false (sub (bodyOf Try.f6) [1, 1, 1, 1, 1, 1, 1, 1, 1, 0, 1, 0, 0, 1, 1, 0, 0, 1, 1, 1, 1]) 1 (KBlk 1 (KS Pg W 193 rs_6 an_6 false (sub (bodyOf Try.f6) [1, 1, 1, 1, 1, 1, 1, 1, 1, 0, 1, 0, 0, 1, 1, 1]) 0 (KLoop [4, 9, 10, 11, 80] [2, 5, 79, 193] [(.pointer (some za0)), (.slice zp1 zl2 zl3), (.int .i64 zn16), (.tuple #[])] nx0 (KBlk 0 (KS Pg W 193 rs_6 an_6 false (sub (bodyOf Try.f6) [1, 1, 1, 1, 1, 1, 1, 1, 1, 1]) 0 (fin Pg W 193 rv_6 R))))))))))))) (known [4, 18, 19] [(.bool b122), (.int .i64 n123), (.int .i64 n124)] (known [2, 5, 9, 11, 12, 13, 14, 16, 79, 80, 193] [(.pointer (some za0)), (.slice zp1 zl2 zl3), (.int .i64 zn4), (.int .i64 zn5), (.int .i64 zn6), (.slice zp7 zl8 zl9), (.slice zp10 zl11 zl12), (.slice zp13 zl14 zl15), (.int .i64 zn16), (.int .i64 zn6), (.tuple #[])] j)) = B_law03_LotDraws_2 W R nx0 nx1 za0 zp1 zl2 zl3 zn4 zn5 zn6 zp7 zl8 zl9 zp10 zl11 zl12 zp13 zl14 zl15 zn16 b122 n123 n124 nx2 := by kernel_rfl
def N_law03_LotDraws_2 (I : Bool → Int → Int → Hp → Prop) (μ : Bool → Int → Int → Hp → Nat) (b1220 : Bool) (n1230 : Int) (n1240 : Int) (s : Hp) (vs : List Value) : Hp → Prop := fun s' => ∃ b122 n123 n124, vs = [(.bool b122), (.int .i64 n123), (.int .i64 n124)] ∧ I b122 n123 n124 s' ∧ μ b122 n123 n124 s' < μ b1220 n1230 n1240 s
theorem L_law03_LotDraws_2_rule (W : World) (R : Ending → Hp → Prop) (nx0 : List Value → Hp → Prop) (nx1 : List Value → Hp → Prop) (za0 : Addr) (zp1 : Option Addr) (zl2 : Nat) (zl3 : Nat) (zn4 : Int) (zn5 : Int) (zn6 : Int) (zp7 : Option Addr) (zl8 : Nat) (zl9 : Nat) (zp10 : Option Addr) (zl11 : Nat) (zl12 : Nat) (zp13 : Option Addr) (zl14 : Nat) (zl15 : Nat) (zn16 : Int) (I : Bool → Int → Int → Hp → Prop) (μ : Bool → Int → Int → Hp → Nat) (b1220 : Bool) (n1230 : Int) (n1240 : Int) (s : Hp) (h0 : I b1220 n1230 n1240 s)
    (hr : ∀ (b122 : Bool) (n123 : Int) (n124 : Int) (s : Hp), I b122 n123 n124 s → B_law03_LotDraws_2 W R nx0 nx1 za0 zp1 zl2 zl3 zn4 zn5 zn6 zp7 zl8 zl9 zp10 zl11 zl12 zp13 zl14 zl15 zn16 b122 n123 n124 (fun vs => N_law03_LotDraws_2 I μ b122 n123 n124 s vs) s) : L_law03_LotDraws_2 W R nx0 nx1 za0 zp1 zl2 zl3 zn4 zn5 zn6 zp7 zl8 zl9 zp10 zl11 zl12 zp13 zl14 zl15 zn16 b1220 n1230 n1240 s := by
  refine ⟨fun vs s => ∃ b122 n123 n124, vs = [(.bool b122), (.int .i64 n123), (.int .i64 n124)] ∧ I b122 n123 n124 s, fun vs s => (match vs with | [.bool b122, .int _ n123, .int _ n124] => μ b122 n123 n124 s | _ => 0), ⟨⟨⟨_, rfl⟩, ⟨⟨_, rfl⟩, ⟨⟨_, rfl⟩, trivial⟩⟩⟩, ⟨_, _, _, rfl, h0⟩⟩, ?_⟩
  intro b122 n123 n124 s hI j
  obtain ⟨b122', n123', n124', hy, hI⟩ := hI
  have hI' : I b122 n123 n124 s := by cases hy; exact hI
  have hh := hr b122 n123 n124 s hI'
  rw [← B_law03_LotDraws_2_eq W R nx0 nx1 za0 zp1 zl2 zl3 zn4 zn5 zn6 zp7 zl8 zl9 zp10 zl11 zl12 zp13 zl14 zl15 zn16 b122 n123 n124 _ j] at hh
  refine vc_mono ?_ _ _ hh
  exact KLoop_mono (fun vs s' h => by obtain ⟨b1221, n1231, n1241, rfl, h1, h2⟩ := h; exact ⟨⟨⟨_, rfl⟩, ⟨⟨_, rfl⟩, ⟨⟨_, rfl⟩, trivial⟩⟩⟩, ⟨_, _, _, rfl, h1⟩, h2⟩)
def T_law03_LotDraws (W : World) (x1 : Option Addr) (l2 : Nat) (c3 : Nat) (n4 : Int) (n5 : Int) (R : Ending → Hp → Prop) : Hp → Prop :=
  NEW 24 [(.slice x1 l2 c3), (.int .i64 n4)] fun B6 =>
    RDL (Addr.add ⟨B6, 0, none⟩ 0) fun x7 l8 c9 =>
      RDI .i64 (Addr.add ⟨B6, 0, none⟩ 1) fun n10 =>
        CALL Pg W F_law03_far [(.agg #[(.slice x7 l8 c9), (.int .i64 n10)]), (.slice none 0 0), (.int .i64 8)]
          (fun v11 => TYB v11 fun b13 =>
            BR b13
              (J_law03_LotDraws_2 W R true B6 n5)
              (RDL (Addr.add ⟨B6, 0, none⟩ 0) fun x65 l66 c67 =>
                RDI .i64 (Addr.add ⟨B6, 0, none⟩ 1) fun n68 =>
                  CALL Pg W F_ref03_Lots [(.agg #[(.slice x65 l66 c67), (.int .i64 n68)])]
                    (fun v69 => TYB v69 fun b71 =>
                      J_law03_LotDraws_2 W R (!b71) B6 n5)
                      (fun e70 => R (.panicked e70))))
            (fun e12 => R (.panicked e12))
theorem T_law03_LotDraws_eq (W : World) (x1 : Option Addr) (l2 : Nat) (c3 : Nat) (n4 : Int) (n5 : Int) (R : Ending → Hp → Prop) : vfun Pg W an_6 Try.f6 [(.agg #[(.slice x1 l2 c3), (.int .i64 n4)]), (.int .u16 n5)] R = T_law03_LotDraws W x1 l2 c3 n4 n5 R := by kernel_rfl
theorem does_law03_LotDraws (W : World) (x1 : Option Addr) (l2 : Nat) (c3 : Nat) (n4 : Int) (n5 : Int) (R : Ending → Hp → Prop) (s : Hp) (h : T_law03_LotDraws W x1 l2 c3 n4 n5 R s) : Does Pg W F_law03_LotDraws #[(.agg #[(.slice x1 l2 c3), (.int .i64 n4)]), (.int .u16 n5)] s R :=
  does_of_vfun Pg W an_6 Try.func6 rfl (by kernel_rfl) (by rw [T_law03_LotDraws_eq]; exact h)
end Go.Proofs.Ytocnkdkgajdejaa.G

/- The statement LotDraws: what is drawn by a seed. -/
set_option linter.unusedSimpArgs false
set_option linter.unusedVariables false
set_option maxRecDepth 20000
namespace Go.Proofs.Ytocnkdkgajdejaa.G
open Go.V Go.Lot
section
variable {W : World} {K : VK} {E : List PanicEntry → Hp → Prop} {s : Hp} {L : Lts}
theorem c_Nth_someF {x : Option Addr} {c k : Nat} (hm : MenAt s x L.men) (hv : valid L = true) (hk : k < cntAll L anyC) (h : ∀ s' d y c', Ext s s' → (allD L)[k]? = some d → RowAt s' y (vals d) → (∀ a, y = some a → s.size ≤ a.block) → K (.tuple #[.slice y d.length c', .int .i64 0]) s') :
    CALL Pg W F_lot_Nth [.agg #[.slice x L.n c, .int .i64 L.worst], .int .i64 k] K E s := by
  have hn := (vd_iff.1 hv).hi
  obtain ⟨d, h1, h2⟩ := nthP_some hn hk
  refine c_NthF hm (fun s' d' v e _ hd ho => ?_) (fun s' e _ hd => ?_) (fun s' e hv' => by rw [hv] at hv'; cases hv')
  · rw [h1] at hd; cases hd
    obtain ⟨y, c', rfl, hr, hf⟩ := ho
    exact h s' d y c' e h2 hr hf
  · rw [h1] at hd; cases hd
/-- Where each one's draws begin. -/
def begs (L : Lts) (left b lo k : Nat) : List Nat := (List.range k).map fun j => lo + off L left b j
theorem begs_succ (L : Lts) (left b lo k : Nat) : begs L left b lo (k + 1) = begs L left b lo k ++ [lo + off L left b k] := by unfold begs; rw [List.range_succ]; simp
theorem begs_len (L : Lts) (left b lo k : Nat) : (begs L left b lo k).length = k := by unfold begs; simp
theorem begs_get (L : Lts) (left b lo k : Nat) {j : Nat} (hj : j < k) : (begs L left b lo k).getD j 0 = lo + off L left b j := by
  unfold begs; simp [List.getD, hj]
theorem next_eq {num : Nat} (h : num ≤ 65536) : Int.tmod (IntKind.wrap .i64 (IntKind.wrap .i64 (75 * (num : Int)) + 74)) 65537 = ((nextD num : Nat) : Int) := by
  have w1 : IntKind.wrap .i64 (75 * (num : Int)) = 75 * (num : Int) := wrap_i64 (by omega) (by omega)
  have w2 : IntKind.wrap .i64 (75 * (num : Int) + 74) = 75 * (num : Int) + 74 := wrap_i64 (by omega) (by omega)
  rw [w1, w2, Int.tmod_eq_emod_of_nonneg (by omega)]
  unfold nextD
  omega
theorem next_le (num : Nat) : nextD num ≤ 65536 := by unfold nextD; omega
/-- A list of one's own, and new; where it lies. -/
structure Ls (lo : Nat) (s : Hp) (x : Option Addr) (l c : Nat) (d : List Nat) : Prop where
  fr : Fr lo s x l c 1 (vals d)
  lt : ∀ b, x = some b → b.block < s.size
theorem Ls.ext {lo : Nat} {s s' : Hp} {x : Option Addr} {l c : Nat} {d : List Nat} (e : Ext s s') (h : Ls lo s x l c d) : Ls lo s' x l c d := ⟨h.fr.ext e, fun b hb => Nat.lt_of_lt_of_le (h.lt b hb) e.1⟩
theorem Ls.len {lo : Nat} {s : Hp} {x : Option Addr} {l c : Nat} {d : List Nat} (h : Ls lo s x l c d) : l = d.length := by have := h.fr.len; rw [vals_len] at this; omega
theorem Ls.kp {D : Nat → Prop} {lo : Nat} {s s' : Hp} {x : Option Addr} {l c : Nat} {d : List Nat} (k : Kp D s s') (hd : ∀ a, x = some a → ¬ D a.block) (h : Ls lo s x l c d) : Ls lo s' x l c d := ⟨h.fr.kp k hd, fun b hb => Nat.lt_of_lt_of_le (h.lt b hb) k.1⟩
/-- A number is put behind such a list. -/
theorem ls_add {lo l c n y : Nat} {x : Option Addr} {d : List Nat} {KK : Option Addr → Nat → Nat → Hp → Prop} (hx : Ls lo s x l c d) (hlo : lo ≤ s.size) (hy : cellAt s ⟨y, 0, none⟩ = some (.int .i64 (n : Nat))) (h8 : d.length ≤ 1000)
    (h : ∀ s' x' c', Kp (fun b => ∃ a, x = some a ∧ a.block = b) s s' → Ls lo s' x' (l + 1) c' (d ++ [n]) → (∀ a, x' = some a → (∃ a', x = some a' ∧ a'.block = a.block) ∨ s.size ≤ a.block) → KK x' (l + 1) c' s') :
    APP Pg 3 1 x l c (some ⟨y, 0, none⟩) 1 KK s := by
  have hl := hx.len
  refine APP_fr (ws := vals [n]) hx.fr hlo ?_ rfl zc_3 rfl (by omega) (by intro v hv; simp [vals] at hv; subst hv; rfl) (by omega) ?_
  · intro i hi
    refine ⟨_, rfl, ?_⟩
    match i, hi with
    | 0, _ => exact hy
  · intro s' x' c' k g f
    have e : vals d ++ vals [n] = vals (d ++ [n]) := by unfold vals; rw [List.map_append]
    rw [e] at f
    refine h s' x' c' k ⟨f, fun b hb => ?_⟩ g
    subst hb
    have hpos : 0 < (vals (d ++ [n])).length := by rw [vals_len]; simp
    exact (f.buf.at hpos).lt

theorem draws_end {s1 t1 : Hp} {x yd : Option Addr} {c B0 cd i num left b lo k low0 : Nat} {D d : List Nat} {x97 x107 x111 : Option Addr} {c98 c109 c113 l1 l2 : Nat} {b80 : Bool} {nx0 nx1 : List Value → Hp → Prop} {zn4 zn5 : Int} {R : Ending → Hp → Prop} (hv : valid L = true) (hm : MenAt s1 x L.men)
    (c0 : ∀ t, Ext s1 t → cellAt t ((⟨B0, 0, none⟩ : Addr).add 0) = some (.slice x L.n c)) (c1 : ∀ t, Ext s1 t → cellAt t ((⟨B0, 0, none⟩ : Addr).add 1) = some (.int .i64 L.worst)) (e1 : Ext s1 t1) (sg : Seg L (D.take i) left b lo) (h0 : left ≠ 0) (hk : k < (cans L left b).length) (hDl : D.length = L.n) (hi : i < L.n)
    (hd : (allD L)[lo + off L left b k]? = some d) (hrow : RowAt t1 x97 (vals d)) (hz5 : zn5 = ((lo + (allL L left b).length : Nat) : Int)) (hN : lo + (allL L left b).length ≤ cntAll L anyC)
    (h : ∀ t, Ext t1 t → nx1 [.bool b80, .slice x107 l1 c109, .slice x111 l2 c113, .int .i64 (lo + off L left b (k + 1) : Nat)] t) :
    L_law03_LotDraws_2 W R nx0 nx1 ⟨B0, 0, none⟩ yd L.n cd zn4 zn5 i x107 l1 c109 x111 l2 c113 x97 d.length c98 L.n b80 (lo + off L left b k + 1 : Nat) (lo + (allL L left b).length : Nat) t1 := by
  subst hz5
  have v := vd_iff.1 hv
  have hn8 := v.hi
  have hoff := off_succ hk
  have hcp := (cans_at hk).2.2
  have hall := off_all hn8 sg.lt h0 (b := b)
  have hmono := off_mono (L := L) (left := left) (b := b) (show k + 1 ≤ (cans L left b).length by omega) (Nat.le_refl _)
  have hN8 : cntAll L anyC ≤ 134217728 := cnt_le L anyC hn8 _ _
  obtain ⟨pd, _, _⟩ := allD_at hn8 hd
  have hpre : (D.take i).length = i := by rw [List.length_take]; omega
  have hdi : d.getD i 0 = (cans L left b)[k] := by
    have := (sg.which hn8 h0 hk (Nat.le_refl _) (by omega) hd).2 (by omega)
    rw [hpre] at this; exact this
  refine L_law03_LotDraws_2_rule W R nx0 nx1 ⟨B0, 0, none⟩ yd L.n cd zn4 _ i x107 l1 c109 x111 l2 c113 x97 d.length c98 L.n (fun bb n1 n2 t => bb = b80 ∧ Ext t1 t ∧ ∃ low high : Nat, n1 = low ∧ n2 = high ∧ lo + off L left b k + 1 ≤ low ∧ low ≤ lo + off L left b (k + 1) ∧ lo + off L left b (k + 1) ≤ high ∧ high ≤ lo + (allL L left b).length) (fun _ n1 n2 _ => (n2 - n1).toNat) b80 _ _ t1 ⟨rfl, Ext.refl _, _, _, rfl, rfl, Nat.le_refl _, by omega, by omega, Nat.le_refl _⟩ ?_
  rintro bb n1 n2 t ⟨rfl, et, low, high, rfl, rfl, g1, g2, g3, g4⟩
  have et1 := e1.trans et
  unfold B_law03_LotDraws_2
  refine BR_dec (fun h1 => ?_) (fun h1 => ?_)
  · have hmid : IntKind.wrap .i64 (Int.tdiv (IntKind.wrap .i64 ((low : Int) + (high : Int))) 2) = (((low + high) / 2 : Nat) : Int) := by
      rw [wrap_i64 (n := (low : Int) + (high : Int)) (by omega) (by omega)]
      have e : Int.tdiv ((low : Int) + (high : Int)) 2 = (((low + high) / 2 : Nat) : Int) := by rw [Int.tdiv_eq_ediv_of_nonneg (by omega)]; omega
      rw [e]
      exact wrap_i64 (by omega) (by omega)
    refine ⟨_, _, _, c0 t et1, _, c1 t et1, ?_⟩
    rw [hmid]
    have hlt : low < high := by omega
    have hmlt : (low + high) / 2 < high := by omega
    have hmge : low ≤ (low + high) / 2 := by omega
    generalize (low + high) / 2 = mid at *
    refine c_Nth_some (hm.ext et1) hv (by omega) fun t2 e ye ce f2 he re => ?_
    try simp only [TUP_mk, AGG_mk, HD_mk, NL_mk, TYI_mk, TYB_mk, TYP_mk, TYL_mk, TYS_mk, TYM_mk, SO_mk, NX_mk, endK_mk, endK_mk', add_0]
    obtain ⟨pe, _, _⟩ := allD_at hn8 he
    refine BR_ne (fun hh => absurd rfl hh) (fun _ => ?_)
    unfold J_law03_LotDraws_4
    rw [hmid]
    refine BR_ne (fun hh => absurd (by rw [pe.len]) hh) (fun _ => ?_)
    obtain ⟨p, hp, q1⟩ := row_at re (show i < e.length by rw [pe.len]; exact hi)
    obtain ⟨q, hq, q2⟩ := row_at (hrow.ext (et.trans f2)) (show i < d.length by rw [pd.len]; exact hi)
    have ti : ((i : Int)).toNat = i := by omega
    have hel := pe.len
    have hdl := pd.len
    refine ⟨p, hp, ⟨by omega, by omega⟩, _, by rw [ti]; exact q1, q, hq, ⟨by omega, by omega⟩, _, by rw [ti]; exact q2, ?_⟩
    have hw := sg.which hn8 h0 hk (t := mid - lo) (by omega) (by omega) (d := e) (by rw [show lo + (mid - lo) = mid by omega]; exact he)
    rw [hpre] at hw
    refine BR_eq (fun heq => ?_) (fun hne => ?_)
    · have : mid - lo < off L left b (k + 1) := hw.1 (by rw [← hdi]; omega)
      refine ⟨rfl, _, _, _, rfl, ⟨rfl, et.trans f2, mid + 1, high, ?_, rfl, by omega, by omega, g3, g4⟩, ?_⟩
      · rw [wrap_i64 (by omega) (by omega)]; rfl
      · show ((high : Int) - IntKind.wrap .i64 ((mid : Int) + 1)).toNat < ((high : Int) - (low : Int)).toNat
        rw [wrap_i64 (by omega) (by omega)]; omega
    · have : ¬ mid - lo < off L left b (k + 1) := fun hh => hne (by have := hw.2 hh; rw [← hdi] at this; omega)
      refine ⟨rfl, _, _, _, rfl, ⟨rfl, et.trans f2, low, mid, rfl, rfl, g1, g2, by omega, by omega⟩, ?_⟩
      show ((mid : Int) - (low : Int)).toNat < ((high : Int) - (low : Int)).toNat
      omega
  · have : low = lo + off L left b (k + 1) := by omega
    subst this
    exact ⟨rfl, h t et⟩
end
end Go.Proofs.Ytocnkdkgajdejaa.G

/- Contracts of the document's functions: all draws, what is wrong with one, how many there are, which one has an index, which index one has. -/
set_option linter.unusedSimpArgs false
set_option linter.unusedVariables false
set_option maxRecDepth 20000
namespace Go.Proofs.Ytocnkdkgajdejaa.G
open Go.V Go.Lot
/-- A list of draws, as it lies. -/
structure AllAt (s : Hp) (x : Option Addr) (l : Nat) (ds : List (List Nat)) : Prop where
  len : l = ds.length
  row : ∀ i (h : i < ds.length), ∃ a y c, x = some a ∧ cellAt s (a.add (i * 1)) = some (.slice y ds[i].length c) ∧ RowAt s y (vals ds[i])
theorem AllAt.ext {s s' : Hp} {x : Option Addr} {l : Nat} {ds : List (List Nat)} (e : Ext s s') (h : AllAt s x l ds) : AllAt s' x l ds := ⟨h.len, fun i hi => by
  obtain ⟨a, y, c, h1, h2, h3⟩ := h.row i hi
  exact ⟨a, y, c, h1, e.cell h2, h3.ext e⟩⟩
theorem OL.all {lo : Nat} {s : Hp} {x : Option Addr} {l c : Nat} {es : List OE} (h : OL lo s x l c es) : AllAt s x l (es.map (·.2.2)) := by
  refine ⟨by rw [List.length_map]; exact h.len, fun i hi => ?_⟩
  rw [List.length_map] at hi
  have hiv : i < (ovals es).length := by rw [ovals_len]; exact hi
  obtain ⟨a, ha, g⟩ := h.fr.buf.row i hiv
  have e1 : (ovals es)[i] = .slice es[i].1 es[i].2.2.length es[i].2.1 := List.getElem_map (fun e : OE => Value.slice e.1 e.2.2.length e.2.1)
  rw [e1] at g
  have e2 : (es.map (·.2.2))[i]'(by rw [List.length_map]; exact hi) = es[i].2.2 := by simp
  rw [e2]
  exact ⟨a, es[i].1, es[i].2.1, ha, g, (h.at' es[i] (List.getElem_mem _)).1⟩
theorem fact8 : ∀ n, n ≤ 8 → fact n ≤ 40320 := by decide
theorem kp_none {s s' : Hp} (k : Kp (BlkOf none) s s') : Ext s s' := ⟨k.1, fun q hq => k.2 q hq (fun ⟨a, h, _⟩ => by cases h)⟩
section
variable {W : World} {K : VK} {E : List PanicEntry → Hp → Prop} {s : Hp} {L : Lts}
theorem f_goOnN {x xb : Option Addr} {c cb l most : Nat} {d : List Nat} (hv : valid L = true) (hmo : most ≤ 1000000) (hd : d.Nodup) (hlt : ∀ m ∈ d, m < L.n) (hdl : d.length ≤ L.n) (hm : MenAt s x L.men) (hb : RowAt s xb (vals d)) (hl : l = d.length) (hxb : ∀ a, xb = some a → a.block < s.size)
    (h : ∀ s' y l' c', Ext s s' → AllAt s' y l' (goOnF L.n (cost L) most (L.n - d.length) d) → K (.slice y l' c') s') :
    CALL Pg W F_ref03_goOn [.agg #[.slice x L.n c, .int .i64 L.worst], .slice xb l cb, .int .i64 most, .slice none 0 0] K E s := by
  subst hl
  have hn := (vd_iff.1 hv).hi
  refine f_goOn hv most hmo (L.n - d.length) d (by omega) hd hlt K E s x xb none c cb 0 0 0 [] hm hb (Nat.zero_le _) (OL.nil _ _) (fun a ha => ⟨hxb a ha, fun b hb => by cases hb⟩) (fun a _ b hb => by cases hb) (by have := fact8 (L.n - d.length) (by omega); simp; omega) ?_
  intro s' x' l' c' es' k _ ho hmap
  have := ho.all
  rw [hmap] at this
  exact h s' x' l' c' (kp_none k) this
theorem f_All {x : Option Addr} {c : Nat} (hm : MenAt s x L.men) (hv : valid L = true) (h : ∀ s' y l' c', Ext s s' → AllAt s' y l' (allD L) → K (.slice y l' c') s') :
    CALL Pg W F_ref03_All [.agg #[.slice x L.n c, .int .i64 L.worst]] K E s := by
  refine does_ref03_All W x L.n c L.worst _ s ?_
  unfold T_ref03_All
  refine NEW_rule fun s1 e1 z1 n1 _ => ?_
  refine ⟨_, _, _, (n1 0 _ rfl).cell, _, (n1 1 _ rfl).cell, ?_⟩
  refine f_goOnN (most := 0) (d := []) (xb := none) hv (by omega) (by simp) (by simp) (by simp) (hm.ext e1) (fun i hi => by simp [vals] at hi) rfl (by simp) fun s2 y l' c' e2 ha => ?_
  try simp only [TUP_mk, AGG_mk, HD_mk, NL_mk, TYI_mk, TYB_mk, TYP_mk, TYL_mk, TYS_mk, TYM_mk, SO_mk, NX_mk, endK_mk, endK_mk', add_0]
  have hn := (vd_iff.1 hv).hi
  have hg := goOn_all (L := L) hn
  rw [← hg] at h
  exact h s2 y l' c' (e1.trans e2) ha
theorem rr_none {k m b : Nat} (h : ∀ q, q < 3 → rr L k m b q = false) : brk L k m b = 0 := by
  have h0 := h 0 (by omega)
  have h1 := h 1 (by omega)
  have h2 := h 2 (by omega)
  have h0' : r1 L m b = false := h0
  have h1' : r2 L k m = false := h1
  have h2' : r3 L k m = false := h2
  unfold brk
  rw [h0', h1', h2']; rfl
theorem rr_first {k m b r : Nat} (hr : r < 3) (h : ∀ q, q < r → rr L k m b q = false) (h1 : rr L k m b r = true) : fst L k m b = r + 1 := by
  unfold fst
  match r, hr with
  | 0, _ => have : r1 L m b = true := h1
            rw [this]; rfl
  | 1, _ => have h2 : r1 L m b = false := h 0 (by omega)
            have : r2 L k m = true := h1
            rw [this, h2]; rfl
  | 2, _ => have h2 : r1 L m b = false := h 0 (by omega)
            have h3 : r2 L k m = false := h 1 (by omega)
            have : r3 L k m = true := h1
            rw [this, h2, h3]; rfl
theorem wrong_first {d : List Nat} {k r : Nat} (hk : k < d.length) (hall : ∀ j, j < k → brk L j (d.getD j 0) (prev d j) = 0) (hr : fst L k (d.getD k 0) (prev d k) = r + 1) : wrong L d = some (k, r + 1) := by
  cases hw : wrong L d with
  | none =>
    have := wrong_none.1 hw k hk
    rw [fst_zero.2 this] at hr
    cases hr
  | some p =>
    obtain ⟨p, q⟩ := p
    obtain ⟨h1, h2, h3, h4⟩ := wrong_some hw
    rcases Nat.lt_trichotomy p k with h5 | h5 | h5
    · have := hall p h5
      rw [fst_zero.2 this] at h2
      exact absurd h2 h3
    · subst h5
      rw [h2, hr]
    · have := h4 k h5
      rw [fst_zero.2 this] at hr
      cases hr
theorem ints_back {ds : List Int} (h : okDraw L ds) : (ds.map Int.toNat).map (fun (n : Nat) => (n : Int)) = ds := by
  rw [List.map_map]
  have : ∀ x ∈ ds, ((fun (n : Nat) => (n : Int)) ∘ Int.toNat) x = x := fun x hx => by
    have := (h.2.1 x hx).1
    show ((x.toNat : Nat) : Int) = x
    omega
  rw [List.map_congr_left this]; simp
theorem ok_nat {ds : List Int} (h : okDraw L ds) : ∃ d : List Nat, ds = d.map (fun (n : Nat) => (n : Int)) ∧ Perm0 L.n d := by
  have hb := ints_back h
  refine ⟨ds.map Int.toNat, hb.symm, by rw [List.length_map]; exact h.1, ?_, ?_⟩
  · have h2 := h.2.2
    rw [← hb] at h2
    exact (List.pairwise_map.1 h2).imp fun h e => h (by rw [e])
  · intro m hm
    obtain ⟨n, hn, rfl⟩ := List.mem_map.1 hm
    have := h.2.1 n hn
    omega
theorem f_Check {x y : Option Addr} {c c' : Nat} {ds : List Int} (hm : MenAt s x L.men) (hy : RowAt s y (ints ds)) (hn : L.n ≤ 100000) (hlen : ds.length ≤ 100000)
    (h : ∀ s', Ext s s' → K (.tuple #[.int .i64 (checkP L ds).1, .int .i64 (checkP L ds).2.1, .int .i64 (checkP L ds).2.2]) s') :
    CALL Pg W F_ref03_Check [.agg #[.slice x L.n c, .int .i64 L.worst], .slice y ds.length c'] K E s := by
  refine does_ref03_Check W x L.n c L.worst y ds.length c' _ s ?_
  unfold T_ref03_Check
  refine NEW_rule fun s1 e1 z1 n1 _ => ?_
  have c0 := (n1 0 _ rfl).cell
  have c1 := (n1 1 _ rfl).cell
  refine ⟨_, _, _, c0, _, c1, ?_⟩
  refine f_Lots (hm.ext e1) hn fun s2 e2 => ?_
  try simp only [TUP_mk, AGG_mk, HD_mk, NL_mk, TYI_mk, TYB_mk, TYP_mk, TYL_mk, TYS_mk, TYM_mk, SO_mk, NX_mk, endK_mk, endK_mk', add_0]
  refine BR_not (fun hv => ?_) (fun hv => ?_)
  · have hc : checkP L ds = (0, 0, 1) := by unfold checkP; rw [hv]; rfl
    rw [hc] at h
    exact h s2 (e1.trans e2)
  have v := vd_iff.1 hv
  have hn8 := v.hi
  have e02 := e1.trans e2
  refine ⟨_, _, _, e2.cell c0, _, e2.cell c1, ?_⟩
  refine f_Full (hy.ext e02) hn8 hlen fun s3 e3 => ?_
  try simp only [TUP_mk, AGG_mk, HD_mk, NL_mk, TYI_mk, TYB_mk, TYP_mk, TYL_mk, TYS_mk, TYM_mk, SO_mk, NX_mk, endK_mk, endK_mk', add_0]
  have e03 := e02.trans e3
  have e13 := e2.trans e3
  refine BR_not (fun hok => ?_) (fun hok => ?_)
  · have hc : checkP L ds = (0, 0, 2) := by unfold checkP; rw [hv, if_pos rfl, if_neg (of_decide_eq_false hok)]
    rw [hc] at h
    exact h s3 e03
  obtain ⟨d, rfl, pd⟩ := ok_nat (of_decide_eq_true hok)
  have hok' := of_decide_eq_true hok
  have hdl := pd.len
  rw [ints_vals] at hy
  have hll : (d.map fun (n : Nat) => (n : Int)).length = d.length := by rw [List.length_map]
  rw [hll]
  refine L_ref03_Check_0_rule W _ y d.length c' ⟨s.size, 0, none⟩ (fun _ _ _ n t => Ext s3 t ∧ ∃ k : Nat, k ≤ d.length ∧ n = k ∧ ∀ j, j < k → brk L j (d.getD j 0) (prev d j) = 0) (fun _ _ _ n _ => (d.length - n).toNat) 0 0 0 0 s3 ⟨Ext.refl _, 0, by omega, rfl, fun j hj => by omega⟩ ?_
  rintro n23 n24 n25 n26 t ⟨et, k, hk, rfl, hz⟩
  unfold B_ref03_Check_0
  refine BR_dec (fun h1 => ?_) (fun h1 => ?_)
  · have hkd : k < d.length := by omega
    have hget : d.getD k 0 = d[k] := by simp [List.getD, hkd]
    refine L_ref03_Check_1_rule W _ _ y d.length c' ⟨s.size, 0, none⟩ k (fun _ _ _ n t' => Ext s3 t' ∧ ∃ r : Nat, r ≤ 3 ∧ n = ((r + 1 : Nat) : Int) ∧ ∀ q, q < r → rr L k (d.getD k 0) (prev d k) q = false) (fun _ _ _ n _ => (4 - n).toNat) n23 n24 n25 1 t ⟨et, 0, by omega, rfl, fun q hq => by omega⟩ ?_
    rintro n27 n28 n29 n30 t' ⟨et', r, hr, rfl, hq⟩
    unfold B_ref03_Check_1
    refine BR_dec (fun h2 => ?_) (fun h2 => ?_)
    · have e1t := e13.trans et'
      have em := e1.trans e1t
      refine ⟨_, _, _, e1t.cell c0, _, e1t.cell c1, ?_⟩
      refine f_Breaks (k := r) (hm.ext em) (hy.ext em) hv pd.lt hkd (by omega) (by omega) fun t2 f2 => ?_
      try simp only [TUP_mk, AGG_mk, HD_mk, NL_mk, TYI_mk, TYB_mk, TYP_mk, TYL_mk, TYS_mk, TYM_mk, SO_mk, NX_mk, endK_mk, endK_mk', add_0]
      refine BR_bool (fun h3 => ?_) (fun h3 => ?_)
      · rw [← hget] at h3
        have hw := wrong_first hkd hz (rr_first (by omega) hq h3)
        have hc : checkP L (d.map fun (n : Nat) => (n : Int)) = (((k : Nat) : Int), ((r + 1 : Nat) : Int), 0) := by unfold checkP; rw [hv, if_pos rfl, if_pos hok', map_back, hw]
        rw [hc] at h
        exact h t2 (em.trans f2)
      · have hw : IntKind.i64.wrap (((r + 1 : Nat) : Int) + 1) = (((r + 1) + 1 : Nat) : Int) := by rw [wrap_i64 (by omega) (by omega)]; omega
        refine ⟨_, _, _, _, rfl, ⟨et'.trans f2, r + 1, by omega, hw, fun q hq' => ?_⟩, ?_⟩
        · by_cases e : q = r
          · subst e; rw [hget]; exact h3
          · exact hq q (by omega)
        · show (4 - IntKind.i64.wrap (((r + 1 : Nat) : Int) + 1)).toNat < (4 - ((r + 1 : Nat) : Int)).toNat
          rw [hw]; omega
    · have hr3 : r = 3 := by omega
      subst hr3
      try simp only [TUP_mk, AGG_mk, HD_mk, NL_mk, TYI_mk, TYB_mk, TYP_mk, TYL_mk, TYS_mk, TYM_mk, SO_mk, NX_mk, endK_mk, endK_mk', add_0]
      refine ⟨_, _, _, _, rfl, ⟨et', k + 1, hkd, ?_, fun j hj => ?_⟩, ?_⟩
      · rw [wrap_i64 (by omega) (by omega)]; rfl
      · by_cases e : j = k
        · subst e; exact rr_none hq
        · exact hz j (by omega)
      · show ((d.length : Int) - IntKind.i64.wrap ((k : Int) + 1)).toNat < ((d.length : Int) - k).toNat
        rw [wrap_i64 (by omega) (by omega)]; omega
  · have hkd : k = d.length := by omega
    subst hkd
    have hw : wrong L d = none := wrong_none.2 fun i hi => hz i hi
    have hc : checkP L (d.map fun (n : Nat) => (n : Int)) = (0, 0, 4) := by unfold checkP; rw [hv, if_pos rfl, if_pos hok', map_back, hw]
    rw [hc] at h
    exact h t (e03.trans et)
theorem f_Count {x : Option Addr} {c : Nat} (hm : MenAt s x L.men) (hn : L.n ≤ 100000) (h : ∀ s', Ext s s' → K (.tuple #[.int .i64 (countP L).1, .int .i64 (countP L).2]) s') :
    CALL Pg W F_ref03_Count [.agg #[.slice x L.n c, .int .i64 L.worst]] K E s := by
  refine does_ref03_Count W x L.n c L.worst _ s ?_
  unfold T_ref03_Count
  refine NEW_rule fun s1 e1 z1 n1 _ => ?_
  have c0 := (n1 0 _ rfl).cell
  have c1 := (n1 1 _ rfl).cell
  refine ⟨_, _, _, c0, _, c1, ?_⟩
  refine f_Lots (hm.ext e1) hn fun s2 e2 => ?_
  try simp only [TUP_mk, AGG_mk, HD_mk, NL_mk, TYI_mk, TYB_mk, TYP_mk, TYL_mk, TYS_mk, TYM_mk, SO_mk, NX_mk, endK_mk, endK_mk', add_0]
  refine BR_not (fun hv => ?_) (fun hv => ?_)
  · have hc : countP L = (0, 1) := by unfold countP; rw [hv]; rfl
    rw [hc] at h
    exact h s2 (e1.trans e2)
  have e02 := e1.trans e2
  refine ⟨_, _, _, e2.cell c0, _, e2.cell c1, ?_⟩
  refine f_All (hm.ext e02) hv fun s3 y l' c' e3 ha => ?_
  try simp only [TUP_mk, AGG_mk, HD_mk, NL_mk, TYI_mk, TYB_mk, TYP_mk, TYL_mk, TYS_mk, TYM_mk, SO_mk, NX_mk, endK_mk, endK_mk', add_0]
  have hc : countP L = (((allD L).length : Int), 0) := by unfold countP; rw [hv, if_pos rfl, cntAny_len (vd_iff.1 hv).hi]
  rw [hc] at h
  rw [ha.len]
  exact h s3 (e02.trans e3)
theorem f_Nth {x : Option Addr} {c : Nat} {n : Int} (hm : MenAt s x L.men) (hn : L.n ≤ 100000)
    (h1 : ∀ s' d v, Ext s s' → valid L = true → nthP L n = some d → Out s' d v → K (.tuple #[v, .int .i64 0]) s')
    (h2 : ∀ s', Ext s s' → valid L = true → nthP L n = none → K (.tuple #[.slice none 0 0, .int .i64 4]) s')
    (h3 : ∀ s', Ext s s' → valid L = false → K (.tuple #[.slice none 0 0, .int .i64 1]) s') :
    CALL Pg W F_ref03_Nth [.agg #[.slice x L.n c, .int .i64 L.worst], .int .i64 n] K E s := by
  refine does_ref03_Nth W x L.n c L.worst n _ s ?_
  unfold T_ref03_Nth
  refine NEW_rule fun s1 e1 z1 n1 _ => ?_
  have c0 := (n1 0 _ rfl).cell
  have c1 := (n1 1 _ rfl).cell
  refine ⟨_, _, _, c0, _, c1, ?_⟩
  refine f_Lots (hm.ext e1) hn fun s2 e2 => ?_
  try simp only [TUP_mk, AGG_mk, HD_mk, NL_mk, TYI_mk, TYB_mk, TYP_mk, TYL_mk, TYS_mk, TYM_mk, SO_mk, NX_mk, endK_mk, endK_mk', add_0]
  refine BR_not (fun hv => h3 s2 (e1.trans e2) hv) (fun hv => ?_)
  have hn8 := (vd_iff.1 hv).hi
  have e02 := e1.trans e2
  refine ⟨_, _, _, e2.cell c0, _, e2.cell c1, ?_⟩
  refine f_All (hm.ext e02) hv fun s3 y l' c' e3 ha => ?_
  try simp only [TUP_mk, AGG_mk, HD_mk, NL_mk, TYI_mk, TYB_mk, TYP_mk, TYL_mk, TYS_mk, TYM_mk, SO_mk, NX_mk, endK_mk, endK_mk', add_0]
  have e03 := e02.trans e3
  refine f_in ?_
  try simp only [TUP_mk, AGG_mk, HD_mk, NL_mk, TYI_mk, TYB_mk, TYP_mk, TYL_mk, TYS_mk, TYM_mk, SO_mk, NX_mk, endK_mk, endK_mk', add_0]
  have hle := cnt_le L anyC hn8 (full L.n) 8
  have hcl := cntAny_len (L := L) hn8
  have hcu : cntAll L anyC = cnt L anyC (full L.n) 8 := rfl
  rw [ha.len, wrap_i64 (by omega) (by omega)]
  refine BR_not (fun hb => ?_) (fun hb => ?_)
  · have hb' := of_decide_eq_false hb
    exact h2 s3 e03 hv (nthP_none (by omega))
  · have hb' := of_decide_eq_true hb
    obtain ⟨k, rfl⟩ := Int.eq_ofNat_of_zero_le hb'.1
    have hk : k < (allD L).length := by omega
    obtain ⟨d, hd, hd'⟩ := nthP_some hn8 (k := k) (by omega)
    rw [List.getElem?_eq_getElem hk] at hd'
    cases hd'
    obtain ⟨a, z, c2, g1, g2, g3⟩ := ha.row k hk
    have tk : ((k : Int)).toNat = k := by omega
    refine ⟨a, g1, ⟨by omega, by omega⟩, _, _, _, by rw [tk]; exact g2, ?_⟩
    exact h1 s3 _ _ e03 hv hd ⟨_, _, rfl, g3⟩
theorem f_Place {x y : Option Addr} {c c' : Nat} {ds : List Int} (hm : MenAt s x L.men) (hy : RowAt s y (ints ds)) (hn : L.n ≤ 100000) (hlen : ds.length ≤ 100000)
    (h : ∀ s', Ext s s' → K (.tuple #[.int .i64 (Go.Proofs.Ytocnkdkgajdejaa.G.placeP L ds).1, .int .i64 (Go.Proofs.Ytocnkdkgajdejaa.G.placeP L ds).2]) s') :
    CALL Pg W F_ref03_Place [.agg #[.slice x L.n c, .int .i64 L.worst], .slice y ds.length c'] K E s := by
  refine does_ref03_Place W x L.n c L.worst y ds.length c' _ s ?_
  unfold T_ref03_Place
  refine NEW_rule fun s1 e1 z1 n1 _ => ?_
  have c0 := (n1 0 _ rfl).cell
  have c1 := (n1 1 _ rfl).cell
  refine ⟨_, _, _, c0, _, c1, ?_⟩
  refine f_Lots (hm.ext e1) hn fun s2 e2 => ?_
  try simp only [TUP_mk, AGG_mk, HD_mk, NL_mk, TYI_mk, TYB_mk, TYP_mk, TYL_mk, TYS_mk, TYM_mk, SO_mk, NX_mk, endK_mk, endK_mk', add_0]
  refine BR_not (fun hv => ?_) (fun hv => ?_)
  · have hc : placeP L ds = (0, 1) := by unfold placeP; rw [hv]; rfl
    rw [hc] at h
    exact h s2 (e1.trans e2)
  have hn8 := (vd_iff.1 hv).hi
  have e02 := e1.trans e2
  refine ⟨_, _, _, e2.cell c0, _, e2.cell c1, ?_⟩
  refine f_Full (hy.ext e02) hn8 hlen fun s3 e3 => ?_
  try simp only [TUP_mk, AGG_mk, HD_mk, NL_mk, TYI_mk, TYB_mk, TYP_mk, TYL_mk, TYS_mk, TYM_mk, SO_mk, NX_mk, endK_mk, endK_mk', add_0]
  have e03 := e02.trans e3
  have e13 := e2.trans e3
  refine BR_not (fun hok => ?_) (fun hok => ?_)
  · have hc : placeP L ds = (0, 2) := by unfold placeP; rw [hv, if_pos rfl, if_neg (of_decide_eq_false hok)]
    rw [hc] at h
    exact h s3 e03
  obtain ⟨d, rfl, pd⟩ := ok_nat (of_decide_eq_true hok)
  have hok' := of_decide_eq_true hok
  refine ⟨_, _, _, e13.cell c0, _, e13.cell c1, ?_⟩
  refine f_All (hm.ext e03) hv fun s4 z l' c2 e4 ha => ?_
  try simp only [TUP_mk, AGG_mk, HD_mk, NL_mk, TYI_mk, TYB_mk, TYP_mk, TYL_mk, TYS_mk, TYM_mk, SO_mk, NX_mk, endK_mk, endK_mk', add_0]
  have e04 := e03.trans e4
  have hle := cnt_le L anyC hn8 (full L.n) 8
  have hcl := cntAny_len (L := L) hn8
  have hcu : cntAll L anyC = cnt L anyC (full L.n) 8 := rfl
  have hll : (d.map fun (n : Nat) => (n : Int)).length = d.length := by rw [List.length_map]
  rw [ha.len]
  refine L_ref03_Place_0_rule W _ y _ c' z (allD L).length c2 (fun _ _ n t => t = s4 ∧ ∃ k : Nat, k ≤ (allD L).length ∧ n = k ∧ ∀ j (h : j < (allD L).length), j < k → (allD L)[j] ≠ d) (fun _ _ n _ => ((allD L).length - n).toNat) 0 0 0 s4 ⟨rfl, 0, by omega, rfl, fun j _ hj => by omega⟩ ?_
  rintro n32 n33 n34 t ⟨rfl, k, hk, rfl, hz⟩
  unfold B_ref03_Place_0
  refine BR_dec (fun h1 => ?_) (fun h1 => ?_)
  · have hkl : k < (allD L).length := by omega
    obtain ⟨a, w, cw, g1, g2, g3⟩ := ha.row k hkl
    have tk : ((k : Int)).toNat = k := by omega
    refine ⟨a, g1, ⟨by omega, by omega⟩, _, _, _, by rw [tk]; exact g2, ?_⟩
    have hmem : (allD L)[k] ∈ allD L := List.getElem_mem _
    have hlw := ((mem_allD hn8).1 hmem).1.len
    rw [hll]
    refine f_IntsV (a := (allD L)[k]) (b := d) g3 (by have := hy.ext e04; rw [ints_vals] at this; exact this) (by omega) rfl rfl ?_
    try simp only [TUP_mk, AGG_mk, HD_mk, NL_mk, TYI_mk, TYB_mk, TYP_mk, TYL_mk, TYS_mk, TYM_mk, SO_mk, NX_mk, endK_mk, endK_mk', add_0]
    refine BR_dec (fun h2 => ?_) (fun h2 => ?_)
    · have hm2 := (mem_allD hn8).1 (h2 ▸ hmem)
      obtain ⟨k', hk', hk2⟩ := placeP_all hn8 hv hm2.1 hm2.2
      have : k' = k := allD_inj hn8 hk2 (by rw [List.getElem?_eq_getElem hkl, h2])
      subst this
      have hk3 : placeP L (d.map fun (n : Nat) => (n : Int)) = ((k' : Int), 0) := hk'
      rw [hk3] at h
      exact h t e04
    · have hw : IntKind.i64.wrap ((k : Int) + 1) = ((k + 1 : Nat) : Int) := by rw [wrap_i64 (by omega) (by omega)]; rfl
      refine ⟨_, _, _, rfl, ⟨rfl, k + 1, by omega, hw, fun j hj hjk => ?_⟩, ?_⟩
      · by_cases e : j = k
        · subst e; exact h2
        · exact hz j hj (by omega)
      · show (((allD L).length : Int) - IntKind.i64.wrap ((k : Int) + 1)).toNat < (((allD L).length : Int) - k).toNat
        rw [hw]; omega
  · have hwn : wrong L d ≠ none := fun hw => by
      obtain ⟨j, hj, e⟩ := List.mem_iff_getElem.1 ((mem_allD hn8).2 ⟨pd, hw⟩)
      exact hz j hj (by omega) e
    obtain ⟨p, hp⟩ := Option.ne_none_iff_exists'.1 hwn
    have hc : placeP L (d.map fun (n : Nat) => (n : Int)) = (0, 4) := by unfold placeP; rw [hv, if_pos rfl, if_pos hok', map_back, hp]
    rw [hc] at h
    exact h t e04
end
end Go.Proofs.Ytocnkdkgajdejaa.G

/- Contracts of the document's functions: what is drawn by a seed. -/
set_option linter.unusedSimpArgs false
set_option linter.unusedVariables false
set_option maxRecDepth 20000
namespace Go.Proofs.Ytocnkdkgajdejaa.G
open Go.V Go.Lot
section
variable {W : World} {K : VK} {E : List PanicEntry → Hp → Prop} {s : Hp} {L : Lts}
theorem allF_up (hn : L.n ≤ 8) {left b f : Nat} (hl : left < 2 ^ L.n) (hf : (menOf L.n left).length ≤ f) (h9 : f ≤ 9) : allF L f left b = allL L left b := by
  have key : ∀ k, allF L f left b = allF L (f + k) left b := by
    intro k
    induction k with
    | zero => rfl
    | succ k ih => rw [ih]; exact allF_stable L hn (f + k) left b hl (by omega)
  have := key (9 - f)
  rw [show f + (9 - f) = 9 by omega] at this
  exact this
/-- Can it go on with somebody? -/
theorem more_good (hn : L.n ≤ 8) {d : List Nat} {left i : Nat} (hd : d.Nodup) (hlt : ∀ m ∈ d, m < L.n) (hleft : LeftOf L.n d left) (hc : cost L d = 0) (hi : i < L.n) (hb : left.testBit i = true) :
    decide (0 < (goOnF L.n (cost L) 0 (L.n - (d ++ [i]).length) (d ++ [i])).length) = good L left (prev d d.length) i := by
  have hnot := (hleft.2 i hi).1 hb
  have hplot := left_plot hleft hd hlt
  have hcs := cost_snoc L d i
  have hsn := snoc_nodup hd hnot
  have hsl := snoc_lt hlt hi
  have hst := left_step hn hleft hi hb
  have hrl := rest_len hsn hsl
  unfold good
  rw [hplot]
  by_cases h0 : brk L d.length i (prev d d.length) = 0
  · have hr := left_rest hst
    unfold rest at hr
    rw [hr] at hrl
    rw [goOn_lawful hn _ _ _ (by omega) hsn hsl hst (by omega), List.length_map, prev_snoc, allF_up hn hst.1 (by omega) (by omega), ← cnt_len L hn hst.1, decide_eq_true h0]
    rfl
  · rw [goOn_cut (by omega), decide_eq_false h0]
    rfl
/-- Those of the first so many with whom it can go on. -/
def canK (L : Lts) (left b k : Nat) : List Nat := (List.range k).filter fun i => left.testBit i && good L left b i
theorem canK_succ (L : Lts) (left b k : Nat) : canK L left b (k + 1) = canK L left b k ++ (if (left.testBit k && good L left b k) = true then [k] else []) := by
  unfold canK
  rw [List.range_succ, List.filter_append]
  congr 1
  cases h : (left.testBit k && good L left b k) <;> simp [h]
theorem canK_all (L : Lts) (left b : Nat) : canK L left b L.n = cans L left b := by
  unfold canK cans menOf
  rw [List.filter_filter]
  exact List.filter_congr fun i _ => Bool.and_comm _ _
theorem canK_len (L : Lts) (left b k : Nat) : (canK L left b k).length ≤ k := by
  unfold canK; exact Nat.le_trans (List.length_filter_le _ _) (by simp)
theorem draw_in {s1 t0 : Hp} {x xo : Option Addr} {c c' z l left : Nat} {zn : Int} {d : List Nat} {nx0 : List Value → Hp → Prop} {R : Ending → Hp → Prop} (hv : valid L = true) (hm : MenAt s1 x L.men)
    (c0 : cellAt s1 ((⟨z, 0, none⟩ : Addr).add 0) = some (.slice x L.n c)) (c1 : cellAt s1 ((⟨z, 0, none⟩ : Addr).add 1) = some (.int .i64 L.worst)) (e0 : Ext s1 t0) (hxo : RowAt t0 xo (vals d)) (hxl : ∀ a, xo = some a → a.block < t0.size) (hl : l = d.length)
    (hd : d.Nodup) (hlt : ∀ m ∈ d, m < L.n) (hleft : LeftOf L.n d left) (hc : cost L d = 0) (hdl : d.length < L.n)
    (h : ∀ t nx x33 l34 c35, Ext t0 t → Ls t0.size t x33 l34 c35 (cans L left (prev d d.length)) → B_ref03_Draw_1 W R nx0 ⟨z, 0, none⟩ xo l c' zn x33 l34 c35 L.n nx t) :
    L_ref03_Draw_1 W R nx0 ⟨z, 0, none⟩ xo l c' zn none 0 0 0 t0 := by
  have v := vd_iff.1 hv
  have hn8 := v.hi
  refine L_ref03_Draw_1_rule W R nx0 ⟨z, 0, none⟩ xo l c' zn (fun x33 l34 c35 n t => Ext t0 t ∧ ∃ k : Nat, k ≤ L.n ∧ n = k ∧ Ls t0.size t x33 l34 c35 (canK L left (prev d d.length) k)) (fun _ _ _ n _ => (L.n - n).toNat) none 0 0 0 t0 ⟨Ext.refl _, 0, by omega, rfl, ⟨Fr.nil _ _ _, fun b hb => by cases hb⟩⟩ ?_
  rintro x33 l34 c35 n t ⟨et, k, hk, rfl, ls⟩
  by_cases hkn : k = L.n
  · subst hkn
    rw [canK_all] at ls
    exact h t _ x33 l34 c35 et ls
  have hkl : k < L.n := by omega
  have hw : IntKind.i64.wrap ((k : Int) + 1) = ((k + 1 : Nat) : Int) := by rw [wrap_i64 (by omega) (by omega)]; rfl
  have hms : ((L.n : Int) - IntKind.i64.wrap ((k : Int) + 1)).toNat < ((L.n : Int) - k).toNat := by rw [hw]; omega
  have e1t := e0.trans et
  -- the end of a round
  have j0 : ∀ (t' : Hp) (y : Option Addr) (ly cy : Nat), Ext t0 t' → Ls t0.size t' y ly cy (canK L left (prev d d.length) (k + 1)) → J_ref03_Draw_0 W R ⟨z, 0, none⟩ xo l c' zn (fun vs => N_ref03_Draw_1 (fun x33 l34 c35 n t => Ext t0 t ∧ ∃ k : Nat, k ≤ L.n ∧ n = k ∧ Ls t0.size t x33 l34 c35 (canK L left (prev d d.length) k)) (fun _ _ _ n _ => (L.n - n).toNat) x33 l34 c35 k t vs) y ly cy k t' := by
    intro t' y ly cy e hls
    unfold J_ref03_Draw_0
    exact ⟨rfl, _, _, _, _, rfl, ⟨e, k + 1, by omega, hw, hls⟩, hms⟩
  have j1 : ∀ (t' : Hp) (bb : Bool), Ext t t' → bb = (left.testBit k && good L left (prev d d.length) k) → J_ref03_Draw_1 W R bb k x33 l34 c35 ⟨z, 0, none⟩ xo l c' zn (fun vs => N_ref03_Draw_1 (fun x33 l34 c35 n t => Ext t0 t ∧ ∃ k : Nat, k ≤ L.n ∧ n = k ∧ Ls t0.size t x33 l34 c35 (canK L left (prev d d.length) k)) (fun _ _ _ n _ => (L.n - n).toNat) x33 l34 c35 k t vs) t' := by
    intro t' bb e hbb
    have e0t := et.trans e
    have hsucc := canK_succ L left (prev d d.length) k
    rw [← hbb] at hsucc
    unfold J_ref03_Draw_1
    refine BR_bool (fun h1 => ?_) (fun h1 => ?_)
    · rw [if_pos h1] at hsucc
      refine NEW_rule fun t2 e2 z2 n2 _ => ?_
      have ll := canK_len L left (prev d d.length) k
      refine ls_add ((ls.ext e).ext e2) (Nat.le_trans e0t.1 e2.1) (n2 0 _ rfl).cell (by omega) fun t3 x3 c3 k3 ls3 g3 => ?_
      refine j0 t3 x3 _ c3 ?_ (by rw [hsucc]; exact ls3)
      have e02 := e0t.trans e2
      refine ⟨Nat.le_trans e02.1 k3.1, fun q hq => ?_⟩
      rw [k3.2 q (Nat.lt_of_lt_of_le hq e02.1) (fun ⟨a, ha, hab⟩ => by have := ls.fr.fr a ha; omega)]
      exact e02.2 q hq
    · rw [if_neg (by rw [h1]; simp), List.append_nil] at hsucc
      exact j0 t' x33 l34 c35 e0t (by rw [hsucc]; exact ls.ext e)
  unfold B_ref03_Draw_1
  refine ⟨_, _, _, e1t.cell c0, ?_⟩
  refine BR_dec (fun h1 => ?_) (fun h1 => by omega)
  refine f_hasV (i := k) (hxo.ext et) hl (by omega) ?_
  try simp only [TUP_mk, AGG_mk, HD_mk, NL_mk, TYI_mk, TYB_mk, TYP_mk, TYL_mk, TYS_mk, TYM_mk, SO_mk, NX_mk, endK_mk, endK_mk', add_0]
  refine BR_not (fun hno => ?_) (fun hyes => ?_)
  · have hno' : k ∉ d := of_decide_eq_false hno
    have hbit : left.testBit k = true := (hleft.2 k hkl).2 hno'
    subst hl
    refine ⟨_, _, _, e1t.cell c0, _, e1t.cell c1, ?_⟩
    refine list_more (s := t) (b := z) (w := L.worst) (c := c) (x := x) (l := L.n) (k := k) (d := d) (e1t.cell c0) (e1t.cell c1) (hxo.ext et) (by omega) fun t2 x2 c2 e2 b2 fr2 => ?_
    have hl2 : 0 + d.length + 1 = (d ++ [k]).length := by simp
    have hx2lt : ∀ a, x2 = some a → a.block < t2.size := fun a ha => by
      subst ha
      have hpos : 0 < (vals (d ++ [k])).length := by rw [vals_len]; simp
      exact (b2.at hpos).lt
    refine f_goOnN (most := 0) (d := d ++ [k]) hv (by omega) (snoc_nodup hd hno') (snoc_lt hlt hkl) (by simp; omega) (hm.ext (e1t.trans e2)) b2.row hl2 hx2lt fun t3 y ly cy e3 ha => ?_
    try simp only [TUP_mk, AGG_mk, HD_mk, NL_mk, TYI_mk, TYB_mk, TYP_mk, TYL_mk, TYS_mk, TYM_mk, SO_mk, NX_mk, endK_mk, endK_mk', add_0]
    refine j1 t3 _ (e2.trans e3) ?_
    have hg := more_good hn8 hd hlt hleft hc hkl hbit
    rw [hbit, ← hg, ha.len, Bool.true_and]
    congr 1
    apply propext
    constructor <;> intro hh <;> omega
  · have hyes' : k ∈ d := of_decide_eq_true hyes
    have hbit : left.testBit k = false := by
      cases hb : left.testBit k with
      | false => rfl
      | true => exact absurd hyes' ((hleft.2 k hkl).1 hb)
    have := j1 t false (Ext.refl _) (by rw [hbit]; rfl)
    exact CONJ_two (CONJ_two this this) this
theorem f_Draw {x : Option Addr} {c : Nat} {n : Int} (hm : MenAt s x L.men) (hn : L.n ≤ 100000)
    (h1 : ∀ s' d v, Ext s s' → valid L = true → (0 ≤ n ∧ n ≤ 65536) → drawP L n = some d → Out s' d v → K (.tuple #[v, .int .i64 0]) s')
    (h2 : ∀ s', Ext s s' → valid L = true → (0 ≤ n ∧ n ≤ 65536) → drawP L n = none → K (.tuple #[.slice none 0 0, .int .i64 4]) s')
    (h2' : ∀ s', Ext s s' → valid L = true → ¬ (0 ≤ n ∧ n ≤ 65536) → K (.tuple #[.slice none 0 0, .int .i64 2]) s')
    (h3 : ∀ s', Ext s s' → valid L = false → K (.tuple #[.slice none 0 0, .int .i64 1]) s') :
    CALL Pg W F_ref03_Draw [.agg #[.slice x L.n c, .int .i64 L.worst], .int .i64 n] K E s := by
  refine does_ref03_Draw W x L.n c L.worst n _ s ?_
  unfold T_ref03_Draw
  refine NEW_rule fun s1 e1 z1 n1 _ => ?_
  have c0 := (n1 0 _ rfl).cell
  have c1 := (n1 1 _ rfl).cell
  refine ⟨_, _, _, c0, _, c1, ?_⟩
  refine f_Lots (hm.ext e1) hn fun s2 e2 => ?_
  try simp only [TUP_mk, AGG_mk, HD_mk, NL_mk, TYI_mk, TYB_mk, TYP_mk, TYL_mk, TYS_mk, TYM_mk, SO_mk, NX_mk, endK_mk, endK_mk', add_0]
  refine BR_not (fun hv => h3 s2 (e1.trans e2) hv) (fun hv => ?_)
  have hn8 := (vd_iff.1 hv).hi
  have e02 := e1.trans e2
  refine f_in ?_
  try simp only [TUP_mk, AGG_mk, HD_mk, NL_mk, TYI_mk, TYB_mk, TYP_mk, TYL_mk, TYS_mk, TYM_mk, SO_mk, NX_mk, endK_mk, endK_mk', add_0]
  refine BR_not (fun hb => h2' s2 e02 hv (of_decide_eq_false hb)) (fun hb => ?_)
  have hb' := of_decide_eq_true hb
  obtain ⟨num0, rfl⟩ := Int.eq_ofNat_of_zero_le hb'.1
  refine ⟨_, _, _, e2.cell c0, _, e2.cell c1, ?_⟩
  refine f_All (hm.ext e02) hv fun s3 y l' c' e3 ha => ?_
  try simp only [TUP_mk, AGG_mk, HD_mk, NL_mk, TYI_mk, TYB_mk, TYP_mk, TYL_mk, TYS_mk, TYM_mk, SO_mk, NX_mk, endK_mk, endK_mk', add_0]
  have e03 := e02.trans e3
  have e13 := e2.trans e3
  have hcl := cntAny_len (L := L) hn8
  have hcu : cntAll L anyC = cnt L anyC (full L.n) 8 := rfl
  have hll := ha.len
  refine BR_eq (fun h0 => ?_) (fun h0 => ?_)
  · refine h2 s3 e03 hv hb' ?_
    unfold drawP
    rw [if_neg (by omega)]
  have hdraw : drawP L (num0 : Int) = some (runC (drawN L) L.n num0 (full L.n) 8) := by
    unfold drawP
    rw [if_pos (by omega)]; rfl
  refine L_ref03_Draw_0_rule W _ ⟨s.size, 0, none⟩ (fun xo lo co n t => Ext s3 t ∧ ∃ (num left : Nat) (d : List Nat), n = num ∧ num ≤ 65536 ∧ Ls s3.size t xo lo co d ∧ d.Nodup ∧ (∀ m ∈ d, m < L.n) ∧ LeftOf L.n d left ∧ cost L d = 0 ∧ d.length ≤ L.n ∧ 0 < cnt L anyC left (prev d d.length) ∧ runC (drawN L) L.n num0 (full L.n) 8 = d ++ runC (drawN L) (L.n - d.length) num left (prev d d.length)) (fun _ lo _ _ _ => L.n - lo) none 0 0 num0 s3
    ⟨Ext.refl _, num0, full L.n, [], rfl, by omega, ⟨Fr.nil _ _ _, fun b hb => by cases hb⟩, by simp, by simp, left_start _, rfl, by simp, by show 0 < cnt L anyC (full L.n) 8; omega, rfl⟩ ?_
  rintro xo lo co n t ⟨et, num, left, d, rfl, hnum, ls, hd, hlt, hleft, hc, hdl, hpos, hrun⟩
  have hlen := ls.len
  have e1t := e13.trans et
  unfold B_ref03_Draw_0
  refine ⟨_, _, _, e1t.cell c0, ?_⟩
  refine BR_dec (fun h4 => ?_) (fun h4 => ?_)
  · have hdlt : d.length < L.n := by omega
    rw [next_eq hnum]
    refine draw_in hv (hm.ext e1) c0 c1 e1t ls.fr.row ls.lt hlen hd hlt hleft hc hdlt fun t2 nx x33 l34 c35 e4 ls4 => ?_
    unfold B_ref03_Draw_1
    refine ⟨_, _, _, (e1t.trans e4).cell c0, ?_⟩
    refine BR_dec (fun h5 => absurd h5 (by omega)) (fun _ => ?_)
    have hplot := left_plot hleft hd hlt
    have h0 : left ≠ 0 := fun e => by
      subst e
      have : menOf L.n 0 = [] := by unfold menOf; simp
      unfold plotOf at hplot
      rw [this] at hplot
      simp at hplot
      omega
    have hcp := cans_pos L hn8 hleft.1 h0 hpos
    have hl4 := ls4.len
    have hmod := Nat.mod_lt (nextD num) hcp
    have hget : (drawN L num left (prev d d.length)).1 = (cans L left (prev d d.length))[nextD num % (cans L left (prev d d.length)).length] := by
      unfold drawN; simp [List.getD, hmod]
    have hmem : (drawN L num left (prev d d.length)).1 ∈ cans L left (prev d d.length) := by rw [hget]; exact List.getElem_mem _
    have hruns : runC (drawN L) (L.n - d.length) num left (prev d d.length) = (drawN L num left (prev d d.length)).1 :: runC (drawN L) (L.n - (d.length + 1)) (nextD num) (left - 2 ^ (drawN L num left (prev d d.length)).1) (drawN L num left (prev d d.length)).1 := by
      rw [show L.n - d.length = (L.n - (d.length + 1)) + 1 by omega]
      show (if left = 0 then [] else _) = _
      rw [if_neg h0]; rfl
    generalize hM : (drawN L num left (prev d d.length)).1 = M at hget hmem hruns
    obtain ⟨hml, hbit, hbrk, hcnt⟩ := cans_mem hmem
    have hnot := (hleft.2 M hml).1 hbit
    refine NZI_pos (by omega) ?_
    obtain ⟨a, hxa, g⟩ := row_at ls4.fr.row hmod
    have hgd : (cans L left (prev d d.length)).getD (nextD num % (cans L left (prev d d.length)).length) 0 = M := by rw [hget]; simp [List.getD, hmod]
    rw [hgd] at g
    have htm : Int.tmod ((nextD num : Nat) : Int) (l34 : Int) = ((nextD num % (cans L left (prev d d.length)).length : Nat) : Int) := by rw [hl4, mod_nat]
    rw [htm]
    have ti : (((nextD num % (cans L left (prev d d.length)).length : Nat) : Int)).toNat = nextD num % (cans L left (prev d d.length)).length := by omega
    refine ⟨a, hxa, ⟨by omega, by omega⟩, _, by rw [ti]; exact g, ?_⟩
    refine NEW_rule fun t3 e5 z5 n5 _ => ?_
    have et3 := et.trans (e4.trans e5)
    have e43 := e4.trans e5
    refine ls_add (ls.ext e43) et3.1 (n5 0 _ rfl).cell (by omega) fun t4 x4 c4 k4 ls5 g4 => ?_
    refine ⟨rfl, _, _, _, _, rfl, ⟨?_, nextD num, left - 2 ^ M, d ++ [M], rfl, next_le num, ls5, snoc_nodup hd hnot, snoc_lt hlt hml, left_step hn8 hleft hml hbit, ?_, by simp; omega, ?_, ?_⟩, ?_⟩
    · refine ⟨Nat.le_trans et3.1 k4.1, fun q hq => ?_⟩
      rw [k4.2 q (Nat.lt_of_lt_of_le hq et3.1) (fun ⟨a, ha, hab⟩ => by have := ls.fr.fr a ha; omega)]
      exact et3.2 q hq
    · rw [hplot] at hbrk
      rw [cost_snoc, hc, hbrk]
    · rw [prev_snoc]; exact hcnt
    · rw [hrun, hruns, prev_snoc]
      simp
    · show L.n - (lo + 1) < L.n - lo
      omega
  · have hdn : d.length = L.n := by omega
    have h0 : left = 0 := menOf_nil hleft.1 (by
      have hplot := left_plot hleft hd hlt
      have := menOf_len_le L.n left
      unfold plotOf at hplot; omega)
    have hr : runC (drawN L) L.n num0 (full L.n) 8 = d := by
      rw [hrun, hdn, Nat.sub_self]
      show d ++ [] = d
      simp
    rw [hr] at hdraw
    refine h1 t d _ (e03.trans et) hv hb' hdraw ⟨xo, co, by rw [hlen], ls.fr.row⟩
end
end Go.Proofs.Ytocnkdkgajdejaa.G

/- Draws of plots, in plain Lean: who can change places. -/
set_option linter.unusedSimpArgs false
set_option linter.unusedVariables false
namespace Go.Lot
def swR (L : Lts) (d : List Nat) (a k : Nat) : List (Nat × Nat) := ((List.range k).filter fun b => decide (a < b) && okSw L d a b).map fun b => (a, b)
/-- All pairs that can change, by the first plots, and by the second ones; of the first so many first plots. -/
def swD (L : Lts) (d : List Nat) (n k : Nat) : List (Nat × Nat) := (List.range k).flatMap fun a => swR L d a n
theorem swR_succ (L : Lts) (d : List Nat) (a k : Nat) : swR L d a (k + 1) = swR L d a k ++ (if a < k ∧ okSw L d a k = true then [(a, k)] else []) := by
  unfold swR
  rw [List.range_succ, List.filter_append, List.map_append]
  by_cases h : a < k <;> cases h2 : okSw L d a k <;> simp [h, h2]
theorem swD_succ (L : Lts) (d : List Nat) (n k : Nat) : swD L d n (k + 1) = swD L d n k ++ swR L d k n := by
  unfold swD
  rw [List.range_succ, List.flatMap_append]; simp
theorem filter_at (p : Nat → Bool) (a : Nat) : ∀ b : Nat, (List.range b).filter (fun x => x == a && p x) = if a < b ∧ p a = true then [a] else []
  | 0 => by simp
  | b + 1 => by
    rw [List.range_succ, List.filter_append, filter_at p a b]
    by_cases e : b = a
    · subst e
      cases h : p b <;> simp [h]
    · have : (a < b + 1) = (a < b) := propext (by omega)
      simp [e, this]
theorem sw1_at (L : Lts) (d : List Nat) (a b : Nat) : (sw1 L d b b).filter (fun p => p.1 == a) = if a < b ∧ okSw L d a b = true then [(a, b)] else [] := by
  unfold sw1
  rw [List.filter_map, List.filter_filter]
  have e : (fun x => ((fun p : Nat × Nat => p.1 == a) ∘ fun a => (a, b)) x && okSw L d x b) = fun x => x == a && okSw L d x b := by funext x; rfl
  rw [e, filter_at]
  split <;> rfl
theorem sw0_at (L : Lts) (d : List Nat) (a : Nat) : ∀ k, (sw0 L d k).filter (fun p => p.1 == a) = swR L d a k
  | 0 => by simp [sw0, swR]
  | k + 1 => by rw [sw0_succ, List.filter_append, sw0_at L d a k, sw1_at, swR_succ]
theorem swapsP_eq (L : Lts) (d : List Nat) : swapsP L d = swD L d d.length d.length := by
  unfold swapsP so0 swD
  congr 1
  funext a
  exact sw0_at L d a _
theorem swD_split (L : Lts) (d : List Nat) (n a : Nat) : ∀ k, a < k → ∃ r, swD L d n k = swD L d n a ++ (swR L d a n ++ r)
  | 0, h => by omega
  | k + 1, h => by
    rw [swD_succ]
    by_cases e : a = k
    · subst e; exact ⟨[], by simp⟩
    · obtain ⟨r, hr⟩ := swD_split L d n a k (by omega)
      exact ⟨r ++ swR L d k n, by rw [hr]; simp⟩
theorem swR_split (L : Lts) (d : List Nat) (a b : Nat) (hab : a < b) (hok : okSw L d a b = true) : ∀ k, b < k → ∃ r, swR L d a k = swR L d a b ++ ((a, b) :: r)
  | 0, h => by omega
  | k + 1, h => by
    rw [swR_succ]
    by_cases e : b = k
    · subst e; exact ⟨[], by rw [if_pos ⟨hab, hok⟩]⟩
    · obtain ⟨r, hr⟩ := swR_split L d a b hab hok k (by omega)
      exact ⟨r ++ _, by rw [hr, List.append_assoc, List.cons_append]⟩
theorem swD_at (L : Lts) (d : List Nat) {n a b : Nat} (hab : a < b) (hb : b < n) (hok : okSw L d a b = true) : (swD L d n n)[(swD L d n a).length + (swR L d a b).length]? = some (a, b) := by
  obtain ⟨r, hr⟩ := swD_split L d n a n (by omega)
  obtain ⟨r', hr'⟩ := swR_split L d a b hab hok n hb
  rw [hr, hr', List.getElem?_append_right (by omega)]
  rw [show (swD L d n a).length + (swR L d a b).length - (swD L d n a).length = (swR L d a b).length by omega]
  rw [List.append_assoc, List.getElem?_append_right (by omega)]
  simp
theorem swR_low (L : Lts) (d : List Nat) (a : Nat) : ∀ k, k ≤ a + 1 → swR L d a k = []
  | 0, _ => rfl
  | k + 1, h => by rw [swR_succ, swR_low L d a k (by omega), if_neg (by omega)]; rfl
theorem swR_len (L : Lts) (d : List Nat) (a k : Nat) : (swR L d a k).length ≤ k := by
  unfold swR
  rw [List.length_map]
  exact Nat.le_trans (List.length_filter_le _ _) (by simp)
theorem swD_len (L : Lts) (d : List Nat) (n : Nat) : ∀ k, (swD L d n k).length ≤ k * n
  | 0 => by simp [swD]
  | k + 1 => by
    rw [swD_succ, List.length_append, Nat.add_mul]
    have h1 := swD_len L d n k
    have h2 := swR_len L d k n
    omega
theorem swD_mem (L : Lts) (d : List Nat) {n a b : Nat} (hab : a < b) (hb : b < n) (hok : okSw L d a b = true) : (a, b) ∈ swD L d n n := by
  have h := swD_at L d hab hb hok
  obtain ⟨hl, e⟩ := List.getElem?_eq_some_iff.1 h
  rw [← e]; exact List.getElem_mem _
end Go.Lot
namespace Go.Proofs.Ytocnkdkgajdejaa.G
open Go.V Go.Lot
/-- Who are alike can change places. -/
theorem alike_ok {L : Lts} (hn : L.n ≤ 8) {d : List Nat} {a b : Nat} (pd : Perm0 L.n d) (ha : a < L.n) (hb : b < L.n) (wd : wrong L d = none) (e : man L (d.getD a 0) = man L (d.getD b 0)) : wrong L (swp d a b) = none := by
  have ha' : a < d.length := by rw [pd.len]; exact ha
  have hb' : b < d.length := by rw [pd.len]; exact hb
  have ps := pd.swp ha hb
  have key : ∀ i, man L ((swp d a b).getD i 0) = man L (d.getD i 0) := by
    intro i
    rw [swp_at ha' hb']
    by_cases h1 : i = b
    · subst h1; rw [if_pos rfl, e]
    · rw [if_neg h1]
      by_cases h2 : i = a
      · subst h2; rw [if_pos rfl, e]
      · rw [if_neg h2]
  have hcl := wrong_none.1 wd
  refine wrong_none.2 fun i hi => ?_
  rw [swp_len] at hi
  have h1 := hcl i hi
  have h2 : brk L i ((swp d a b).getD i 0) (prev (swp d a b) i) = brk L i (d.getD i 0) (prev d i) := by
    unfold brk r1 r2 r3
    rw [key i]
    unfold prev
    by_cases h0 : i = 0
    · rw [if_pos h0, if_pos h0]
    · rw [if_neg h0, if_neg h0, key (i - 1)]
      have q1 := perm_get ps (show i - 1 < L.n by rw [pd.len] at hi; omega)
      have q2 := perm_get pd (show i - 1 < L.n by rw [pd.len] at hi; omega)
      have q3 : (swp d a b).getD (i - 1) 0 ≠ 8 := by omega
      have q4 : d.getD (i - 1) 0 ≠ 8 := by omega
      rw [decide_eq_true q3, decide_eq_true q4]
  rw [h2]; exact h1
end Go.Proofs.Ytocnkdkgajdejaa.G

/- More of the functions' shallow texts, by gen.py. -/
set_option linter.unusedVariables false
set_option maxRecDepth 100000
namespace Go.Proofs.Ytocnkdkgajdejaa.G
open Go.V
def an_9 : Nat → Ann := fun b => match b with
  | 0 => { ms := [4, 11, 68], ks := [.b, .i .i64, .i .i64], us := [2, 7, 9, 67, 173], rt := false, ex := [] }
  | 2 => { ms := [4, 11, 13], ks := [.b, .i .i64, .i .i64], us := [2, 7, 9, 12, 67, 68, 173], rt := false, ex := [] }
  | 4 => { ms := [18, 146], ks := [.b, .i .i64], us := [2, 4, 7, 9, 11, 12, 13, 17, 67, 68, 144, 145, 173], rt := false, ex := [] }
  | _ => {}
abbrev rv_9 : List ResultVar := [.tmp 4]
abbrev rs_9 : List Nat := [173, 4]
def L_law03_LotSwaps_0 (W : World) (R : Ending → Hp → Prop) (za0 : Addr) (zp1 : Option Addr) (zl2 : Nat) (zl3 : Nat) (zp4 : Option Addr) (zl5 : Nat) (zl6 : Nat) (zn7 : Int) (b79 : Bool) (n80 : Int) (n81 : Int) : Hp → Prop :=
  LOOPN [.b, .i .i64, .i .i64] (fun ys next s => ∀ j : Tm, vc Pg W 173 rs_9 an_9 false (sub (bodyOf Try.f9) [1, 1, 1, 1, 1, 1, 1, 1, 1, 0, 1, 0, 0]) 0 (KLoop [4, 11, 68] [2, 7, 9, 67, 173] [(.pointer (some za0)), (.slice zp1 zl2 zl3), (.slice zp4 zl5 zl6), (.int .i64 zn7), (.tuple #[])] next (KBlk 0 (KS Pg W 173 rs_9 an_9 false (sub (bodyOf Try.f9) [1, 1, 1, 1, 1, 1, 1, 1, 1, 1]) 0 (fin Pg W 173 rv_9 R)))) (known [4, 11, 68] ys (known [2, 7, 9, 67, 173] [(.pointer (some za0)), (.slice zp1 zl2 zl3), (.slice zp4 zl5 zl6), (.int .i64 zn7), (.tuple #[])] j)) s) [(.bool b79), (.int .i64 n80), (.int .i64 n81)]
def L_law03_LotSwaps_1 (W : World) (R : Ending → Hp → Prop) (nx0 : List Value → Hp → Prop) (za0 : Addr) (zp1 : Option Addr) (zl2 : Nat) (zl3 : Nat) (zp4 : Option Addr) (zl5 : Nat) (zl6 : Nat) (zn7 : Int) (zn8 : Int) (b85 : Bool) (n86 : Int) (n87 : Int) : Hp → Prop :=
  LOOPN [.b, .i .i64, .i .i64] (fun ys next s => ∀ j : Tm, vc Pg W 173 rs_9 an_9 false (sub (bodyOf Try.f9) [1, 1, 1, 1, 1, 1, 1, 1, 1, 0, 1, 0, 0, 1, 1, 0, 0, 1, 1, 0, 0]) 2 (KLoop [4, 11, 13] [2, 7, 9, 12, 67, 68, 173] [(.pointer (some za0)), (.slice zp1 zl2 zl3), (.slice zp4 zl5 zl6), (.int .i64 zn7), (.int .i64 zn8), (.int .i64 zn7), (.tuple #[])] next (KBlk 2 (KBlk 1 (KS Pg W 173 rs_9 an_9 false (sub (bodyOf Try.f9) [1, 1, 1, 1, 1, 1, 1, 1, 1, 0, 1, 0, 0, 1, 1, 1]) 0 (KLoop [4, 11, 68] [2, 7, 9, 67, 173] [(.pointer (some za0)), (.slice zp1 zl2 zl3), (.slice zp4 zl5 zl6), (.int .i64 zn8), (.tuple #[])] nx0 (KBlk 0 (KS Pg W 173 rs_9 an_9 false (sub (bodyOf Try.f9) [1, 1, 1, 1, 1, 1, 1, 1, 1, 1]) 0 (fin Pg W 173 rv_9 R)))))))) (known [4, 11, 13] ys (known [2, 7, 9, 12, 67, 68, 173] [(.pointer (some za0)), (.slice zp1 zl2 zl3), (.slice zp4 zl5 zl6), (.int .i64 zn7), (.int .i64 zn8), (.int .i64 zn7), (.tuple #[])] j)) s) [(.bool b85), (.int .i64 n86), (.int .i64 n87)]
def L_law03_LotSwaps_2 (W : World) (R : Ending → Hp → Prop) (nx0 : List Value → Hp → Prop) (nx1 : List Value → Hp → Prop) (za0 : Addr) (zb1 : Bool) (zp2 : Option Addr) (zl3 : Nat) (zl4 : Nat) (zp5 : Option Addr) (zl6 : Nat) (zl7 : Nat) (zn8 : Int) (zn9 : Int) (zn10 : Int) (zn11 : Int) (zn12 : Int) (zp13 : Option Addr) (zl14 : Nat) (zl15 : Nat) (zn16 : Int) (b143 : Bool) (n144 : Int) : Hp → Prop :=
  LOOPN [.b, .i .i64] (fun ys next s => ∀ j : Tm, vc Pg W 173 rs_9 an_9 false (sub (bodyOf Try.f9) [1, 1, 1, 1, 1, 1, 1, 1, 1, 0, 1, 0, 0, 1, 1, 0, 0, 1, 1, 0, 0, 1, 0, 0, 1, 1, 1, 1, 1, 1, 1, 1, 1, 0, 1, 0, 0]) 4 (KLoop [18, 146] [2, 4, 7, 9, 11, 12, 13, 17, 67, 68, 144, 145, 173] [(.pointer (some za0)), (.bool zb1), (.slice zp2 zl3 zl4), (.slice zp5 zl6 zl7), (.int .i64 zn8), (.int .i64 zn9), (.int .i64 zn10), (.int .i64 zn11), (.int .i64 zn12), (.int .i64 zn9), (.slice zp13 zl14 zl15), (.int .i64 zn16), (.tuple #[])] next (KBlk 4 (KS Pg W 173 rs_9 an_9 false (sub (bodyOf Try.f9) [1, 1, 1, 1, 1, 1, 1, 1, 1, 0, 1, 0, 0, 1, 1, 0, 0, 1, 1, 0, 0, 1, 0, 0, 1, 1, 1, 1, 1, 1, 1, 1, 1, 1]) 3 (KBlk 3 (KS Pg W 173 rs_9 an_9 false (sub (bodyOf Try.f9) [1, 1, 1, 1, 1, 1, 1, 1, 1, 0, 1, 0, 0, 1, 1, 0, 0, 1, 1, 0, 0, 1, 1]) 2 (KLoop [4, 11, 13] [2, 7, 9, 12, 67, 68, 173] [(.pointer (some za0)), (.slice zp2 zl3 zl4), (.slice zp5 zl6 zl7), (.int .i64 zn9), (.int .i64 zn12), (.int .i64 zn9), (.tuple #[])] nx1 (KBlk 2 (KBlk 1 (KS Pg W 173 rs_9 an_9 false (sub (bodyOf Try.f9) [1, 1, 1, 1, 1, 1, 1, 1, 1, 0, 1, 0, 0, 1, 1, 1]) 0 (KLoop [4, 11, 68] [2, 7, 9, 67, 173] [(.pointer (some za0)), (.slice zp2 zl3 zl4), (.slice zp5 zl6 zl7), (.int .i64 zn12), (.tuple #[])] nx0 (KBlk 0 (KS Pg W 173 rs_9 an_9 false (sub (bodyOf Try.f9) [1, 1, 1, 1, 1, 1, 1, 1, 1, 1]) 0 (fin Pg W 173 rv_9 R))))))))))))) (known [18, 146] ys (known [2, 4, 7, 9, 11, 12, 13, 17, 67, 68, 144, 145, 173] [(.pointer (some za0)), (.bool zb1), (.slice zp2 zl3 zl4), (.slice zp5 zl6 zl7), (.int .i64 zn8), (.int .i64 zn9), (.int .i64 zn10), (.int .i64 zn11), (.int .i64 zn12), (.int .i64 zn9), (.slice zp13 zl14 zl15), (.int .i64 zn16), (.tuple #[])] j)) s) [(.bool b143), (.int .i64 n144)]
def J_law03_LotSwaps_0 (W : World) (R : Ending → Hp → Prop) (b49 : Bool) (B6 : Nat) (x43 : Option Addr) (l44 : Nat) (c45 : Nat) : Hp → Prop :=
  BR b49
    (R (.returned (.bool false)))
    (RDL (Addr.add ⟨B6, 0, none⟩ 0) fun x50 l51 c52 =>
      RDI .i64 (Addr.add ⟨B6, 0, none⟩ 1) fun n53 =>
        CALL Pg W F_lot_Swaps [(.agg #[(.slice x50 l51 c52), (.int .i64 n53)]), (.slice x43 l44 c45)]
          (fun v54 => TUP v54 fun q56 => HD q56 fun v57 r58 => TYL v57 fun x59 l60 c61 =>
            HD r58 fun v62 r63 => TYI .i64 v62 fun n64 =>
              NL r63 <|
                BR (n64 != 0)
                  (R (.returned (.bool false)))
                  (L_law03_LotSwaps_0 W R ⟨B6, 0, none⟩ x43 l44 c45 x59 l60 c61 (↑l44 : Int) false 0 0))
            (fun e55 => R (.panicked e55)))
def J_law03_LotSwaps_1 (W : World) (R : Ending → Hp → Prop) (b14 : Bool) (B6 : Nat) (n5 : Int) : Hp → Prop :=
  BR b14
    (CALL Pg W F_law03_awake []
      (fun v15 => TYB v15 fun b17 =>
        R (.returned (.bool b17)))
        (fun e16 => R (.panicked e16)))
    (RDL (Addr.add ⟨B6, 0, none⟩ 0) fun x18 l19 c20 =>
      RDI .i64 (Addr.add ⟨B6, 0, none⟩ 1) fun n21 =>
        CALL Pg W F_lot_Count [(.agg #[(.slice x18 l19 c20), (.int .i64 n21)])]
          (fun v22 => TUP v22 fun q24 => HD q24 fun v25 r26 => TYI .i64 v25 fun n27 =>
            HD r26 fun v28 r29 => TYI .i64 v28 fun n30 =>
              NL r29 <|
                BR (decide (n27 ≤ 0))
                  (BR (n27 == 0)
                    (CALL Pg W F_law03_awake []
                      (fun v31 => TYB v31 fun b33 =>
                        R (.returned (.bool b33)))
                        (fun e32 => R (.panicked e32)))
                    (R (.returned (.bool false))))
                  (RDL (Addr.add ⟨B6, 0, none⟩ 0) fun x34 l35 c36 =>
                    RDI .i64 (Addr.add ⟨B6, 0, none⟩ 1) fun n37 =>
                      NZI n27 <|
                        CALL Pg W F_lot_Nth [(.agg #[(.slice x34 l35 c36), (.int .i64 n37)]), (.int .i64 (Int.tmod (IntKind.wrap .i64 n5) n27))]
                          (fun v38 => TUP v38 fun q40 => HD q40 fun v41 r42 => TYL v41 fun x43 l44 c45 =>
                            HD r42 fun v46 r47 => TYI .i64 v46 fun n48 =>
                              NL r47 <|
                                BR (n48 != 0)
                                  (J_law03_LotSwaps_0 W R true B6 x43 l44 c45)
                                  (RDL (Addr.add ⟨B6, 0, none⟩ 0) fun x65 l66 c67 =>
                                    RDI .i64 (Addr.add ⟨B6, 0, none⟩ 1) fun n68 =>
                                      CALL Pg W F_ref03_Full [(.agg #[(.slice x65 l66 c67), (.int .i64 n68)]), (.slice x43 l44 c45)]
                                        (fun v69 => TYB v69 fun b71 =>
                                          J_law03_LotSwaps_0 W R (!b71) B6 x43 l44 c45)
                                          (fun e70 => R (.panicked e70))))
                            (fun e39 => R (.panicked e39))))
            (fun e23 => R (.panicked e23)))
def J_law03_LotSwaps_2 (W : World) (R : Ending → Hp → Prop) (b124 : Bool) (za0 : Addr) (x89 : Option Addr) (l90 : Nat) (c91 : Nat) (nx0 : List Value → Hp → Prop) (nx1 : List Value → Hp → Prop) (b85 : Bool) (zp1 : Option Addr) (zl2 : Nat) (zl3 : Nat) (zp4 : Option Addr) (zl5 : Nat) (zl6 : Nat) (n86 : Int) (zn7 : Int) (n87 : Int) (zn8 : Int) : Hp → Prop :=
  BR b124
    (R (.returned (.bool false)))
    (RDL (Addr.add za0 0) fun x125 l126 c127 =>
      RDI .i64 (Addr.add za0 1) fun n128 =>
        CALL Pg W F_lot_Swaps [(.agg #[(.slice x125 l126 c127), (.int .i64 n128)]), (.slice x89 l90 c91)]
          (fun v129 => TUP v129 fun q131 => HD q131 fun v132 r133 => TYL v132 fun x134 l135 c136 =>
            HD r133 fun v137 r138 => TYI .i64 v137 fun n139 =>
              NL r138 <|
                L_law03_LotSwaps_2 W R nx0 nx1 za0 b85 zp1 zl2 zl3 zp4 zl5 zl6 (IntKind.wrap .i64 (n86 + 1)) zn7 n87 n139 zn8 x134 l135 c136 (↑l135 : Int) false 0)
            (fun e130 => R (.panicked e130)))
def J_law03_LotSwaps_3 (W : World) (R : Ending → Hp → Prop) (b123 : Bool) (b104 : Bool) (za0 : Addr) (zp1 : Option Addr) (zl2 : Nat) (zl3 : Nat) (zp4 : Option Addr) (zl5 : Nat) (zl6 : Nat) (zn7 : Int) (zn8 : Int) (nx1 : List Value → Hp → Prop) (b85 : Bool) (n86 : Int) (n87 : Int) (x89 : Option Addr) (l90 : Nat) (c91 : Nat) (nx0 : List Value → Hp → Prop) : Hp → Prop :=
  BR b123
    (R (.returned (.bool false)))
    (BR (!b104)
      (NX [(.pointer (some za0)), (.slice zp1 zl2 zl3), (.slice zp4 zl5 zl6), (.int .i64 zn7), (.int .i64 zn8), (.int .i64 zn7), (.tuple #[])] [(.pointer (some za0)), (.slice zp1 zl2 zl3), (.slice zp4 zl5 zl6), (.int .i64 zn7), (.int .i64 zn8), (.int .i64 zn7), (.tuple #[])] (nx1 [(.bool b85), (.int .i64 n86), (.int .i64 (IntKind.wrap .i64 (n87 + 1)))]))
      (BR (decide (n86 ≥ (↑zl5 : Int)))
        (J_law03_LotSwaps_2 W R true za0 x89 l90 c91 nx0 nx1 b85 zp1 zl2 zl3 zp4 zl5 zl6 n86 zn7 n87 zn8)
        (IXS zp4 zl5 n86 2 fun a140 =>
          RDI .i64 (Addr.add a140 0) fun n141 =>
            RDI .i64 (Addr.add a140 1) fun n142 =>
              J_law03_LotSwaps_2 W R (!((n141 == zn7) && (n142 == n87))) za0 x89 l90 c91 nx0 nx1 b85 zp1 zl2 zl3 zp4 zl5 zl6 n86 zn7 n87 zn8)))
def J_law03_LotSwaps_4 (W : World) (R : Ending → Hp → Prop) (za0 : Addr) (zb1 : Bool) (zp2 : Option Addr) (zl3 : Nat) (zl4 : Nat) (zp5 : Option Addr) (zl6 : Nat) (zl7 : Nat) (zn8 : Int) (zn9 : Int) (zn10 : Int) (zn11 : Int) (zn12 : Int) (zp13 : Option Addr) (zl14 : Nat) (zl15 : Nat) (zn16 : Int) (nx2 : List Value → Hp → Prop) (b149 : Bool) (n144 : Int) : Hp → Prop :=
  NX [(.pointer (some za0)), (.bool zb1), (.slice zp2 zl3 zl4), (.slice zp5 zl6 zl7), (.int .i64 zn8), (.int .i64 zn9), (.int .i64 zn10), (.int .i64 zn11), (.int .i64 zn12), (.int .i64 zn9), (.slice zp13 zl14 zl15), (.int .i64 zn16), (.tuple #[])] [(.pointer (some za0)), (.bool zb1), (.slice zp2 zl3 zl4), (.slice zp5 zl6 zl7), (.int .i64 zn8), (.int .i64 zn9), (.int .i64 zn10), (.int .i64 zn11), (.int .i64 zn12), (.int .i64 zn9), (.slice zp13 zl14 zl15), (.int .i64 zn16), (.tuple #[])] (nx2 [(.bool b149), (.int .i64 (IntKind.wrap .i64 (n144 + 1)))])
def J_law03_LotSwaps_5 (W : World) (R : Ending → Hp → Prop) (b152 : Bool) (za0 : Addr) (zp2 : Option Addr) (zl3 : Nat) (zl4 : Nat) (zp5 : Option Addr) (zl6 : Nat) (zl7 : Nat) (zn9 : Int) (zn12 : Int) (nx1 : List Value → Hp → Prop) (zb1 : Bool) (zn8 : Int) (zn10 : Int) : Hp → Prop :=
  BR b152
    (R (.returned (.bool false)))
    (NX [(.pointer (some za0)), (.slice zp2 zl3 zl4), (.slice zp5 zl6 zl7), (.int .i64 zn9), (.int .i64 zn12), (.int .i64 zn9), (.tuple #[])] [(.pointer (some za0)), (.slice zp2 zl3 zl4), (.slice zp5 zl6 zl7), (.int .i64 zn9), (.int .i64 zn12), (.int .i64 zn9), (.tuple #[])] (nx1 [(.bool zb1), (.int .i64 zn8), (.int .i64 (IntKind.wrap .i64 (zn10 + 1)))]))
def B_law03_LotSwaps_0 (W : World) (R : Ending → Hp → Prop) (za0 : Addr) (zp1 : Option Addr) (zl2 : Nat) (zl3 : Nat) (zp4 : Option Addr) (zl5 : Nat) (zl6 : Nat) (zn7 : Int) (b79 : Bool) (n80 : Int) (n81 : Int) (nx0 : List Value → Hp → Prop) : Hp → Prop :=
  BR (decide (n81 < zn7))
    (L_law03_LotSwaps_1 W R nx0 za0 zp1 zl2 zl3 zp4 zl5 zl6 n81 zn7 b79 n80 (IntKind.wrap .i64 (n81 + 1)))
    (BR (n80 == (↑zl5 : Int))
      (CALL Pg W F_law03_awake []
        (fun v82 => TYB v82 fun b84 =>
          R (.returned (.bool b84)))
          (fun e83 => R (.panicked e83)))
      (R (.returned (.bool false))))
theorem B_law03_LotSwaps_0_eq (W : World) (R : Ending → Hp → Prop) (za0 : Addr) (zp1 : Option Addr) (zl2 : Nat) (zl3 : Nat) (zp4 : Option Addr) (zl5 : Nat) (zl6 : Nat) (zn7 : Int) (b79 : Bool) (n80 : Int) (n81 : Int) (nx0 : List Value → Hp → Prop) (j : Tm) : vc Pg W 173 rs_9 an_9 false (sub (bodyOf Try.f9) [1, 1, 1, 1, 1, 1, 1, 1, 1, 0, 1, 0, 0]) 0 (KLoop [4, 11, 68] [2, 7, 9, 67, 173] [(.pointer (some za0)), (.slice zp1 zl2 zl3), (.slice zp4 zl5 zl6), (.int .i64 zn7), (.tuple #[])] nx0 (KBlk 0 (KS Pg W 173 rs_9 an_9 false (sub (bodyOf Try.f9) [1, 1, 1, 1, 1, 1, 1, 1, 1, 1]) 0 (fin Pg W 173 rv_9 R)))) (known [4, 11, 68] [(.bool b79), (.int .i64 n80), (.int .i64 n81)] (known [2, 7, 9, 67, 173] [(.pointer (some za0)), (.slice zp1 zl2 zl3), (.slice zp4 zl5 zl6), (.int .i64 zn7), (.tuple #[])] j)) = B_law03_LotSwaps_0 W R za0 zp1 zl2 zl3 zp4 zl5 zl6 zn7 b79 n80 n81 nx0 := by kernel_rfl
def N_law03_LotSwaps_0 (I : Bool → Int → Int → Hp → Prop) (μ : Bool → Int → Int → Hp → Nat) (b790 : Bool) (n800 : Int) (n810 : Int) (s : Hp) (vs : List Value) : Hp → Prop := fun s' => ∃ b79 n80 n81, vs = [(.bool b79), (.int .i64 n80), (.int .i64 n81)] ∧ I b79 n80 n81 s' ∧ μ b79 n80 n81 s' < μ b790 n800 n810 s
theorem L_law03_LotSwaps_0_rule (W : World) (R : Ending → Hp → Prop) (za0 : Addr) (zp1 : Option Addr) (zl2 : Nat) (zl3 : Nat) (zp4 : Option Addr) (zl5 : Nat) (zl6 : Nat) (zn7 : Int) (I : Bool → Int → Int → Hp → Prop) (μ : Bool → Int → Int → Hp → Nat) (b790 : Bool) (n800 : Int) (n810 : Int) (s : Hp) (h0 : I b790 n800 n810 s)
    (hr : ∀ (b79 : Bool) (n80 : Int) (n81 : Int) (s : Hp), I b79 n80 n81 s → B_law03_LotSwaps_0 W R za0 zp1 zl2 zl3 zp4 zl5 zl6 zn7 b79 n80 n81 (fun vs => N_law03_LotSwaps_0 I μ b79 n80 n81 s vs) s) : L_law03_LotSwaps_0 W R za0 zp1 zl2 zl3 zp4 zl5 zl6 zn7 b790 n800 n810 s := by
  refine ⟨fun vs s => ∃ b79 n80 n81, vs = [(.bool b79), (.int .i64 n80), (.int .i64 n81)] ∧ I b79 n80 n81 s, fun vs s => (match vs with | [.bool b79, .int _ n80, .int _ n81] => μ b79 n80 n81 s | _ => 0), ⟨⟨⟨_, rfl⟩, ⟨⟨_, rfl⟩, ⟨⟨_, rfl⟩, trivial⟩⟩⟩, ⟨_, _, _, rfl, h0⟩⟩, ?_⟩
  intro b79 n80 n81 s hI j
  obtain ⟨b79', n80', n81', hy, hI⟩ := hI
  have hI' : I b79 n80 n81 s := by cases hy; exact hI
  have hh := hr b79 n80 n81 s hI'
  rw [← B_law03_LotSwaps_0_eq W R za0 zp1 zl2 zl3 zp4 zl5 zl6 zn7 b79 n80 n81 _ j] at hh
  refine vc_mono ?_ _ _ hh
  exact KLoop_mono (fun vs s' h => by obtain ⟨b791, n801, n811, rfl, h1, h2⟩ := h; exact ⟨⟨⟨_, rfl⟩, ⟨⟨_, rfl⟩, ⟨⟨_, rfl⟩, trivial⟩⟩⟩, ⟨_, _, _, rfl, h1⟩, h2⟩)
def B_law03_LotSwaps_1 (W : World) (R : Ending → Hp → Prop) (nx0 : List Value → Hp → Prop) (za0 : Addr) (zp1 : Option Addr) (zl2 : Nat) (zl3 : Nat) (zp4 : Option Addr) (zl5 : Nat) (zl6 : Nat) (zn7 : Int) (zn8 : Int) (b85 : Bool) (n86 : Int) (n87 : Int) (nx1 : List Value → Hp → Prop) : Hp → Prop :=
  BR (decide (n87 < (↑zl2 : Int)))
    (NEW 3 [] fun B88 =>
      APP Pg 3 1 (some ⟨B88, 0, none⟩) 0 0 zp1 zl2 fun x89 l90 c91 =>
        IXS zp1 zl2 n87 1 fun a92 =>
          RDI .i64 a92 fun n93 =>
            IXS zp1 zl2 zn7 1 fun a94 =>
              RDI .i64 a94 fun n95 =>
                IXS x89 l90 zn7 1 fun a96 =>
                  WR (Addr.add a96 0) (.int .i64 n93) <|
                    IXS x89 l90 n87 1 fun a97 =>
                      WR (Addr.add a97 0) (.int .i64 n95) <|
                        RDL (Addr.add za0 0) fun x98 l99 c100 =>
                          RDI .i64 (Addr.add za0 1) fun n101 =>
                            CALL Pg W F_law03_lawful [(.agg #[(.slice x98 l99 c100), (.int .i64 n101)]), (.slice x89 l90 c91)]
                              (fun v102 => TYB v102 fun b104 =>
                                RDL (Addr.add za0 0) fun x105 l106 c107 =>
                                  IXS zp1 zl2 zn7 1 fun a108 =>
                                    RDI .i64 a108 fun n109 =>
                                      IXS x105 l106 n109 3 fun a110 =>
                                        RDI .i64 (Addr.add a110 0) fun n111 =>
                                          RDB (Addr.add a110 1) fun b112 =>
                                            RDB (Addr.add a110 2) fun b113 =>
                                              RDL (Addr.add za0 0) fun x114 l115 c116 =>
                                                IXS zp1 zl2 n87 1 fun a117 =>
                                                  RDI .i64 a117 fun n118 =>
                                                    IXS x114 l115 n118 3 fun a119 =>
                                                      RDI .i64 (Addr.add a119 0) fun n120 =>
                                                        RDB (Addr.add a119 1) fun b121 =>
                                                          RDB (Addr.add a119 2) fun b122 =>
                                                            BR ((n111 == n120) && ((b112 == b121) && (b113 == b122)))
                                                              (J_law03_LotSwaps_3 W R (!b104) b104 za0 zp1 zl2 zl3 zp4 zl5 zl6 zn7 zn8 nx1 b85 n86 n87 x89 l90 c91 nx0)
                                                              (J_law03_LotSwaps_3 W R false b104 za0 zp1 zl2 zl3 zp4 zl5 zl6 zn7 zn8 nx1 b85 n86 n87 x89 l90 c91 nx0))
                                (fun e103 => R (.panicked e103)))
    (NX [(.pointer (some za0)), (.slice zp1 zl2 zl3), (.slice zp4 zl5 zl6), (.int .i64 zn8), (.tuple #[])] [(.pointer (some za0)), (.slice zp1 zl2 zl3), (.slice zp4 zl5 zl6), (.int .i64 zn8), (.tuple #[])] (nx0 [(.bool b85), (.int .i64 n86), (.int .i64 (IntKind.wrap .i64 (zn7 + 1)))]))
theorem B_law03_LotSwaps_1_eq (W : World) (R : Ending → Hp → Prop) (nx0 : List Value → Hp → Prop) (za0 : Addr) (zp1 : Option Addr) (zl2 : Nat) (zl3 : Nat) (zp4 : Option Addr) (zl5 : Nat) (zl6 : Nat) (zn7 : Int) (zn8 : Int) (b85 : Bool) (n86 : Int) (n87 : Int) (nx1 : List Value → Hp → Prop) (j : Tm) : vc Pg W 173 rs_9 an_9 false (sub (bodyOf Try.f9) [1, 1, 1, 1, 1, 1, 1, 1, 1, 0, 1, 0, 0, 1, 1, 0, 0, 1, 1, 0, 0]) 2 (KLoop [4, 11, 13] [2, 7, 9, 12, 67, 68, 173] [(.pointer (some za0)), (.slice zp1 zl2 zl3), (.slice zp4 zl5 zl6), (.int .i64 zn7), (.int .i64 zn8), (.int .i64 zn7), (.tuple #[])] nx1 (KBlk 2 (KBlk 1 (KS Pg W 173 rs_9 an_9 false (sub (bodyOf Try.f9) [1, 1, 1, 1, 1, 1, 1, 1, 1, 0, 1, 0, 0, 1, 1, 1]) 0 (KLoop [4, 11, 68] [2, 7, 9, 67, 173] [(.pointer (some za0)), (.slice zp1 zl2 zl3), (.slice zp4 zl5 zl6), (.int .i64 zn8), (.tuple #[])] nx0 (KBlk 0 (KS Pg W 173 rs_9 an_9 false (sub (bodyOf Try.f9) [1, 1, 1, 1, 1, 1, 1, 1, 1, 1]) 0 (fin Pg W 173 rv_9 R)))))))) (known [4, 11, 13] [(.bool b85), (.int .i64 n86), (.int .i64 n87)] (known [2, 7, 9, 12, 67, 68, 173] [(.pointer (some za0)), (.slice zp1 zl2 zl3), (.slice zp4 zl5 zl6), (.int .i64 zn7), (.int .i64 zn8), (.int .i64 zn7), (.tuple #[])] j)) = B_law03_LotSwaps_1 W R nx0 za0 zp1 zl2 zl3 zp4 zl5 zl6 zn7 zn8 b85 n86 n87 nx1 := by kernel_rfl
def N_law03_LotSwaps_1 (I : Bool → Int → Int → Hp → Prop) (μ : Bool → Int → Int → Hp → Nat) (b850 : Bool) (n860 : Int) (n870 : Int) (s : Hp) (vs : List Value) : Hp → Prop := fun s' => ∃ b85 n86 n87, vs = [(.bool b85), (.int .i64 n86), (.int .i64 n87)] ∧ I b85 n86 n87 s' ∧ μ b85 n86 n87 s' < μ b850 n860 n870 s
theorem L_law03_LotSwaps_1_rule (W : World) (R : Ending → Hp → Prop) (nx0 : List Value → Hp → Prop) (za0 : Addr) (zp1 : Option Addr) (zl2 : Nat) (zl3 : Nat) (zp4 : Option Addr) (zl5 : Nat) (zl6 : Nat) (zn7 : Int) (zn8 : Int) (I : Bool → Int → Int → Hp → Prop) (μ : Bool → Int → Int → Hp → Nat) (b850 : Bool) (n860 : Int) (n870 : Int) (s : Hp) (h0 : I b850 n860 n870 s)
    (hr : ∀ (b85 : Bool) (n86 : Int) (n87 : Int) (s : Hp), I b85 n86 n87 s → B_law03_LotSwaps_1 W R nx0 za0 zp1 zl2 zl3 zp4 zl5 zl6 zn7 zn8 b85 n86 n87 (fun vs => N_law03_LotSwaps_1 I μ b85 n86 n87 s vs) s) : L_law03_LotSwaps_1 W R nx0 za0 zp1 zl2 zl3 zp4 zl5 zl6 zn7 zn8 b850 n860 n870 s := by
  refine ⟨fun vs s => ∃ b85 n86 n87, vs = [(.bool b85), (.int .i64 n86), (.int .i64 n87)] ∧ I b85 n86 n87 s, fun vs s => (match vs with | [.bool b85, .int _ n86, .int _ n87] => μ b85 n86 n87 s | _ => 0), ⟨⟨⟨_, rfl⟩, ⟨⟨_, rfl⟩, ⟨⟨_, rfl⟩, trivial⟩⟩⟩, ⟨_, _, _, rfl, h0⟩⟩, ?_⟩
  intro b85 n86 n87 s hI j
  obtain ⟨b85', n86', n87', hy, hI⟩ := hI
  have hI' : I b85 n86 n87 s := by cases hy; exact hI
  have hh := hr b85 n86 n87 s hI'
  rw [← B_law03_LotSwaps_1_eq W R nx0 za0 zp1 zl2 zl3 zp4 zl5 zl6 zn7 zn8 b85 n86 n87 _ j] at hh
  refine vc_mono ?_ _ _ hh
  exact KLoop_mono (fun vs s' h => by obtain ⟨b851, n861, n871, rfl, h1, h2⟩ := h; exact ⟨⟨⟨_, rfl⟩, ⟨⟨_, rfl⟩, ⟨⟨_, rfl⟩, trivial⟩⟩⟩, ⟨_, _, _, rfl, h1⟩, h2⟩)
def B_law03_LotSwaps_2 (W : World) (R : Ending → Hp → Prop) (nx0 : List Value → Hp → Prop) (nx1 : List Value → Hp → Prop) (za0 : Addr) (zb1 : Bool) (zp2 : Option Addr) (zl3 : Nat) (zl4 : Nat) (zp5 : Option Addr) (zl6 : Nat) (zl7 : Nat) (zn8 : Int) (zn9 : Int) (zn10 : Int) (zn11 : Int) (zn12 : Int) (zp13 : Option Addr) (zl14 : Nat) (zl15 : Nat) (zn16 : Int) (b143 : Bool) (n144 : Int) (nx2 : List Value → Hp → Prop) : Hp → Prop :=
  BR (decide (n144 < zn16))
    (IXS zp13 zl14 n144 2 fun a145 =>
      RDI .i64 (Addr.add a145 0) fun n146 =>
        RDI .i64 (Addr.add a145 1) fun n147 =>
          NEWZ Pg 57 fun B148 =>
            WR (Addr.add ⟨B148, 0, none⟩ 0) (.int .i64 n146) <|
              WR (Addr.add ⟨B148, 0, none⟩ 1) (.int .i64 n147) <|
                BR b143
                  (J_law03_LotSwaps_4 W R za0 zb1 zp2 zl3 zl4 zp5 zl6 zl7 zn8 zn9 zn10 zn11 zn12 zp13 zl14 zl15 zn16 nx2 true n144)
                  (RDI .i64 (Addr.add ⟨B148, 0, none⟩ 0) fun n150 =>
                    RDI .i64 (Addr.add ⟨B148, 0, none⟩ 1) fun n151 =>
                      J_law03_LotSwaps_4 W R za0 zb1 zp2 zl3 zl4 zp5 zl6 zl7 zn8 zn9 zn10 zn11 zn12 zp13 zl14 zl15 zn16 nx2 ((n150 == zn9) && (n151 == zn10)) n144))
    (BR (zn11 != 0)
      (J_law03_LotSwaps_5 W R true za0 zp2 zl3 zl4 zp5 zl6 zl7 zn9 zn12 nx1 zb1 zn8 zn10)
      (J_law03_LotSwaps_5 W R (!b143) za0 zp2 zl3 zl4 zp5 zl6 zl7 zn9 zn12 nx1 zb1 zn8 zn10))
theorem B_law03_LotSwaps_2_eq (W : World) (R : Ending → Hp → Prop) (nx0 : List Value → Hp → Prop) (nx1 : List Value → Hp → Prop) (za0 : Addr) (zb1 : Bool) (zp2 : Option Addr) (zl3 : Nat) (zl4 : Nat) (zp5 : Option Addr) (zl6 : Nat) (zl7 : Nat) (zn8 : Int) (zn9 : Int) (zn10 : Int) (zn11 : Int) (zn12 : Int) (zp13 : Option Addr) (zl14 : Nat) (zl15 : Nat) (zn16 : Int) (b143 : Bool) (n144 : Int) (nx2 : List Value → Hp → Prop) (j : Tm) : vc Pg W 173 rs_9 an_9 false (sub (bodyOf Try.f9) [1, 1, 1, 1, 1, 1, 1, 1, 1, 0, 1, 0, 0, 1, 1, 0, 0, 1, 1, 0, 0, 1, 0, 0, 1, 1, 1, 1, 1, 1, 1, 1, 1, 0, 1, 0, 0]) 4 (KLoop [18, 146] [2, 4, 7, 9, 11, 12, 13, 17, 67, 68, 144, 145, 173] [(.pointer (some za0)), (.bool zb1), (.slice zp2 zl3 zl4), (.slice zp5 zl6 zl7), (.int .i64 zn8), (.int .i64 zn9), (.int .i64 zn10), (.int .i64 zn11), (.int .i64 zn12), (.int .i64 zn9), (.slice zp13 zl14 zl15), (.int .i64 zn16), (.tuple #[])] nx2 (KBlk 4 (KS Pg W 173 rs_9 an_9 false (sub (bodyOf Try.f9) [1, 1, 1, 1, 1, 1, 1, 1, 1, 0, 1, 0, 0, 1, 1, 0, 0, 1, 1, 0, 0, 1, 0, 0, 1, 1, 1, 1, 1, 1, 1, 1, 1, 1]) 3 (KBlk 3 (KS Pg W 173 rs_9 an_9 false (sub (bodyOf Try.f9) [1, 1, 1, 1, 1, 1, 1, 1, 1, 0, 1, 0, 0, 1, 1, 0, 0, 1, 1, 0, 0, 1, 1]) 2 (KLoop [4, 11, 13] [2, 7, 9, 12, 67, 68, 173] [(.pointer (some za0)), (.slice zp2 zl3 zl4), (.slice zp5 zl6 zl7), (.int .i64 zn9), (.int .i64 zn12), (.int .i64 zn9), (.tuple #[])] nx1 (KBlk 2 (KBlk 1 (KS Pg W 173 rs_9 an_9 false (sub (bodyOf Try.f9) [1, 1, 1, 1, 1, 1, 1, 1, 1, 0, 1, 0, 0, 1, 1, 1]) 0 (KLoop [4, 11, 68] [2, 7, 9, 67, 173] [(.pointer (some za0)), (.slice zp2 zl3 zl4), (.slice zp5 zl6 zl7), (.int .i64 zn12), (.tuple #[])] nx0 (KBlk 0 (KS Pg W 173 rs_9 an_9 false (sub (bodyOf Try.f9) [1, 1, 1, 1, 1, 1, 1, 1, 1, 1]) 0 (fin Pg W 173 rv_9 R))))))))))))) (known [18, 146] [(.bool b143), (.int .i64 n144)] (known [2, 4, 7, 9, 11, 12, 13, 17, 67, 68, 144, 145, 173] [(.pointer (some za0)), (.bool zb1), (.slice zp2 zl3 zl4), (.slice zp5 zl6 zl7), (.int .i64 zn8), (.int .i64 zn9), (.int .i64 zn10), (.int .i64 zn11), (.int .i64 zn12), (.int .i64 zn9), (.slice zp13 zl14 zl15), (.int .i64 zn16), (.tuple #[])] j)) = B_law03_LotSwaps_2 W R nx0 nx1 za0 zb1 zp2 zl3 zl4 zp5 zl6 zl7 zn8 zn9 zn10 zn11 zn12 zp13 zl14 zl15 zn16 b143 n144 nx2 := by kernel_rfl
def N_law03_LotSwaps_2 (I : Bool → Int → Hp → Prop) (μ : Bool → Int → Hp → Nat) (b1430 : Bool) (n1440 : Int) (s : Hp) (vs : List Value) : Hp → Prop := fun s' => ∃ b143 n144, vs = [(.bool b143), (.int .i64 n144)] ∧ I b143 n144 s' ∧ μ b143 n144 s' < μ b1430 n1440 s
theorem L_law03_LotSwaps_2_rule (W : World) (R : Ending → Hp → Prop) (nx0 : List Value → Hp → Prop) (nx1 : List Value → Hp → Prop) (za0 : Addr) (zb1 : Bool) (zp2 : Option Addr) (zl3 : Nat) (zl4 : Nat) (zp5 : Option Addr) (zl6 : Nat) (zl7 : Nat) (zn8 : Int) (zn9 : Int) (zn10 : Int) (zn11 : Int) (zn12 : Int) (zp13 : Option Addr) (zl14 : Nat) (zl15 : Nat) (zn16 : Int) (I : Bool → Int → Hp → Prop) (μ : Bool → Int → Hp → Nat) (b1430 : Bool) (n1440 : Int) (s : Hp) (h0 : I b1430 n1440 s)
    (hr : ∀ (b143 : Bool) (n144 : Int) (s : Hp), I b143 n144 s → B_law03_LotSwaps_2 W R nx0 nx1 za0 zb1 zp2 zl3 zl4 zp5 zl6 zl7 zn8 zn9 zn10 zn11 zn12 zp13 zl14 zl15 zn16 b143 n144 (fun vs => N_law03_LotSwaps_2 I μ b143 n144 s vs) s) : L_law03_LotSwaps_2 W R nx0 nx1 za0 zb1 zp2 zl3 zl4 zp5 zl6 zl7 zn8 zn9 zn10 zn11 zn12 zp13 zl14 zl15 zn16 b1430 n1440 s := by
  refine ⟨fun vs s => ∃ b143 n144, vs = [(.bool b143), (.int .i64 n144)] ∧ I b143 n144 s, fun vs s => (match vs with | [.bool b143, .int _ n144] => μ b143 n144 s | _ => 0), ⟨⟨⟨_, rfl⟩, ⟨⟨_, rfl⟩, trivial⟩⟩, ⟨_, _, rfl, h0⟩⟩, ?_⟩
  intro b143 n144 s hI j
  obtain ⟨b143', n144', hy, hI⟩ := hI
  have hI' : I b143 n144 s := by cases hy; exact hI
  have hh := hr b143 n144 s hI'
  rw [← B_law03_LotSwaps_2_eq W R nx0 nx1 za0 zb1 zp2 zl3 zl4 zp5 zl6 zl7 zn8 zn9 zn10 zn11 zn12 zp13 zl14 zl15 zn16 b143 n144 _ j] at hh
  refine vc_mono ?_ _ _ hh
  exact KLoop_mono (fun vs s' h => by obtain ⟨b1431, n1441, rfl, h1, h2⟩ := h; exact ⟨⟨⟨_, rfl⟩, ⟨⟨_, rfl⟩, trivial⟩⟩, ⟨_, _, rfl, h1⟩, h2⟩)
def T_law03_LotSwaps (W : World) (x1 : Option Addr) (l2 : Nat) (c3 : Nat) (n4 : Int) (n5 : Int) (R : Ending → Hp → Prop) : Hp → Prop :=
  NEW 24 [(.slice x1 l2 c3), (.int .i64 n4)] fun B6 =>
    RDL (Addr.add ⟨B6, 0, none⟩ 0) fun x7 l8 c9 =>
      RDI .i64 (Addr.add ⟨B6, 0, none⟩ 1) fun n10 =>
        CALL Pg W F_law03_far [(.agg #[(.slice x7 l8 c9), (.int .i64 n10)]), (.slice none 0 0), (.int .i64 8)]
          (fun v11 => TYB v11 fun b13 =>
            BR b13
              (J_law03_LotSwaps_1 W R true B6 n5)
              (RDL (Addr.add ⟨B6, 0, none⟩ 0) fun x72 l73 c74 =>
                RDI .i64 (Addr.add ⟨B6, 0, none⟩ 1) fun n75 =>
                  CALL Pg W F_ref03_Lots [(.agg #[(.slice x72 l73 c74), (.int .i64 n75)])]
                    (fun v76 => TYB v76 fun b78 =>
                      J_law03_LotSwaps_1 W R (!b78) B6 n5)
                      (fun e77 => R (.panicked e77))))
            (fun e12 => R (.panicked e12))
theorem T_law03_LotSwaps_eq (W : World) (x1 : Option Addr) (l2 : Nat) (c3 : Nat) (n4 : Int) (n5 : Int) (R : Ending → Hp → Prop) : vfun Pg W an_9 Try.f9 [(.agg #[(.slice x1 l2 c3), (.int .i64 n4)]), (.int .u16 n5)] R = T_law03_LotSwaps W x1 l2 c3 n4 n5 R := by kernel_rfl
theorem does_law03_LotSwaps (W : World) (x1 : Option Addr) (l2 : Nat) (c3 : Nat) (n4 : Int) (n5 : Int) (R : Ending → Hp → Prop) (s : Hp) (h : T_law03_LotSwaps W x1 l2 c3 n4 n5 R s) : Does Pg W F_law03_LotSwaps #[(.agg #[(.slice x1 l2 c3), (.int .i64 n4)]), (.int .u16 n5)] s R :=
  does_of_vfun Pg W an_9 Try.func9 rfl (by kernel_rfl) (by rw [T_law03_LotSwaps_eq]; exact h)
end Go.Proofs.Ytocnkdkgajdejaa.G

/- The statement LotSwaps: who can change places. -/
set_option linter.unusedSimpArgs false
set_option linter.unusedVariables false
set_option maxRecDepth 20000
namespace Go.Proofs.Ytocnkdkgajdejaa.G
open Go.V Go.Lot
section
variable {W : World} {K : VK} {E : List PanicEntry → Hp → Prop} {s : Hp} {L : Lts}
theorem vals_oneC (d : List Nat) : ∀ v ∈ vals d, oneCell v = true := by
  intro v hv
  obtain ⟨m, _, rfl⟩ := List.mem_map.1 hv
  rfl
/-- A copy of a draw, in which two have changed places. -/
theorem copy_swap {x : Option Addr} {l a b : Nat} {d : List Nat} {KK : Option Addr → Nat → Nat → Hp → Prop} (hx : RowAt s x (vals d)) (hl : l = d.length) (ha : a < d.length) (hb : b < d.length) (h8 : d.length ≤ 100)
    (h : ∀ s' y c, Ext s s' → RowAt s' y (vals (swp d a b)) → KK y d.length c s') :
    (NEW 3 [] fun B88 => APP Pg 3 1 (some ⟨B88, 0, none⟩) 0 0 x l fun x89 l90 c91 => IXS x l (b : Int) 1 fun a92 => RDI .i64 a92 fun n93 => IXS x l (a : Int) 1 fun a94 => RDI .i64 a94 fun n95 =>
      IXS x89 l90 (a : Int) 1 fun a96 => WR (Addr.add a96 0) (.int .i64 n93) <| IXS x89 l90 (b : Int) 1 fun a97 => WR (Addr.add a97 0) (.int .i64 n95) <| KK x89 l90 c91) s := by
  subst hl
  have hvd : (vals d).length = d.length := vals_len d
  refine NEW_rule fun s1 e1 z1 n1 _ => ?_
  have f0 : Fr s.size s1 (some ⟨s.size, 0, none⟩) 0 0 1 [] := ⟨⟨by simp, fun i hi => by simp at hi⟩, by simp, (fun a h => by cases h; exact Nat.le_refl _), by omega⟩
  refine APP_fr (ws := vals d) f0 e1.1 (hx.ext e1) (by rw [hvd, Nat.mul_one]) zc_3 rfl (by omega) (vals_oneC d) (by omega) ?_
  intro s2 x2 c2 k2 g2 f2
  have e02 : Ext s s2 := ⟨Nat.le_trans e1.1 k2.1, fun q hq => by
    rw [k2.2 q (Nat.lt_of_lt_of_le hq e1.1) (fun ⟨a, h1, h2⟩ => by cases h1; have : s.size = q := h2; omega)]
    exact e1.2 q hq⟩
  rw [List.nil_append] at f2
  have hbuf := f2.buf
  rw [Nat.mul_one] at hbuf
  have hav : a < (vals d).length := by rw [hvd]; exact ha
  have hbv : b < (vals d).length := by rw [hvd]; exact hb
  have hx2 := hx.ext e02
  obtain ⟨p, hp, gb⟩ := hx2 b hbv
  obtain ⟨p', hp', ga⟩ := hx2 a hav
  rw [vals_get hbv] at gb
  rw [vals_get hav] at ga
  obtain ⟨y, hy, _⟩ := hbuf.own 0 (by have := hbuf.le; rw [hvd] at this; omega)
  subst hy
  have hfr : s.size ≤ y.block := f2.fr y rfl
  have ta : ((a : Int)).toNat = a := by omega
  have tb : ((b : Int)).toNat = b := by omega
  have ta1 : ((a : Int)).toNat * 1 = a := by omega
  have tb1 : ((b : Int)).toNat * 1 = b := by omega
  refine ⟨p, hp, ⟨by omega, by omega⟩, _, by rw [tb]; exact gb, p', hp', ⟨by omega, by omega⟩, _, by rw [ta]; exact ga, y, rfl, ⟨by omega, by omega⟩, ?_⟩
  rw [ta1]
  refine WR_own (hbuf.at hav) rfl ⟨y, rfl, ⟨by omega, by omega⟩, ?_⟩
  rw [tb1]
  have b1 := hbuf.set (v := .int .i64 ((d[b]'hb : Nat) : Int)) hav
  refine WR_own (b1.at (i := b) (by rw [List.length_set]; exact hbv)) rfl ?_
  have b2 := b1.set (i := b) (v := .int .i64 ((d[a]'ha : Nat) : Int)) (by rw [List.length_set]; exact hbv)
  rw [vals_set, vals_set] at b2
  have e : (d.set a (d[b]'hb)).set b (d[a]'ha) = swp d a b := by unfold swp; simp [List.getD, ha, hb]
  rw [e] at b2
  show KK (some y) (0 + d.length) c2 _
  rw [Nat.zero_add]
  exact h _ _ _ (Ext.setC (Ext.setC e02 (by rw [add_blk, add_blk]; exact hfr)) (by rw [add_blk, add_blk]; exact hfr)) b2.row
theorem c_SwapsN {x y : Option Addr} {c c' l : Nat} {d : List Nat} (hm : MenAt s x L.men) (hv : valid L = true) (h1 : Perm0 L.n d) (h2 : wrong L d = none) (hy : RowAt s y (vals d)) (hl : l = d.length)
    (h : ∀ s' z c, Ext s s' → RowAt s' z (pvals (swD L d L.n L.n)) → K (.tuple #[.slice z (swD L d L.n L.n).length c, .int .i64 0]) s') :
    CALL Pg W F_lot_Swaps [.agg #[.slice x L.n c, .int .i64 L.worst], .slice y l c'] K E s := by
  have hn := (vd_iff.1 hv).hi
  refine c_Swaps' (ds := d.map fun (n : Nat) => (n : Int)) hm (by rw [ints_vals]; exact hy) (by rw [List.length_map, h1.len]; omega) (by rw [List.length_map]; exact hl) (fun s' v e _ _ _ ho => ?_) (fun s' e he => ?_)
  · rw [map_back, swapsP_eq, h1.len] at ho
    obtain ⟨z, c, rfl, hr⟩ := ho
    exact h s' z c e hr
  · refine absurd ?_ he
    unfold errP
    rw [hv, if_pos rfl, if_pos (Perm0.ok h1), map_back, h2]

theorem w_LotSwaps {x : Option Addr} {c w : Nat} (hm : MenAt s x L.men) (hw : w ≤ 65535) (h : ∀ s', Ext s s' → K (.bool true) s') :
    CALL Pg W F_law03_LotSwaps [.agg #[.slice x L.n c, .int .i64 L.worst], .int .u16 w] K E s := by
  refine does_law03_LotSwaps W x L.n c L.worst w _ s ?_
  unfold T_law03_LotSwaps
  refine NEW_rule fun s1 e1 z1 n1 _ => ?_
  have c0 := (n1 0 _ rfl).cell
  have c1 := (n1 1 _ rfl).cell
  have aw : ∀ t, Ext s1 t → CALL Pg W F_law03_awake [] (fun v16 => TYB v16 fun b18 => (endK K E) (.returned (.bool b18))) (fun c17 => (endK K E) (.panicked c17)) t := fun t et => c_awake fun t' et' => h t' (e1.trans (et.trans et'))
  refine ⟨_, _, _, c0, _, c1, ?_⟩
  refine c_far (n := 8) (hm.ext e1) fun s2 bb e2 hb1 hb2 => ?_
  try simp only [TUP_mk, AGG_mk, HD_mk, NL_mk, TYI_mk, TYB_mk, TYP_mk, TYL_mk, TYS_mk, TYM_mk, SO_mk, NX_mk, endK_mk, endK_mk', add_0]
  unfold J_law03_LotSwaps_1
  refine BR_bool (fun hbb => aw s2 e2) (fun hbb => ?_)
  obtain ⟨hn30, _, hn8'⟩ := hb2 hbb
  refine ⟨_, _, _, e2.cell c0, _, e2.cell c1, ?_⟩
  have e02 := e1.trans e2
  refine f_Lots (hm.ext e02) (by omega) fun s3 e3 => ?_
  try simp only [TUP_mk, AGG_mk, HD_mk, NL_mk, TYI_mk, TYB_mk, TYP_mk, TYL_mk, TYS_mk, TYM_mk, SO_mk, NX_mk, endK_mk, endK_mk', add_0]
  have e13 := e2.trans e3
  have e03 := e1.trans e13
  refine BR_not (fun hv => aw s3 e13) (fun hv => ?_)
  have v := vd_iff.1 hv
  have hn8 := v.hi
  have hlo := v.lo
  refine ⟨_, _, _, e13.cell c0, _, e13.cell c1, ?_⟩
  refine c_Count (hm.ext e03) fun s4 e4 => ?_
  try simp only [TUP_mk, AGG_mk, HD_mk, NL_mk, TYI_mk, TYB_mk, TYP_mk, TYL_mk, TYS_mk, TYM_mk, SO_mk, NX_mk, endK_mk, endK_mk', add_0]
  have hcp : countP L = (((cntAll L anyC : Nat) : Int), 0) := by unfold countP; rw [hv]; rfl
  rw [hcp]
  have e14 := e13.trans e4
  dsimp only
  refine BR_dec (fun hN => ?_) (fun hN => ?_)
  · refine BR_eq (fun _ => aw s4 e14) (fun hh => absurd (by omega) hh)
  have hNp : 0 < cntAll L anyC := by omega
  have hww : IntKind.wrap .i64 (w : Int) = (w : Int) := wrap_i64 (by omega) (by omega)
  refine ⟨_, _, _, e14.cell c0, _, e14.cell c1, NZI_pos (by omega) ?_⟩
  rw [hww, mod_nat]
  have hkN : w % cntAll L anyC < cntAll L anyC := Nat.mod_lt _ hNp
  generalize w % cntAll L anyC = q at hkN ⊢
  refine c_Nth_some (hm.ext (e1.trans e14)) hv hkN fun s5 d yd cd e5 hd rd => ?_
  try simp only [TUP_mk, AGG_mk, HD_mk, NL_mk, TYI_mk, TYB_mk, TYP_mk, TYL_mk, TYS_mk, TYM_mk, SO_mk, NX_mk, endK_mk, endK_mk', add_0]
  have e15 := e14.trans e5
  obtain ⟨pd, wd, _⟩ := allD_at hn8 hd
  refine BR_ne (fun hh => absurd rfl hh) (fun _ => ?_)
  refine ⟨_, _, _, e15.cell c0, _, e15.cell c1, ?_⟩
  refine f_FullN pd rd rfl hn8 fun s6 e6 => ?_
  try simp only [TUP_mk, AGG_mk, HD_mk, NL_mk, TYI_mk, TYB_mk, TYP_mk, TYL_mk, TYS_mk, TYM_mk, SO_mk, NX_mk, endK_mk, endK_mk', add_0]
  have e16 := e15.trans e6
  have rd6 := rd.ext e6
  unfold J_law03_LotSwaps_0
  refine BR_not (fun hh => by cases hh) (fun _ => ?_)
  refine ⟨_, _, _, e16.cell c0, _, e16.cell c1, ?_⟩
  refine c_SwapsN (hm.ext (e1.trans e16)) hv pd wd rd6 rfl fun s7 ys cs e7 rs => ?_
  try simp only [TUP_mk, AGG_mk, HD_mk, NL_mk, TYI_mk, TYB_mk, TYP_mk, TYL_mk, TYS_mk, TYM_mk, SO_mk, NX_mk, endK_mk, endK_mk', add_0]
  have e17 := e16.trans e7
  have rd7 := rd6.ext e7
  refine BR_ne (fun hh => absurd rfl hh) (fun _ => ?_)
  have dlen := pd.len
  have hm7 := hm.ext (e1.trans e17)
  have hDl := swD_len L d L.n L.n
  have hD64 : L.n * L.n ≤ 8 * 8 := Nat.mul_le_mul hn8 hn8
  rw [dlen]
  refine L_law03_LotSwaps_0_rule W _ ⟨s.size, 0, none⟩ yd L.n cd ys (swD L d L.n L.n).length cs L.n (fun _ n1 n2 t => Ext s7 t ∧ ∃ a : Nat, a ≤ L.n ∧ n2 = a ∧ n1 = ((swD L d L.n a).length : Nat)) (fun _ _ n _ => (L.n - n).toNat) false 0 0 s7 ⟨Ext.refl _, 0, by omega, rfl, rfl⟩ ?_
  rintro b79 n1 n2 t ⟨et, a, ha, rfl, rfl⟩
  unfold B_law03_LotSwaps_0
  refine BR_dec (fun h1 => ?_) (fun h1 => ?_)
  · have hwa : IntKind.i64.wrap ((a : Int) + 1) = ((a + 1 : Nat) : Int) := by rw [wrap_i64 (by omega) (by omega)]; rfl
    rw [hwa]
    have hal : a < L.n := by omega
    refine L_law03_LotSwaps_1_rule W _ _ ⟨s.size, 0, none⟩ yd L.n cd ys (swD L d L.n L.n).length cs a L.n (fun _ n1 n2 t => Ext s7 t ∧ ∃ b : Nat, a + 1 ≤ b ∧ b ≤ L.n ∧ n2 = b ∧ n1 = ((swD L d L.n a).length + (swR L d a b).length : Nat)) (fun _ _ n _ => (L.n - n).toNat) b79 _ (a + 1 : Nat) t ⟨et, a + 1, by omega, by omega, rfl, by rw [swR_low L d a (a + 1) (by omega)]; rfl⟩ ?_
    rintro b85 n3 n4 t2 ⟨et2, b, hab, hb, rfl, rfl⟩
    unfold B_law03_LotSwaps_1
    refine BR_dec (fun h2 => ?_) (fun h2 => ?_)
    · have hbl : b < L.n := by omega
      have e72 := e17.trans et2
      have hwb : IntKind.i64.wrap ((b : Int) + 1) = ((b + 1 : Nat) : Int) := by rw [wrap_i64 (by omega) (by omega)]; rfl
      have hms : ((L.n : Int) - IntKind.i64.wrap ((b : Int) + 1)).toNat < ((L.n : Int) - (b : Int)).toNat := by rw [hwb]; omega
      refine copy_swap (rd7.ext et2) dlen.symm (by omega) (by omega) (by omega) fun t3 yo co e3' ro => ?_
      have ps := pd.swp hal hbl
      have e13' := e72.trans e3'
      have et3 := et2.trans e3'
      refine ⟨_, _, _, e13'.cell c0, _, e13'.cell c1, ?_⟩
      refine c_lawful (hm.ext (e1.trans e13')) ro hv ps.lt (by rw [ps.len, dlen]) ps.len fun t4 e4' => ?_
      try simp only [TUP_mk, AGG_mk, HD_mk, NL_mk, TYI_mk, TYB_mk, TYP_mk, TYL_mk, TYS_mk, TYM_mk, SO_mk, NX_mk, endK_mk, endK_mk', add_0]
      have e14' := e13'.trans e4'
      have et4 := et3.trans e4'
      obtain ⟨pa, ba, hpa, hba, ga, hla, ga1, ga2, ga3⟩ := man_at (hm.ext (e1.trans e14')) (rd7.ext et4) pd.lt (show a < d.length by omega)
      obtain ⟨pb, bb', hpb, hbb', gb, hlb, gb1, gb2, gb3⟩ := man_at (hm.ext (e1.trans e14')) (rd7.ext et4) pd.lt (show b < d.length by omega)
      have ta : ((a : Int)).toNat = a := by omega
      have tb : ((b : Int)).toNat = b := by omega
      have tma : (((d.getD a 0 : Nat) : Int)).toNat = d.getD a 0 := by omega
      have tmb : (((d.getD b 0 : Nat) : Int)).toNat = d.getD b 0 := by omega
      refine ⟨_, _, _, e14'.cell c0, pa, hpa, ⟨by omega, by omega⟩, _, by rw [ta]; exact ga, ba, hba, ⟨by omega, by omega⟩, _, by rw [tma]; exact ga1, _, by rw [tma]; exact ga2, _, by rw [tma]; exact ga3, ?_⟩
      refine ⟨_, _, _, e14'.cell c0, pb, hpb, ⟨by omega, by omega⟩, _, by rw [tb]; exact gb, bb', hbb', ⟨by omega, by omega⟩, _, by rw [tmb]; exact gb1, _, by rw [tmb]; exact gb2, _, by rw [tmb]; exact gb3, ?_⟩
      have hokb : okSw L d a b = decide (wrong L (swp d a b) = none) := by
        unfold okSw
        cases wrong L (swp d a b) <;> rfl
      have j3 : ∀ bz : Bool, bz = false → J_law03_LotSwaps_3 W (endK K E) bz (decide (wrong L (swp d a b) = none)) ⟨s.size, 0, none⟩ yd L.n cd ys (swD L d L.n L.n).length cs a L.n (fun vs => N_law03_LotSwaps_1 (fun _ n1 n2 t => Ext s7 t ∧ ∃ b : Nat, a + 1 ≤ b ∧ b ≤ L.n ∧ n2 = b ∧ n1 = ((swD L d L.n a).length + (swR L d a b).length : Nat)) (fun _ _ n _ => (L.n - n).toNat) b85 ((swD L d L.n a).length + (swR L d a b).length : Nat) b t2 vs) b85 ((swD L d L.n a).length + (swR L d a b).length : Nat) b yo d.length co (fun vs => N_law03_LotSwaps_0 (fun _ n1 n2 t => Ext s7 t ∧ ∃ a : Nat, a ≤ L.n ∧ n2 = a ∧ n1 = ((swD L d L.n a).length : Nat)) (fun _ _ n _ => (L.n - n).toNat) b79 ((swD L d L.n a).length : Nat) a t vs) t4 := by
        rintro bz rfl
        unfold J_law03_LotSwaps_3
        refine BR_not (fun hno => ?_) (fun hyes => ?_)
        · refine ⟨rfl, _, _, _, rfl, ⟨et4, b + 1, by omega, by omega, hwb, ?_⟩, hms⟩
          rw [swR_succ, if_neg (fun hc => by rw [hokb, hno] at hc; exact absurd hc.2 (by decide)), List.append_nil]
        · have hok : okSw L d a b = true := by rw [hokb]; exact hyes
          have hw2 : wrong L (swp d a b) = none := of_decide_eq_true hyes
          have hat := swD_at L d (n := L.n) (show a < b by omega) hbl hok
          obtain ⟨hlt, heq⟩ := List.getElem?_eq_some_iff.1 hat
          refine BR_dec (fun hh => by omega) (fun _ => ?_)
          obtain ⟨pp, hpp, g0, g1⟩ := row_pair (rs.ext et4) hlt
          rw [heq] at g0 g1
          have tt : ((((swD L d L.n a).length + (swR L d a b).length : Nat)) : Int).toNat = (swD L d L.n a).length + (swR L d a b).length := by omega
          refine ⟨pp, hpp, ⟨by omega, by omega⟩, _, by rw [tt]; exact g0, _, by rw [tt]; exact g1, ?_⟩
          unfold J_law03_LotSwaps_2
          refine BR_not (fun hh => by simp at hh) (fun _ => ?_)
          refine ⟨_, _, _, e14'.cell c0, _, e14'.cell c1, ?_⟩
          refine c_SwapsN (hm.ext (e1.trans e14')) hv ps hw2 (ro.ext e4') (by rw [ps.len, dlen]) fun t5 yb cb e5' rb => ?_
          try simp only [TUP_mk, AGG_mk, HD_mk, NL_mk, TYI_mk, TYB_mk, TYP_mk, TYL_mk, TYS_mk, TYM_mk, SO_mk, NX_mk, endK_mk, endK_mk', add_0]
          have et5 := et4.trans e5'
          have hDl' := swD_len L (swp d a b) L.n L.n
          have hin : (a, b) ∈ swD L (swp d a b) L.n L.n := swD_mem L _ (show a < b by omega) hbl (by unfold okSw; rw [swp_swp (by omega) (by omega), wd]; rfl)
          generalize hB : swD L (swp d a b) L.n L.n = B at rb hDl' hin ⊢
          have hat1 : IntKind.i64.wrap ((((swD L d L.n a).length + (swR L d a b).length : Nat) : Int) + 1) = (((swD L d L.n a).length + (swR L d a b).length + 1 : Nat) : Int) := by rw [wrap_i64 (by omega) (by omega)]; rfl
          refine L_law03_LotSwaps_2_rule W _ _ _ ⟨s.size, 0, none⟩ b85 yd L.n cd ys (swD L d L.n L.n).length cs _ a b 0 L.n yb B.length cb B.length (fun f n t => Ext s7 t ∧ RowAt t yb (pvals B) ∧ ∃ k : Nat, k ≤ B.length ∧ n = k ∧ f = decide ((a, b) ∈ B.take k)) (fun _ n _ => (B.length - n).toNat) false 0 t5 ⟨et5, rb, 0, by omega, rfl, by simp⟩ ?_
          rintro f n t6 ⟨et6, rb6, k, hk, rfl, rfl⟩
          unfold B_law03_LotSwaps_2
          refine BR_dec (fun h3 => ?_) (fun h3 => ?_)
          · have hkl : k < B.length := by omega
            have tk : ((k : Int)).toNat = k := by omega
            obtain ⟨p6, hp6, q0, q1⟩ := row_pair rb6 hkl
            refine ⟨p6, hp6, ⟨by omega, by omega⟩, _, by rw [tk]; exact q0, _, by rw [tk]; exact q1, ?_⟩
            refine NEWZ_rule zc_57 fun t7 e7' z7' n7' => ?_
            refine WR_own (n7' 0 _ rfl) rfl ?_
            refine WR_own (own_set_ne (.inr (by simp [add_off])) (n7' 1 _ rfl)) rfl ?_
            have o0 := own_cell (own_set_ne (a := (⟨t6.size, 0, none⟩ : Addr).add 1) (w := .int .i64 ((B[k].2 : Nat) : Int)) (.inr (by simp [add_off])) (own_set (v := .int .i64 ((B[k].1 : Nat) : Int)) (n7' 0 _ rfl)))
            have o1 := own_cell (own_set (a := (⟨t6.size, 0, none⟩ : Addr).add 1) (v := .int .i64 ((B[k].2 : Nat) : Int)) (own_set_ne (a := ⟨t6.size, 0, none⟩) (w := .int .i64 ((B[k].1 : Nat) : Int)) (.inr (by simp [add_off])) (n7' 1 _ rfl)))
            have e8' : Ext t6 (Go.V.setC (Go.V.setC t7 ⟨t6.size, 0, none⟩ (.int .i64 ((B[k].1 : Nat) : Int))) ((⟨t6.size, 0, none⟩ : Addr).add 1) (.int .i64 ((B[k].2 : Nat) : Int))) := Ext.setC (Ext.setC e7' (Nat.le_refl _)) (by rw [add_block]; exact Nat.le_refl _)
            have hwk : IntKind.i64.wrap ((k : Int) + 1) = ((k + 1 : Nat) : Int) := by rw [wrap_i64 (by omega) (by omega)]; rfl
            have htake : B.take (k + 1) = B.take k ++ [B[k]] := by rw [List.take_add_one, List.getElem?_eq_getElem hkl]; rfl
            have hmk : ((B.length : Int) - IntKind.i64.wrap ((k : Int) + 1)).toNat < ((B.length : Int) - (k : Int)).toNat := by rw [hwk]; omega
            refine BR_bool (fun hf => ?_) (fun hf => ?_)
            · unfold J_law03_LotSwaps_4
              refine ⟨rfl, _, _, rfl, ⟨et6.trans e8', rb6.ext e8', k + 1, by omega, hwk, ?_⟩, hmk⟩
              have := of_decide_eq_true hf
              rw [htake]
              exact (decide_eq_true (List.mem_append_left _ this)).symm
            · refine ⟨_, o0, _, o1, ?_⟩
              unfold J_law03_LotSwaps_4
              refine ⟨rfl, _, _, rfl, ⟨et6.trans e8', rb6.ext e8', k + 1, by omega, hwk, ?_⟩, hmk⟩
              have hnot := of_decide_eq_false hf
              rw [htake, Bool.eq_iff_iff]
              simp only [Bool.and_eq_true, beq_iff_eq, decide_eq_true_eq, List.mem_append, List.mem_singleton]
              constructor
              · rintro ⟨h5, h6⟩
                exact .inr (Prod.ext (by show a = B[k].1; omega) (by show b = B[k].2; omega))
              · rintro (h5 | h5)
                · exact absurd h5 hnot
                · rw [← h5]; exact ⟨rfl, rfl⟩
          · have hkB : k = B.length := by omega
            subst hkB
            rw [List.take_length, decide_eq_true hin]
            refine BR_ne (fun hh => absurd rfl hh) (fun _ => ?_)
            unfold J_law03_LotSwaps_5
            refine BR_not (fun hh => by cases hh) (fun _ => ?_)
            refine ⟨rfl, _, _, _, rfl, ⟨et6, b + 1, by omega, by omega, hwb, ?_⟩, hms⟩
            rw [hat1, swR_succ, if_pos ⟨by omega, hok⟩, List.length_append]; rfl
      refine BR_bool (fun hsame => j3 _ ?_) (fun _ => j3 _ rfl)
      simp only [Bool.and_eq_true, beq_iff_eq] at hsame
      have hman : man L (d.getD a 0) = man L (d.getD b 0) := by
        have h1 := hsame.1
        have h2 := hsame.2.1
        have h3 := hsame.2.2
        cases hA : man L (d.getD a 0) with
        | mk c1 l1 v1 =>
          cases hB : man L (d.getD b 0) with
          | mk c2 l2 v2 =>
            rw [hA, hB] at h1 h2 h3
            simp only at h1 h2 h3
            rw [h1, h2, h3]
      have := alike_ok hn8 pd hal hbl wd hman
      rw [decide_eq_true this]; rfl
    · have hbn : b = L.n := by omega
      subst hbn
      refine ⟨rfl, _, _, _, rfl, ⟨et2, a + 1, by omega, hwa, ?_⟩, ?_⟩
      · rw [swD_succ, List.length_append]
      · show ((L.n : Int) - IntKind.i64.wrap ((a : Int) + 1)).toNat < ((L.n : Int) - a).toNat
        rw [hwa]; omega
  · have : a = L.n := by omega
    subst this
    refine BR_eq (fun _ => aw t (e17.trans et)) (fun hh => absurd rfl hh)
end
end Go.Proofs.Ytocnkdkgajdejaa.G
