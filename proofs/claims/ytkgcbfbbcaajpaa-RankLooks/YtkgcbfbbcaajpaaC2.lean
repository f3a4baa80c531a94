import Derived.Test.YtkgcbfbbcaajpaaC1
/- Lemmas: contracts over the visible heap, and that they are sound; no condition. -/
/- Rank: a table that is looked at; what is known of a score; what somebody has. -/
set_option linter.unusedSimpArgs false
set_option linter.unusedVariables false
set_option maxRecDepth 20000
namespace Go.Proofs.Ytkgcbfbbcaajpaa.G
open Go.V
theorem zc_74 : zc Pg 74 = [.int .i64 0, .int .i64 0, .int .i64 0, .int .i64 0, .int .i64 0, .int .i64 0] := by kernel_rfl
theorem zc_80 : zc Pg 80 = [.nilFunc, .nilFunc] := by kernel_rfl
/-- What is known of a score. -/
def pts (l : List Pr) (k : Int × Int) : Int × Int := match findA k l 0 with | some x => x.2 | none => (0, 40)
structure TabO (s : Hp) (p : Addr) (n m : Nat) (off : List Int) (l : List Pr) : Prop where
  men : cellAt s ((p.add 0).add 0) = some (.int .i64 n)
  sheets : cellAt s ((p.add 0).add 1) = some (.int .i64 m)
  off : ∃ x c, cellAt s ((p.add 0).add 2) = some (.slice x off.length c) ∧ RowAt s x (ints off)
  map : ∃ r es cl, cellAt s (p.add 4) = some (.map (some r)) ∧ s[r]? = some (.map es cl) ∧ Holds es l
theorem obj_lt {s : Hp} {r : Nat} {o : Obj} (h : s[r]? = some o) : r < s.size := (Array.getElem?_eq_some_iff.1 h).1
theorem TabO.ext {s s' : Hp} {p : Addr} {n m : Nat} {off : List Int} {l : List Pr} (e : Ext s s') (h : TabO s p n m off l) : TabO s' p n m off l where
  men := e.cell h.men
  sheets := e.cell h.sheets
  off := by obtain ⟨x, c, h1, h2⟩ := h.off; exact ⟨x, c, e.cell h1, h2.ext e⟩
  map := by obtain ⟨r, es, cl, h1, h2, h3⟩ := h.map; exact ⟨r, es, cl, e.cell h1, by rw [e.2 _ (obj_lt h2)]; exact h2, h3⟩
/-- A table that is valid, in numbers. -/
structure VdT (n m : Nat) (off : List Int) (l : List Pr) : Prop where
  n1 : 1 ≤ n
  n6 : n ≤ 6
  m1 : 1 ≤ m
  m5 : m ≤ 5
  len : off.length = n
  off : ∀ x ∈ off, 0 ≤ x ∧ x ≤ 100
  sc : ∀ x ∈ l, 0 ≤ x.2.1 ∧ x.2.1 ≤ x.2.2 ∧ x.2.2 ≤ 40
theorem pts_in {n m : Nat} {off : List Int} {l : List Pr} (v : VdT n m off l) (k : Int × Int) : 0 ≤ (pts l k).1 ∧ (pts l k).1 ≤ (pts l k).2 ∧ (pts l k).2 ≤ 40 := by
  unfold pts
  cases h : findA k l 0 with
  | none => decide
  | some x =>
    obtain ⟨j, w⟩ := x
    obtain ⟨i, hi, _, hx⟩ := findA_some l 0 j w h
    have := v.sc l[i] (List.getElem_mem hi)
    rw [hx] at this
    exact this
theorem look_pts {l : List Pr} {k : Int × Int} : (look l k).2 = true → (look l k).1 = pts l k := by
  unfold look pts
  cases findA k l 0 <;> simp
theorem look_not {l : List Pr} {k : Int × Int} : (look l k).2 = false → pts l k = (0, 40) := by
  unfold look pts
  cases findA k l 0 <;> simp
section
variable {W : World} {K : VK} {E : List PanicEntry → Hp → Prop} {s : Hp} {p : Addr} {n m : Nat} {off : List Int} {l : List Pr}
theorem c_isMan {i : Int} (ht : TabO s p n m off l) (hn : n ≤ 6) (h : K (.bool (decide (0 ≤ i ∧ i ≤ (n : Int) - 1))) s) : CALL Pg W F_rank_table_isMan [.pointer (some p), .int .i64 i] K E s := by
  refine does_rank_table_isMan W (some p) i _ s ?_
  unfold T_rank_table_isMan
  refine ⟨_, ht.men, ?_⟩
  refine c_within ?_
  try simp only [TUP_mk, AGG_mk, HD_mk, NL_mk, TYI_mk, TYB_mk, TYP_mk, TYL_mk, TYS_mk, TYM_mk, SO_mk, NX_mk, endK_mk, endK_mk', add_0]
  rw [wrap_i64 (by omega) (by omega)]
  exact h
theorem c_isSheet {i : Int} (ht : TabO s p n m off l) (hm : m ≤ 5) (h : K (.bool (decide (0 ≤ i ∧ i ≤ (m : Int) - 1))) s) : CALL Pg W F_rank_table_isSheet [.pointer (some p), .int .i64 i] K E s := by
  refine does_rank_table_isSheet W (some p) i _ s ?_
  unfold T_rank_table_isSheet
  refine ⟨_, ht.sheets, ?_⟩
  refine c_within ?_
  try simp only [TUP_mk, AGG_mk, HD_mk, NL_mk, TYI_mk, TYB_mk, TYP_mk, TYL_mk, TYS_mk, TYM_mk, SO_mk, NX_mk, endK_mk, endK_mk', add_0]
  rw [wrap_i64 (by omega) (by omega)]
  exact h
def spanV (x : Int × Int) : Value := .agg #[.int .i64 x.1, .int .i64 x.2]
theorem plain_end {R : Ending → Hp → Prop} {B C : Nat} {b : Bool} {x : Int × Int} {y0 y1 : Value} (o0 : Own s ⟨B, 0, none⟩ (.int .i64 x.1)) (o1 : Own s ⟨B, 1, none⟩ (.int .i64 x.2)) (p0 : Own s ⟨C, 0, none⟩ y0) (p1 : Own s ⟨C, 1, none⟩ y1) (hne : B ≠ C)
    (h : ∀ s', Kp (· = C) s s' → R (.returned (spanV (if b then x else (0, 40)))) s') : J_rank_plain_of_0 W R b (some ⟨B, 0, none⟩) C s := by
  unfold J_rank_plain_of_0
  refine BR_bool (fun hb => ?_) (fun hb => ?_)
  · rw [hb] at h
    refine ⟨_, o0.cell, _, o1.cell, ?_⟩
    refine WR_own p0 rfl ?_
    refine WR_own (own_set_ne (.inr (by show (1 : Nat) ≠ 0; decide)) p1) rfl ?_
    refine ⟨_, (own_set_ne (.inr (by show (0 : Nat) ≠ 1; decide)) (own_set p0)).cell, _, (own_set (own_set_ne (.inr (by show (1 : Nat) ≠ 0; decide)) p1)).cell, ?_⟩
    exact h _ (Kp.setC (Kp.setC (Kp.refl s) (.inl rfl)) (.inl rfl))
  · rw [hb] at h
    refine WR_own p0 rfl ?_
    refine WR_own (own_set_ne (.inr (by show (1 : Nat) ≠ 0; decide)) p1) rfl ?_
    refine ⟨_, (own_set_ne (.inr (by show (0 : Nat) ≠ 1; decide)) (own_set p0)).cell, _, (own_set (own_set_ne (.inr (by show (1 : Nat) ≠ 0; decide)) p1)).cell, ?_⟩
    exact h _ (Kp.setC (Kp.setC (Kp.refl s) (.inl rfl)) (.inl rfl))
theorem c_plain_of {i k : Int} (ht : TabO s p n m off l) (h : ∀ s', Ext s s' → K (spanV (pts l (i, k))) s') : CALL Pg W F_rank_plain_of [.agg #[.pointer (some p)], .agg #[.int .i64 i, .int .i64 k]] K E s := by
  refine does_rank_plain_of W (some p) i k _ s ?_
  unfold T_rank_plain_of
  refine NEW_rule fun s1 e1 z1 n1 _ => ?_
  refine NEW_rule fun s2 e2 z2 n2 _ => ?_
  refine NEWZ_rule zc_29 fun s3 e3 z3 n3 => ?_
  have e13 := e2.trans e3
  have e03 := e1.trans e13
  have cp := e13.cell (n1 0 _ rfl).cell
  have c0 := e3.cell (n2 0 _ rfl).cell
  have c1 := e3.cell (n2 1 _ rfl).cell
  obtain ⟨r, es, cl, g1, g2, g3⟩ := (ht.ext e03).map
  have fin : ∀ (t : Hp) (B : Nat) (R : Ending → Hp → Prop), Ext s3 t → B ≠ s2.size → Own t ⟨B, 0, none⟩ (.int .i64 (look l (i, k)).1.1) → Own t ⟨B, 1, none⟩ (.int .i64 (look l (i, k)).1.2) → R = endK K E → J_rank_plain_of_0 W R (look l (i, k)).2 (some ⟨B, 0, none⟩) s2.size t := by
    intro t B R e hne o0 o1 hR
    subst hR
    refine plain_end o0 o1 (e.own (n3 0 _ rfl)) (e.own (n3 1 _ rfl)) hne fun s' k' => ?_
    have he : Ext s s' := (e1.trans e2).trans ⟨Nat.le_trans e3.1 (Nat.le_trans e.1 k'.1), fun b hb => by
      rw [k'.2 b (Nat.lt_of_lt_of_le hb (Nat.le_trans e3.1 e.1)) (by omega), (e3.trans e).2 b hb]⟩
    have := h s' he
    cases hb : (look l (i, k)).2 with
    | true => rw [← look_pts hb] at this; exact this
    | false => rw [look_not hb] at this; exact this
  refine ⟨_, cp, _, g1, _, c0, _, c1, CONJ_two ?_ ?_⟩
  · refine LKP_score (k := (i, k)) g2 g3 ?_
    unfold keyV
    try simp only [TUP_mk, AGG_mk, HD_mk, NL_mk, TYI_mk, TYB_mk, TYP_mk, TYL_mk, TYS_mk, TYM_mk, SO_mk, NX_mk, endK_mk, endK_mk', add_0]
    refine NEWZ_rule zc_29 fun s4 e4 z4 n4 => ?_
    refine ⟨⟨_, e4.cell c0, _, e4.cell c1, rfl⟩, ⟨_, e4.cell g1, rfl⟩, ⟨_, e4.cell cp, rfl⟩, ?_⟩
    have o1 := n4 1 _ rfl
    refine WR_own (n4 0 _ rfl) rfl ?_
    refine WR_own (own_set_ne (.inr (by show (1 : Nat) ≠ 0; decide)) o1) rfl ?_
    refine fin _ s3.size _ ((e4.setC (by show s3.size ≤ s3.size; omega)).setC (by show s3.size ≤ s3.size; omega)) (by omega) ?_ ?_ rfl
    · exact own_set_ne (.inr (by show (0 : Nat) ≠ 1; decide)) (own_set (n4 0 _ rfl))
    · exact own_set (own_set_ne (.inr (by show (1 : Nat) ≠ 0; decide)) o1)
  · refine NEWZ_rule zc_29 fun s4 e4 z4 n4 => ?_
    refine ⟨⟨_, e4.cell c0, _, e4.cell c1, rfl⟩, ⟨_, e4.cell g1, rfl⟩, ⟨_, e4.cell cp, rfl⟩, ?_⟩
    refine LKP_score (k := (i, k)) (by rw [e4.2 _ (obj_lt g2)]; exact g2) g3 ?_
    unfold keyV
    try simp only [TUP_mk, AGG_mk, HD_mk, NL_mk, TYI_mk, TYB_mk, TYP_mk, TYL_mk, TYS_mk, TYM_mk, SO_mk, NX_mk, endK_mk, endK_mk', add_0]
    have o1 := n4 1 _ rfl
    refine WR_own (n4 0 _ rfl) rfl ?_
    refine WR_own (own_set_ne (.inr (by show (1 : Nat) ≠ 0; decide)) o1) rfl ?_
    refine fin _ s3.size _ ((e4.setC (by show s3.size ≤ s3.size; omega)).setC (by show s3.size ≤ s3.size; omega)) (by omega) ?_ ?_ rfl
    · exact own_set_ne (.inr (by show (0 : Nat) ≠ 1; decide)) (own_set (n4 0 _ rfl))
    · exact own_set (own_set_ne (.inr (by show (1 : Nat) ≠ 0; decide)) o1)
theorem mth_77 : mth Pg 77 "furrowworks/rank.of" = some 62 := by kernel_rfl
/-- What is asked of a reading. -/
structure Rdg (W : World) (s0 : Hp) (v : Value) (m : Nat) (rd : Int × Int → Int × Int) : Prop where
  lim : ∀ k, 0 ≤ (rd k).1 ∧ (rd k).1 ≤ (rd k).2 ∧ (rd k).2 ≤ 40
  call : ∀ (s : Hp), Ext s0 s → ∀ (i : Int) (k : Nat), k < m → ∀ (K : VK) (E : List PanicEntry → Hp → Prop), (∀ s', Ext s s' → K (spanV (rd (i, k))) s') → INV Pg W v "furrowworks/rank.of" [.agg #[.int .i64 i, .int .i64 (k : Nat)]] K E s
theorem Rdg.ext {s0 s1 : Hp} {v : Value} {rd : Int × Int → Int × Int} (e : Ext s0 s1) (h : Rdg W s0 v m rd) : Rdg W s1 v m rd := ⟨h.lim, fun s e' => h.call s (e.trans e')⟩
theorem rdg_plain (v : VdT n m off l) (ht : TabO s p n m off l) : Rdg W s (.iface 77 (.agg #[.pointer (some p)])) m (pts l) := ⟨pts_in v, fun s' e i k hk K E h => by
  unfold INV
  dsimp only
  rw [mth_77]
  exact c_plain_of (ht.ext e) h⟩
/-- An end of a span. -/
def sel (e : Bool) (x : Int × Int) : Int := if e then x.2 else x.1
def fe (e : Bool) : Value := if e then .func (.func 76) #[] #[] else .func (.func 75) #[] #[]
theorem c_end {e : Bool} {x : Int × Int} (h : ∀ s', Ext s s' → K (.int .i64 (sel e x)) s') : CALLV Pg W (fe e) [.agg #[.int .i64 x.1, .int .i64 x.2]] K E s := by
  cases e with
  | false =>
    refine CALLV_func ?_
    refine does_rank_both_c1 W x.1 x.2 _ s ?_
    unfold T_rank_both_c1
    refine NEW_rule fun s1 e1 z1 n1 _ => ?_
    exact ⟨_, (n1 0 _ rfl).cell, h s1 e1⟩
  | true =>
    refine CALLV_func ?_
    refine does_rank_both_c2 W x.1 x.2 _ s ?_
    unfold T_rank_both_c2
    refine NEW_rule fun s1 e1 z1 n1 _ => ?_
    exact ⟨_, (n1 1 _ rfl).cell, h s1 e1⟩
theorem c_both (h : ∀ s', Ext s s' → K (.agg #[fe false, fe true]) s') : CALL Pg W F_rank_both [] K E s := by
  refine does_rank_both W _ s ?_
  unfold T_rank_both
  refine NEWZ_rule zc_80 fun s1 e1 z1 n1 => ?_
  have o1 := n1 1 _ rfl
  refine WR_own (n1 0 _ rfl) rfl ?_
  refine WR_own (own_set_ne (.inr (by show (1 : Nat) ≠ 0; decide)) o1) rfl ?_
  refine ⟨_, (own_set_ne (.inr (by show (0 : Nat) ≠ 1; decide)) (own_set (n1 0 _ rfl))).cell, _, (own_set (own_set_ne (.inr (by show (1 : Nat) ≠ 0; decide)) o1)).cell, ?_⟩
  exact h _ ((e1.setC (by show s.size ≤ s.size; omega)).setC (by show s.size ≤ s.size; omega))
end
end Go.Proofs.Ytkgcbfbbcaajpaa.G

/- Rank: what somebody has, at one end. -/
set_option linter.unusedSimpArgs false
set_option linter.unusedVariables false
set_option maxRecDepth 20000
namespace Go.Proofs.Ytkgcbfbbcaajpaa.G
open Go.V
/-- What somebody has: the sum, and the points of all sheets. -/
def rowS (rd : Int × Int → Int × Int) (e : Bool) (m : Nat) (i : Int) : List Int := (List.range m).map fun (k : Nat) => sel e (rd (i, k))
def rowL (rd : Int × Int → Int × Int) (e : Bool) (m : Nat) (o : Int) (i : Int) : List Int := ((rowS rd e m i).sum - o) :: rowS rd e m i
/-- The cells of a row of six. -/
def cell6 (l : List Int) (j : Nat) : Int := l.getD j 0
def rowV (l : List Int) : Value := .agg #[.int .i64 (cell6 l 0), .int .i64 (cell6 l 1), .int .i64 (cell6 l 2), .int .i64 (cell6 l 3), .int .i64 (cell6 l 4), .int .i64 (cell6 l 5)]
theorem rowS_len (rd : Int × Int → Int × Int) (e : Bool) (m : Nat) (i : Int) : (rowS rd e m i).length = m := by unfold rowS; simp
theorem rowL_len (rd : Int × Int → Int × Int) (e : Bool) (m : Nat) (o i : Int) : (rowL rd e m o i).length = m + 1 := by unfold rowL; simp [rowS_len]
theorem rowS_get {rd : Int × Int → Int × Int} {e : Bool} {m : Nat} {i : Int} {k : Nat} (hk : k < m) : (rowS rd e m i).getD k 0 = sel e (rd (i, k)) := by unfold rowS; simp [List.getD, hk]
section
variable {s : Hp}
theorem six {P : Nat → Prop} (h0 : P 0) (h1 : P 1) (h2 : P 2) (h3 : P 3) (h4 : P 4) (h5 : P 5) : ∀ j, j < 6 → P j := by
  intro j hj
  match j, hj with
  | 0, _ => exact h0
  | 1, _ => exact h1
  | 2, _ => exact h2
  | 3, _ => exact h3
  | 4, _ => exact h4
  | 5, _ => exact h5
/-- Six cells are written. -/
theorem wr6 {a : Addr} {v : Nat → Int} {K : Hp → Prop} (ha : ∀ j, j < 6 → ∃ y, Own s (a.add j) y) (h : ∀ s', Kp (· = a.block) s s' → s'.size = s.size → (∀ j, j < 6 → Own s' (a.add j) (.int .i64 (v j))) → K s') :
    (WR (a.add 0) (.int .i64 (v 0)) <| WR (a.add 1) (.int .i64 (v 1)) <| WR (a.add 2) (.int .i64 (v 2)) <| WR (a.add 3) (.int .i64 (v 3)) <| WR (a.add 4) (.int .i64 (v 4)) <| WR (a.add 5) (.int .i64 (v 5)) <| K) s := by
  show wrN [.int .i64 (v 0), .int .i64 (v 1), .int .i64 (v 2), .int .i64 (v 3), .int .i64 (v 4), .int .i64 (v 5)] a 0 K s
  refine wrN_rule _ a 0 K s (fun i hi => ?_) ?_ ?_
  · rw [Nat.zero_add]; exact ha i hi
  · intro w hw
    simp at hw
    rcases hw with rfl | rfl | rfl | rfl | rfl | rfl <;> rfl
  · intro s' k z ho _
    refine h s' k z (six ?_ ?_ ?_ ?_ ?_ ?_)
    · exact ho 0 (by simp)
    · exact ho 1 (by simp)
    · exact ho 2 (by simp)
    · exact ho 3 (by simp)
    · exact ho 4 (by simp)
    · exact ho 5 (by simp)
theorem rd6 {a : Addr} {v : Nat → Int} {K : Int → Int → Int → Int → Int → Int → Hp → Prop} (ha : ∀ j, j < 6 → Own s (a.add j) (.int .i64 (v j))) (h : K (v 0) (v 1) (v 2) (v 3) (v 4) (v 5) s) :
    (RDI .i64 (a.add 0) fun n0 => RDI .i64 (a.add 1) fun n1 => RDI .i64 (a.add 2) fun n2 => RDI .i64 (a.add 3) fun n3 => RDI .i64 (a.add 4) fun n4 => RDI .i64 (a.add 5) fun n5 => K n0 n1 n2 n3 n4 n5) s :=
  ⟨_, (ha 0 (by omega)).cell, _, (ha 1 (by omega)).cell, _, (ha 2 (by omega)).cell, _, (ha 3 (by omega)).cell, _, (ha 4 (by omega)).cell, _, (ha 5 (by omega)).cell, h⟩
theorem new6 {t : TypeId} {n1 : ∀ i v, [Value.int .i64 0, Value.int .i64 0, Value.int .i64 0, Value.int .i64 0, Value.int .i64 0, Value.int .i64 0][i]? = some v → Own s ⟨t, i, none⟩ v} : ∀ j, j < 6 → Own s ((⟨t, 0, none⟩ : Addr).add j) (.int .i64 0) := by
  intro j hj
  rw [add_nil, Nat.zero_add]
  exact six (P := fun j => Own s ⟨t, j, none⟩ (.int .i64 0)) (n1 0 _ rfl) (n1 1 _ rfl) (n1 2 _ rfl) (n1 3 _ rfl) (n1 4 _ rfl) (n1 5 _ rfl) j hj
end
theorem sum_lim {l : List Int} (h : ∀ x ∈ l, 0 ≤ x ∧ x ≤ 40) : 0 ≤ l.sum ∧ l.sum ≤ 40 * l.length := by
  induction l with
  | nil => simp
  | cons x l ih =>
    have h1 := h x (by simp)
    have h2 := ih fun y hy => h y (by simp [hy])
    simp only [List.sum_cons, List.length_cons]
    omega
section
variable {W : World} {K : VK} {E : List PanicEntry → Hp → Prop} {s : Hp} {p : Addr} {n m : Nat} {off : List Int} {l : List Pr}
theorem c_row {v : Value} {rd : Int × Int → Int × Int} {e : Bool} {i : Nat} (vd : VdT n m off l) (ht : TabO s p n m off l) (hr : Rdg W s v m rd) (hi : i < n) (h : ∀ s', Ext s s' → K (rowV (rowL rd e m (off.getD i 0) i)) s') :
    CALL Pg W F_rank_table_row [.pointer (some p), v, .int .i64 i, fe e] K E s := by
  have hm5 := vd.m5
  refine does_rank_table_row W (some p) v i (fe e) _ s ?_
  unfold T_rank_table_row
  refine NEWZ_rule zc_74 fun s1 e1 z1 n1 => ?_
  refine NEWZ_rule zc_74 fun s2 e2 z2 n2 => ?_
  have e02 := e1.trans e2
  have a4 : ∀ j, j < 6 → Own s2 ((⟨s.size, 0, none⟩ : Addr).add j) (.int .i64 0) := fun j hj => e2.own (new6 (n1 := n1) j hj)
  have a5 : ∀ j, j < 6 → Own s2 ((⟨s1.size, 0, none⟩ : Addr).add j) (.int .i64 0) := new6 (n1 := n2)
  have hsl : ∀ k : Nat, 0 ≤ sel e (rd (i, k)) ∧ sel e (rd (i, k)) ≤ 40 := fun k => by
    have := hr.lim ((i : Int), (k : Int))
    unfold sel
    split <;> omega
  refine ⟨_, (ht.ext e02).sheets, ?_⟩
  refine L_rank_table_row_0_rule W _ (some p) v i (fe e) ⟨s.size, 0, none⟩ ⟨s1.size, 0, none⟩ m (fun n9 t => Ext s t ∧ (∃ k : Nat, k ≤ m ∧ n9 = k ∧ (∀ j, j < 6 → Own t ((⟨s1.size, 0, none⟩ : Addr).add j) (.int .i64 (if 1 ≤ j ∧ j ≤ k then (rowS rd e m i).getD (j - 1) 0 else 0)))) ∧ ∀ j, j < 6 → Own t ((⟨s.size, 0, none⟩ : Addr).add j) (.int .i64 0)) (fun n9 _ => (m - n9).toNat) 0 s2
    ⟨e02, ⟨0, by omega, rfl, fun j hj => by rw [if_neg (by omega)]; exact a5 j hj⟩, a4⟩ ?_
  rintro n9 t ⟨et, ⟨k, hk, rfl, o5⟩, o4⟩
  have hz : s1.size = s.size + 1 := z1
  unfold B_rank_table_row_0
  refine BR_dec (fun h1 => ?_) (fun h1 => ?_)
  · have hkm : k < m := by omega
    refine hr.call t et i k hkm _ _ fun t2 f2 => ?_
    unfold spanV
    try simp only [TUP_mk, AGG_mk, HD_mk, NL_mk, TYI_mk, TYB_mk, TYP_mk, TYL_mk, TYS_mk, TYM_mk, SO_mk, NX_mk, endK_mk, endK_mk', add_0]
    refine c_end (x := rd (i, k)) fun t3 f3 => ?_
    try simp only [TUP_mk, AGG_mk, HD_mk, NL_mk, TYI_mk, TYB_mk, TYP_mk, TYL_mk, TYS_mk, TYM_mk, SO_mk, NX_mk, endK_mk, endK_mk', add_0]
    have f13 := f2.trans f3
    have hw : IntKind.i64.wrap (1 + (k : Int)) = ((k + 1 : Nat) : Int) := by rw [wrap_i64 (by omega) (by omega)]; omega
    have hw' : IntKind.i64.wrap ((k : Int) + 1) = ((k + 1 : Nat) : Int) := by rw [wrap_i64 (by omega) (by omega)]; rfl
    rw [hw]
    refine ⟨⟨by omega, by omega⟩, ?_⟩
    have tk : (((k + 1 : Nat) : Int)).toNat * 1 = k + 1 := by omega
    rw [tk]
    have ok := f13.own (o5 (k + 1) (by omega))
    refine WR_own ok rfl ?_
    refine ⟨_, rfl, ⟨(et.trans f13).setC (by show s.size ≤ s1.size; omega), ⟨k + 1, by omega, hw', fun j hj => ?_⟩, fun j hj => ?_⟩, ?_⟩
    · by_cases e1 : j = k + 1
      · subst e1
        rw [if_pos (by omega), show k + 1 - 1 = k by omega, rowS_get hkm]
        exact own_set ok
      · refine own_set_ne (.inr (by rw [add_of, add_of]; omega)) ?_
        have := f13.own (o5 j hj)
        by_cases h2 : 1 ≤ j ∧ j ≤ k
        · rw [if_pos h2] at this
          rw [if_pos (by omega)]; exact this
        · rw [if_neg h2] at this
          rw [if_neg (by omega)]; exact this
    · refine own_set_ne (.inl (by rw [add_blk, add_blk]; show s.size ≠ s1.size; omega)) (f13.own (o4 j hj))
    · show ((m : Int) - IntKind.i64.wrap ((k : Int) + 1)).toNat < ((m : Int) - k).toNat
      rw [hw']; omega
  · have hkm : k = m := by omega
    subst hkm
    obtain ⟨x, c, g1, g2⟩ := (ht.ext et).off
    have hil : i < off.length := by rw [vd.len]; exact hi
    obtain ⟨a, ha, g3⟩ := row_int g2 hil
    have ti : ((i : Int)).toNat = i := by omega
    refine ⟨_, _, _, g1, a, ha, ⟨by omega, by omega⟩, _, by rw [ti]; exact g3, ?_⟩
    rw [ti]
    refine ⟨⟨by decide, by decide, by decide⟩, ?_⟩
    show (ANDS _ _) t
    refine ⟨⟨_, g3, rfl⟩, ⟨_, _, _, g1, rfl⟩, ?_⟩
    have hS := rowS_len rd e k i
    have hb : ∀ y ∈ rowS rd e k i, 0 ≤ y ∧ y ≤ 40 := by
      intro y hy
      unfold rowS at hy
      obtain ⟨q, _, rfl⟩ := List.mem_map.1 hy
      exact hsl q
    have hsum := sum_lim hb
    rw [hS] at hsum
    have hoff := vd.off (off.getD i 0) (by rw [show off.getD i 0 = off[i] by simp [List.getD, hil]]; exact List.getElem_mem _)
    have hrow5 : RowAt t (some ((⟨s1.size, 0, none⟩ : Addr).add 1)) (ints (rowS rd e k i ++ List.replicate (5 - k) 0)) := by
      intro j hj
      have hj5 : j < 5 := by rw [ints_len, List.length_append, hS, List.length_replicate] at hj; omega
      refine ⟨_, rfl, ?_⟩
      rw [ints_get hj, Nat.mul_one, addr_add]
      have := (o5 (1 + j) (by omega)).cell
      rw [this]
      congr 2
      by_cases h2 : j < k
      · rw [if_pos (by omega), show 1 + j - 1 = j by omega, List.getElem_append_left (by rw [hS]; exact h2)]
        simp [List.getD, hS, h2]
      · rw [if_neg (by omega), List.getElem_append_right (by rw [hS]; omega)]
        simp
    have hsum5 : (rowS rd e k i ++ List.replicate (5 - k) 0).sum = (rowS rd e k i).sum := by
      rw [List.sum_append]
      have : (List.replicate (5 - k) (0 : Int)).sum = 0 := by
        generalize 5 - k = q
        induction q with
        | zero => rfl
        | succ q ih => rw [List.replicate_succ, List.sum_cons, ih]; rfl
      rw [this, Int.add_zero]
    refine c_total hrow5 (by rw [List.length_append, hS, List.length_replicate]; show 5 = _; omega) (by
      intro y hy
      rcases List.mem_append.1 hy with hy | hy
      · have := hb y hy; omega
      · have := (List.mem_replicate.1 hy).2; omega) (by rw [List.length_append, hS, List.length_replicate]; omega) ?_
    try simp only [TUP_mk, AGG_mk, HD_mk, NL_mk, TYI_mk, TYB_mk, TYP_mk, TYL_mk, TYS_mk, TYM_mk, SO_mk, NX_mk, endK_mk, endK_mk', add_0]
    rw [hsum5]
    refine ⟨⟨_, g3, rfl⟩, ⟨_, _, _, g1, rfl⟩, ?_⟩
    refine ⟨⟨by decide, by decide⟩, ?_⟩
    have hw : IntKind.i64.wrap ((rowS rd e k i).sum - off.getD i 0) = (rowS rd e k i).sum - off.getD i 0 := wrap_i64 (by omega) (by omega)
    rw [hw]
    have o50 := o5 0 (by omega)
    refine WR_own (v := .int .i64 ((rowS rd e k i).sum - off.getD i 0)) (a := (⟨s1.size, 0, none⟩ : Addr).add 0) o50 rfl ?_
    generalize ht2 : setC t ((⟨s1.size, 0, none⟩ : Addr).add 0) (.int .i64 ((rowS rd e k i).sum - off.getD i 0)) = t2
    have et2 : Ext s t2 := by rw [← ht2]; exact et.setC (by show s.size ≤ s1.size; omega)
    have o5' : ∀ j, j < 6 → Own t2 ((⟨s1.size, 0, none⟩ : Addr).add j) (.int .i64 (cell6 (rowL rd e k (off.getD i 0) i) j)) := by
      intro j hj
      rw [← ht2]
      by_cases e1 : j = 0
      · subst e1; exact own_set o50
      · refine own_set_ne (.inr (by rw [add_of, add_of]; omega)) ?_
        have := o5 j hj
        have hc : cell6 (rowL rd e k (off.getD i 0) i) j = if 1 ≤ j ∧ j ≤ k then (rowS rd e k i).getD (j - 1) 0 else 0 := by
          unfold cell6 rowL
          obtain ⟨q, rfl⟩ : ∃ q, j = q + 1 := ⟨j - 1, by omega⟩
          by_cases h2 : q < k
          · rw [if_pos (by omega)]; simp
          · rw [if_neg (by omega)]
            simp [List.getD, List.getElem?_eq_none (show (rowS rd e k i).length ≤ q by rw [hS]; omega)]
        rw [hc]; exact this
    have o4' : ∀ j, j < 6 → Own t2 ((⟨s.size, 0, none⟩ : Addr).add j) (.int .i64 0) := fun j hj => by
      rw [← ht2]
      exact own_set_ne (.inl (by rw [add_blk, add_blk]; show s.size ≠ s1.size; omega)) (o4 j hj)
    refine rd6 o5' ?_
    refine wr6 (v := cell6 (rowL rd e k (off.getD i 0) i)) (fun j hj => ⟨_, o4' j hj⟩) fun t3 k3 z3 o6 => ?_
    refine rd6 o6 ?_
    refine h t3 ⟨Nat.le_trans et2.1 k3.1, fun q hq => ?_⟩
    rw [k3.2 q (Nat.lt_of_lt_of_le hq et2.1) (fun hh => by have : q = s.size := hh; omega)]
    exact et2.2 q hq
end
end Go.Proofs.Ytkgcbfbbcaajpaa.G

/- Rank: is one before another one; which places somebody can have. -/
set_option linter.unusedSimpArgs false
set_option linter.unusedVariables false
set_option maxRecDepth 20000
namespace Go.Proofs.Ytkgcbfbbcaajpaa.G
open Go.V
theorem CALLV_first {P : Program} {W : World} {K : VK} {E : List PanicEntry → Hp → Prop} {s : Hp} {f : FuncId} {args : List Value} {first : Array Value} (h : CALL P W f (first.toList ++ args) K E s) : CALLV P W (.func (.func f) first #[]) args K E s := by
  have e : (first ++ args.toArray ++ #[]) = (first.toList ++ args).toArray := by apply Array.ext'; simp
  show Does P W f (first ++ args.toArray ++ #[]) s (endK K E)
  rw [e]; exact h
theorem ahead_app : ∀ (a b c : List Int), a.length = b.length → aheadL (a ++ c) (b ++ c) = aheadL a b
  | [], [], c, _ => by rw [List.nil_append, ahead_same]; rfl
  | [], _ :: _, _, h => by simp at h
  | _ :: _, [], _, h => by simp at h
  | x :: a, y :: b, c, h => by
    show aheadL (x :: (a ++ c)) (y :: (b ++ c)) = _
    unfold aheadL
    rw [ahead_app a b c (by simpa using h)]
def pad6 (l : List Int) : List Int := [cell6 l 0, cell6 l 1, cell6 l 2, cell6 l 3, cell6 l 4, cell6 l 5]
theorem pad6_get {l : List Int} {j : Nat} (h : j < (pad6 l).length) : (pad6 l)[j] = cell6 l j := by
  have h6 : j < 6 := h
  have : (pad6 l)[j]? = some (cell6 l j) := six (P := fun j => (pad6 l)[j]? = some (cell6 l j)) rfl rfl rfl rfl rfl rfl j h6
  rw [List.getElem?_eq_getElem h] at this
  injection this
theorem pad6_eq {l : List Int} (h : l.length ≤ 6) : pad6 l = l ++ List.replicate (6 - l.length) 0 := by
  have hl : (pad6 l).length = 6 := rfl
  apply List.ext_getElem (by rw [hl, List.length_append, List.length_replicate]; omega)
  intro j h1 h2
  rw [hl] at h1
  rw [pad6_get]
  unfold cell6
  by_cases h3 : j < l.length
  · rw [List.getElem_append_left h3]; simp [List.getD, h3]
  · rw [List.getElem_append_right (by omega)]
    simp [List.getD, List.getElem?_eq_none (show l.length ≤ j by omega)]
theorem ahead_pad {a b : List Int} (h : a.length = b.length) (h6 : a.length ≤ 6) : aheadL (pad6 a) (pad6 b) = aheadL a b := by
  rw [pad6_eq h6, pad6_eq (by omega), ← h]
  exact ahead_app a b _ h
theorem row6 {s : Hp} {a : Addr} {l : List Int} (h : ∀ j, j < 6 → Own s (a.add j) (.int .i64 (cell6 l j))) : RowAt s (some a) (ints (pad6 l)) := by
  intro j hj
  have hj6 : j < 6 := hj
  refine ⟨a, rfl, ?_⟩
  rw [ints_get hj, Nat.mul_one, (h j hj6).cell]
  rw [pad6_get]
section
variable {W : World} {K : VK} {E : List PanicEntry → Hp → Prop} {s : Hp} {p : Addr} {n m : Nat} {off : List Int} {l : List Pr}
theorem two_rows {la lb : List Int} {x y : Int} (h1 : la.length = lb.length) (h6 : la.length ≤ 6) (h : ∀ s', Ext s s' → K (.bool ((x != y) && aheadL la lb)) s') :
    (NEWZ Pg 74 fun B61 => NEWZ Pg 74 fun B62 =>
      WR (Addr.add ⟨B61, 0, none⟩ 0) (.int .i64 (cell6 la 0)) <| WR (Addr.add ⟨B61, 0, none⟩ 1) (.int .i64 (cell6 la 1)) <| WR (Addr.add ⟨B61, 0, none⟩ 2) (.int .i64 (cell6 la 2)) <| WR (Addr.add ⟨B61, 0, none⟩ 3) (.int .i64 (cell6 la 3)) <| WR (Addr.add ⟨B61, 0, none⟩ 4) (.int .i64 (cell6 la 4)) <| WR (Addr.add ⟨B61, 0, none⟩ 5) (.int .i64 (cell6 la 5)) <|
      WR (Addr.add ⟨B62, 0, none⟩ 0) (.int .i64 (cell6 lb 0)) <| WR (Addr.add ⟨B62, 0, none⟩ 1) (.int .i64 (cell6 lb 1)) <| WR (Addr.add ⟨B62, 0, none⟩ 2) (.int .i64 (cell6 lb 2)) <| WR (Addr.add ⟨B62, 0, none⟩ 3) (.int .i64 (cell6 lb 3)) <| WR (Addr.add ⟨B62, 0, none⟩ 4) (.int .i64 (cell6 lb 4)) <| WR (Addr.add ⟨B62, 0, none⟩ 5) (.int .i64 (cell6 lb 5)) <|
      CONJ [
        BR (x != y) (SLS (some ⟨B61, 0, none⟩) 6 0 6 1 fun x63 l64 c65 => SLS (some ⟨B62, 0, none⟩) 6 0 6 1 fun x66 l67 c68 => CALL Pg W F_rank_ahead_int [(.slice x63 l64 c65), (.slice x66 l67 c68)] (fun v69 => TYB v69 fun b71 => K (.bool b71)) E) (K (.bool false)),
        BR (x != y) (SLS (some ⟨B62, 0, none⟩) 6 0 6 1 fun x72 l73 c74 => SLS (some ⟨B61, 0, none⟩) 6 0 6 1 fun x75 l76 c77 => CALL Pg W F_rank_ahead_int [(.slice x75 l76 c77), (.slice x72 l73 c74)] (fun v78 => TYB v78 fun b80 => K (.bool b80)) E) (K (.bool false))]) s := by
  refine NEWZ_rule zc_74 fun s1 e1 z1 n1 => ?_
  refine NEWZ_rule zc_74 fun s2 e2 z2 n2 => ?_
  have o1 : ∀ j, j < 6 → Own s2 ((⟨s.size, 0, none⟩ : Addr).add j) (.int .i64 0) := fun j hj => e2.own (new6 (n1 := n1) j hj)
  have o2 : ∀ j, j < 6 → Own s2 ((⟨s1.size, 0, none⟩ : Addr).add j) (.int .i64 0) := new6 (n1 := n2)
  refine wr6 (v := cell6 la) (fun j hj => ⟨_, o1 j hj⟩) fun s3 k3 z3 w1 => ?_
  have o2' : ∀ j, j < 6 → Own s3 ((⟨s1.size, 0, none⟩ : Addr).add j) (.int .i64 0) := fun j hj => k3.own (by rw [add_blk]; show ¬ s1.size = s.size; omega) (o2 j hj)
  refine wr6 (v := cell6 lb) (fun j hj => ⟨_, o2' j hj⟩) fun s4 k4 z4 w2 => ?_
  have w1' : ∀ j, j < 6 → Own s4 ((⟨s.size, 0, none⟩ : Addr).add j) (.int .i64 (cell6 la j)) := fun j hj => k4.own (by rw [add_blk]; show ¬ s.size = s1.size; omega) (w1 j hj)
  have e4 : Ext s s4 := by
    have e02 := e1.trans e2
    refine ⟨Nat.le_trans e02.1 (Nat.le_trans k3.1 k4.1), fun q hq => ?_⟩
    rw [k4.2 q (Nat.lt_of_lt_of_le hq (Nat.le_trans e02.1 k3.1)) (fun hh => by have : q = s1.size := hh; omega), k3.2 q (Nat.lt_of_lt_of_le hq e02.1) (fun hh => by have : q = s.size := hh; omega)]
    exact e02.2 q hq
  have hah := ahead_pad h1 h6
  have key : BR (x != y) (CALL Pg W F_rank_ahead_int [(.slice (some ⟨s.size, 0, none⟩) 6 6), (.slice (some ⟨s1.size, 0, none⟩) 6 6)] (fun v69 => TYB v69 fun b71 => K (.bool b71)) E) (K (.bool false)) s4 := by
    have := h s4 e4
    refine BR_bool (fun hb => ?_) (fun hb => ?_)
    · rw [hb] at this
      refine c_ahead (a := pad6 la) (b := pad6 lb) (row6 w1') (row6 w2) rfl rfl rfl (show 6 ≤ 1000 by decide) ?_
      try simp only [TUP_mk, AGG_mk, HD_mk, NL_mk, TYI_mk, TYB_mk, TYP_mk, TYL_mk, TYS_mk, TYM_mk, SO_mk, NX_mk, endK_mk, endK_mk', add_0]
      rw [hah]; exact this
    · rw [hb] at this; exact this
  refine CONJ_two ?_ ?_
  · revert key
    cases hb : (x != y) with
    | true => exact fun key => ⟨⟨by decide, by decide, by decide⟩, ⟨by decide, by decide, by decide⟩, key⟩
    | false => exact id
  · revert key
    cases hb : (x != y) with
    | true => exact fun key => ⟨⟨by decide, by decide, by decide⟩, ⟨by decide, by decide, by decide⟩, key⟩
    | false => exact id
/-- Surely before (the one's least against the other one's most), or perhaps. -/
def befP (rd : Int × Int → Int × Int) (e : Bool) (m : Nat) (off : List Int) (a b : Nat) : Bool := decide (a ≠ b) && aheadL (rowL rd e m (off.getD a 0) a) (rowL rd (!e) m (off.getD b 0) b)
theorem c_surely {v : Value} {rd : Int × Int → Int × Int} {a b : Nat} (vd : VdT n m off l) (ht : TabO s p n m off l) (hr : Rdg W s v m rd) (ha : a < n) (hb : b < n) (h : ∀ s', Ext s s' → K (.bool (befP rd false m off a b)) s') :
    CALL Pg W F_rank_table_surely [.pointer (some p), v, .int .i64 a, .int .i64 b] K E s := by
  refine does_rank_table_surely W (some p) v a b _ s ?_
  unfold T_rank_table_surely
  refine c_both fun s1 e1 => ?_
  try simp only [TUP_mk, AGG_mk, HD_mk, NL_mk, TYI_mk, TYB_mk, TYP_mk, TYL_mk, TYS_mk, TYM_mk, SO_mk, NX_mk, endK_mk, endK_mk', add_0]
  refine c_row (e := false) vd (ht.ext e1) (hr.ext e1) ha fun s2 e2 => ?_
  unfold rowV
  try simp only [TUP_mk, AGG_mk, HD_mk, NL_mk, TYI_mk, TYB_mk, TYP_mk, TYL_mk, TYS_mk, TYM_mk, SO_mk, NX_mk, endK_mk, endK_mk', add_0]
  have e02 := e1.trans e2
  refine c_both fun s3 e3 => ?_
  try simp only [TUP_mk, AGG_mk, HD_mk, NL_mk, TYI_mk, TYB_mk, TYP_mk, TYL_mk, TYS_mk, TYM_mk, SO_mk, NX_mk, endK_mk, endK_mk', add_0]
  have e03 := e02.trans e3
  refine c_row (e := true) vd (ht.ext e03) (hr.ext e03) hb fun s4 e4 => ?_
  unfold rowV
  try simp only [TUP_mk, AGG_mk, HD_mk, NL_mk, TYI_mk, TYB_mk, TYP_mk, TYL_mk, TYS_mk, TYM_mk, SO_mk, NX_mk, endK_mk, endK_mk', add_0]
  refine two_rows (x := a) (y := b) (by rw [rowL_len, rowL_len]) (by rw [rowL_len]; have := vd.m5; omega) fun s5 e5 => ?_
  have := h s5 (e03.trans (e4.trans e5))
  have e : decide (a ≠ b) = ((a : Int) != (b : Int)) := by
    by_cases hab : a = b
    · subst hab; simp
    · have : ¬ (a : Int) = b := by omega
      simp [hab, this]
  unfold befP at this
  rw [e] at this
  exact this
theorem c_can {v : Value} {rd : Int × Int → Int × Int} {a b : Nat} (vd : VdT n m off l) (ht : TabO s p n m off l) (hr : Rdg W s v m rd) (ha : a < n) (hb : b < n) (h : ∀ s', Ext s s' → K (.bool (befP rd true m off a b)) s') :
    CALL Pg W F_rank_table_can [.pointer (some p), v, .int .i64 a, .int .i64 b] K E s := by
  refine does_rank_table_can W (some p) v a b _ s ?_
  unfold T_rank_table_can
  refine c_both fun s1 e1 => ?_
  try simp only [TUP_mk, AGG_mk, HD_mk, NL_mk, TYI_mk, TYB_mk, TYP_mk, TYL_mk, TYS_mk, TYM_mk, SO_mk, NX_mk, endK_mk, endK_mk', add_0]
  refine c_row (e := true) vd (ht.ext e1) (hr.ext e1) ha fun s2 e2 => ?_
  unfold rowV
  try simp only [TUP_mk, AGG_mk, HD_mk, NL_mk, TYI_mk, TYB_mk, TYP_mk, TYL_mk, TYS_mk, TYM_mk, SO_mk, NX_mk, endK_mk, endK_mk', add_0]
  have e02 := e1.trans e2
  refine c_both fun s3 e3 => ?_
  try simp only [TUP_mk, AGG_mk, HD_mk, NL_mk, TYI_mk, TYB_mk, TYP_mk, TYL_mk, TYS_mk, TYM_mk, SO_mk, NX_mk, endK_mk, endK_mk', add_0]
  have e03 := e02.trans e3
  refine c_row (e := false) vd (ht.ext e03) (hr.ext e03) hb fun s4 e4 => ?_
  unfold rowV
  try simp only [TUP_mk, AGG_mk, HD_mk, NL_mk, TYI_mk, TYB_mk, TYP_mk, TYL_mk, TYS_mk, TYM_mk, SO_mk, NX_mk, endK_mk, endK_mk', add_0]
  refine two_rows (x := a) (y := b) (by rw [rowL_len, rowL_len]) (by rw [rowL_len]; have := vd.m5; omega) fun s5 e5 => ?_
  have := h s5 (e03.trans (e4.trans e5))
  have e : decide (a ≠ b) = ((a : Int) != (b : Int)) := by
    by_cases hab : a = b
    · subst hab; simp
    · have : ¬ (a : Int) = b := by omega
      simp [hab, this]
  unfold befP at this
  rw [e] at this
  exact this
end
end Go.Proofs.Ytkgcbfbbcaajpaa.G

/- Rank: which places somebody can have. -/
set_option linter.unusedSimpArgs false
set_option linter.unusedVariables false
set_option maxRecDepth 20000
namespace Go.Proofs.Ytkgcbfbbcaajpaa.G
open Go.V
theorem zc_116 : zc Pg 116 = [.pointer none, .nilFunc] := by kernel_rfl
def cntB (f : Nat → Bool) (k : Nat) : Nat := ((List.range k).filter f).length
theorem cntB_succ (f : Nat → Bool) (k : Nat) : cntB f (k + 1) = cntB f k + (if f k then 1 else 0) := by
  unfold cntB
  rw [List.range_succ, List.filter_append, List.length_append]
  cases h : f k <;> simp [h]
theorem cntB_le (f : Nat → Bool) (k : Nat) : cntB f k ≤ k := by unfold cntB; exact Nat.le_trans (List.length_filter_le _ _) (by simp)
/-- The places of somebody: the least and the greatest number. -/
def plcP (rd : Int × Int → Int × Int) (m n : Nat) (off : List Int) (i : Nat) : Int × Int := (1 + (cntB (fun o => befP rd false m off o i) n : Nat), 1 + (cntB (fun o => befP rd true m off o i) n : Nat))
section
variable {W : World} {K : VK} {E : List PanicEntry → Hp → Prop} {s : Hp} {p : Addr} {n m : Nat} {off : List Int} {l : List Pr}
theorem place_in {s0 t0 : Hp} {v : Value} {f : Nat → Bool} {g : FuncId} {i : Nat} {za3 za4 za5 za6 q : Addr} {zn7 : Int} {nx0 : List Value → Hp → Prop} {R : Ending → Hp → Prop} (hn : n ≤ 6) (e0 : Ext s0 t0) (hg : ∀ (t : Hp) (o : Nat) (K : VK) (E : List PanicEntry → Hp → Prop), Ext s0 t → o < n → (∀ s', Ext t s' → K (.bool (f o)) s') → CALL Pg W g [.pointer (some p), v, .int .i64 o, .int .i64 i] K E t)
    (c0 : cellAt t0 (za5.add 0) = some (.pointer (some q))) (c1 : cellAt t0 (za5.add 1) = some (.func (.func g) #[.pointer (some p)] #[])) (h5 : za5.block ≠ q.block) (hq : s0.size ≤ q.block) (oq : Own t0 q (.int .i64 1))
    (h : ∀ t, Kp (· = q.block) t0 t → (∀ b y, b.off ≠ q.off → Own t0 b y → Own t b y) → Own t q (.int .i64 (1 + (cntB f n : Nat))) → nx0 [.int .i64 (IntKind.wrap .i64 (zn7 + 1))] t) : L_rank_table_place_1 W R nx0 (some p) v i za3 za4 za5 za6 zn7 n 0 t0 := by
  refine L_rank_table_place_1_rule W R nx0 (some p) v i za3 za4 za5 za6 zn7 n (fun n18 t => Kp (· = q.block) t0 t ∧ (∀ b y, b.off ≠ q.off → Own t0 b y → Own t b y) ∧ ∃ k : Nat, k ≤ n ∧ n18 = k ∧ Own t q (.int .i64 (1 + (cntB f k : Nat)))) (fun n18 _ => (n - n18).toNat) 0 t0 ⟨Kp.refl _, fun _ _ _ ho => ho, 0, by omega, rfl, oq⟩ ?_
  rintro n18 t ⟨kt, kk, k, hk, rfl, ok⟩
  have et : Ext s0 t := ⟨Nat.le_trans e0.1 kt.1, fun b hb => by rw [kt.2 b (Nat.lt_of_lt_of_le hb e0.1) (by omega)]; exact e0.2 b hb⟩
  unfold B_rank_table_place_1
  refine BR_dec (fun h1 => ?_) (fun h1 => ?_)
  · have hkn : k < n := by omega
    have hw : IntKind.i64.wrap ((k : Int) + 1) = ((k + 1 : Nat) : Int) := by rw [wrap_i64 (by omega) (by omega)]; rfl
    have hms : ((n : Int) - IntKind.i64.wrap ((k : Int) + 1)).toNat < ((n : Int) - k).toNat := by rw [hw]; omega
    have c0t := kt.cell (a := za5.add 0) (by rw [add_blk]; exact h5) c0
    have c1t := kt.cell (a := za5.add 1) (by rw [add_blk]; exact h5) c1
    refine ⟨_, c1t, ?_⟩
    refine CALLV_first ?_
    refine hg t k _ _ et hkn fun t2 f2 => ?_
    try simp only [TUP_mk, AGG_mk, HD_mk, NL_mk, TYI_mk, TYB_mk, TYP_mk, TYL_mk, TYS_mk, TYM_mk, SO_mk, NX_mk, endK_mk, endK_mk', add_0]
    have hsucc := cntB_succ f k
    have hle := cntB_le f k
    refine BR_bool (fun h2 => ?_) (fun h2 => ?_)
    · rw [h2, if_pos rfl] at hsucc
      refine ⟨_, f2.cell c0t, ?_⟩
      have ok2 := f2.own ok
      refine ⟨_, ok2.cell, ?_⟩
      refine WR_own (a := q) ok2 rfl ?_
      unfold J_rank_table_place_0
      refine ⟨rfl, _, rfl, ⟨Kp.setC (kt.ext f2) (.inl rfl), fun b y hb ho => own_set_ne (.inr hb) (f2.own (kk b y hb ho)), k + 1, by omega, hw, ?_⟩, hms⟩
      rw [hsucc]
      have hv : IntKind.wrap .i64 (1 + ((cntB f k : Nat) : Int) + 1) = 1 + ((cntB f k + 1 : Nat) : Int) := by rw [wrap_i64 (by omega) (by omega)]; omega
      rw [hv]
      exact own_set ok2
    · rw [h2, if_neg (by simp), Nat.add_zero] at hsucc
      unfold J_rank_table_place_0
      exact ⟨rfl, _, rfl, ⟨kt.ext f2, fun b y hb ho => f2.own (kk b y hb ho), k + 1, by omega, hw, by rw [hsucc]; exact f2.own ok⟩, hms⟩
  · have hkn : k = n := by omega
    subst hkn
    exact ⟨rfl, h t kt kk ok⟩
theorem c_place {v : Value} {rd : Int × Int → Int × Int} {i : Nat} (vd : VdT n m off l) (ht : TabO s p n m off l) (hr : Rdg W s v m rd) (hi : i < n) (h : ∀ s', Ext s s' → K (spanV (plcP rd m n off i)) s') :
    CALL Pg W F_rank_table_place [.pointer (some p), v, .int .i64 i] K E s := by
  have hn6 := vd.n6
  refine does_rank_table_place W (some p) v i _ s ?_
  unfold T_rank_table_place
  refine NEWZ_rule zc_29 fun s1 e1 z1 n1 => ?_
  refine NEWZ_rule zc_29 fun s2 e2 z2 n2 => ?_
  have b1 := n2 1 _ rfl
  refine WR_own (n2 0 _ rfl) rfl ?_
  refine WR_own (own_set_ne (.inr (by show (1 : Nat) ≠ 0; decide)) b1) rfl ?_
  generalize hs3 : setC (setC s2 (Addr.add ⟨s1.size, 0, none⟩ 0) (.int .i64 1)) (Addr.add ⟨s1.size, 0, none⟩ 1) (.int .i64 1) = s3
  have e3 : Ext s1 s3 := by rw [← hs3]; exact (e2.setC (by show s1.size ≤ s1.size; omega)).setC (by show s1.size ≤ s1.size; omega)
  have hsz3 : s3.size = s2.size := by rw [← hs3, setC_size, setC_size]
  have p0 : Own s3 (Addr.add ⟨s1.size, 0, none⟩ 0) (.int .i64 1) := by rw [← hs3]; exact own_set_ne (.inr (by show (0 : Nat) ≠ 1; decide)) (own_set (n2 0 _ rfl))
  have p1 : Own s3 (Addr.add ⟨s1.size, 0, none⟩ 1) (.int .i64 1) := by rw [← hs3]; exact own_set (own_set_ne (.inr (by show (1 : Nat) ≠ 0; decide)) b1)
  refine NEW_rule fun s4 e4 z4 n4 _ => ?_
  have e14 := e3.trans e4
  have e04 := e1.trans e14
  have q0 := e4.own p0
  have q1 := e4.own p1
  have r0 := e14.own (n1 0 _ rfl)
  have r1 := e14.own (n1 1 _ rfl)
  have hz1 : s1.size = s.size + 1 := z1
  have hz2 : s2.size = s1.size + 1 := z2
  -- one of the two rounds
  have g0 : ∀ (t : Hp) (o : Nat) (K : VK) (E : List PanicEntry → Hp → Prop), Ext s t → o < n → (∀ s', Ext t s' → K (.bool (befP rd false m off o i)) s') → CALL Pg W F_rank_table_surely [.pointer (some p), v, .int .i64 o, .int .i64 i] K E t := fun t o K E e ho hk => c_surely vd (ht.ext e) (hr.ext e) ho hi hk
  have g1 : ∀ (t : Hp) (o : Nat) (K : VK) (E : List PanicEntry → Hp → Prop), Ext s t → o < n → (∀ s', Ext t s' → K (.bool (befP rd true m off o i)) s') → CALL Pg W F_rank_table_can [.pointer (some p), v, .int .i64 o, .int .i64 i] K E t := fun t o K E e ho hk => c_can vd (ht.ext e) (hr.ext e) ho hi hk
  refine L_rank_table_place_0_rule W _ (some p) v i ⟨s.size, 0, none⟩ ⟨s1.size, 0, none⟩ ⟨s3.size, 0, none⟩ (fun n7 t => Kp (· = s1.size) s4 t ∧ ∃ k : Nat, k ≤ 2 ∧ n7 = k ∧ Own t (Addr.add ⟨s1.size, 0, none⟩ 0) (.int .i64 (if 1 ≤ k then (plcP rd m n off i).1 else 1)) ∧ Own t (Addr.add ⟨s1.size, 0, none⟩ 1) (.int .i64 (if 2 ≤ k then (plcP rd m n off i).2 else 1))) (fun n7 _ => (2 - n7).toNat) 0 s4
    ⟨Kp.refl _, 0, by omega, rfl, q0, q1⟩ ?_
  rintro n7 t ⟨kt, k, hk, rfl, w0, w1⟩
  have et : Ext s t := ⟨Nat.le_trans e04.1 kt.1, fun b hb => by rw [kt.2 b (Nat.lt_of_lt_of_le hb e04.1) (by omega)]; exact e04.2 b hb⟩
  have a4 : ∀ j u, [Value.pointer (some (Addr.add ⟨s1.size, 0, none⟩ 0)), Value.func (.func 55) #[.pointer (some p)] #[], Value.pointer (some (Addr.add ⟨s1.size, 0, none⟩ 1)), Value.func (.func 56) #[.pointer (some p)] #[]][j]? = some u → cellAt t ⟨s3.size, j, none⟩ = some u := fun j u hj => kt.cell (by show ¬ s3.size = s1.size; omega) (n4 j u hj).cell
  unfold B_rank_table_place_0
  refine BR_dec (fun h1 => ?_) (fun h1 => ?_)
  · have hw : IntKind.i64.wrap ((k : Int) + 1) = ((k + 1 : Nat) : Int) := by rw [wrap_i64 (by omega) (by omega)]; rfl
    have hms : ((2 : Int) - IntKind.i64.wrap ((k : Int) + 1)).toNat < ((2 : Int) - k).toNat := by rw [hw]; omega
    have hk2 : k = 0 ∨ k = 1 := by omega
    rcases hk2 with rfl | rfl
    · refine ⟨_, rfl, ⟨by decide, by decide⟩, _, a4 0 _ rfl, _, a4 1 _ rfl, ?_⟩
      refine NEWZ_rule zc_116 fun t2 f2 y2 u2 => ?_
      have v1 := u2 1 _ rfl
      refine WR_own (u2 0 _ rfl) rfl ?_
      refine WR_own (own_set_ne (.inr (by show (1 : Nat) ≠ 0; decide)) v1) rfl ?_
      generalize ht3 : setC (setC t2 (Addr.add ⟨t.size, 0, none⟩ 0) (.pointer (some (Addr.add ⟨s1.size, 0, none⟩ 0)))) (Addr.add ⟨t.size, 0, none⟩ 1) (.func (.func 55) #[.pointer (some p)] #[]) = t3
      have f3 : Ext t t3 := by rw [← ht3]; exact (f2.setC (by show t.size ≤ t.size; omega)).setC (by show t.size ≤ t.size; omega)
      have d0 : cellAt t3 (Addr.add ⟨t.size, 0, none⟩ 0) = some (.pointer (some (Addr.add ⟨s1.size, 0, none⟩ 0))) := by rw [← ht3]; exact (own_set_ne (.inr (by show (0 : Nat) ≠ 1; decide)) (own_set (u2 0 _ rfl))).cell
      have d1 : cellAt t3 (Addr.add ⟨t.size, 0, none⟩ 1) = some (.func (.func 55) #[.pointer (some p)] #[]) := by rw [← ht3]; exact (own_set (own_set_ne (.inr (by show (1 : Nat) ≠ 0; decide)) v1)).cell
      have htz : s4.size ≤ t.size := kt.1
      refine ⟨_, ((ht.ext et).ext f3).men, ?_⟩
      refine place_in (s0 := s) (f := fun o => befP rd false m off o i) (g := F_rank_table_surely) (q := Addr.add ⟨s1.size, 0, none⟩ 0) hn6 (et.trans f3) g0 d0 d1 (by show t.size ≠ s1.size; omega) (by show s.size ≤ s1.size; omega) (f3.own w0) fun t4 k4 kk4 o4 => ?_
      refine ⟨_, rfl, ⟨(kt.ext f3).trans k4, 1, by omega, hw, o4, kk4 (Addr.add ⟨s1.size, 0, none⟩ 1) _ (by show (1 : Nat) ≠ 0; decide) (f3.own w1)⟩, hms⟩
    · refine ⟨_, rfl, ⟨by decide, by decide⟩, _, a4 2 _ rfl, _, a4 3 _ rfl, ?_⟩
      refine NEWZ_rule zc_116 fun t2 f2 y2 u2 => ?_
      have v1 := u2 1 _ rfl
      refine WR_own (u2 0 _ rfl) rfl ?_
      refine WR_own (own_set_ne (.inr (by show (1 : Nat) ≠ 0; decide)) v1) rfl ?_
      generalize ht3 : setC (setC t2 (Addr.add ⟨t.size, 0, none⟩ 0) (.pointer (some (Addr.add ⟨s1.size, 0, none⟩ 1)))) (Addr.add ⟨t.size, 0, none⟩ 1) (.func (.func 56) #[.pointer (some p)] #[]) = t3
      have f3 : Ext t t3 := by rw [← ht3]; exact (f2.setC (by show t.size ≤ t.size; omega)).setC (by show t.size ≤ t.size; omega)
      have d0 : cellAt t3 (Addr.add ⟨t.size, 0, none⟩ 0) = some (.pointer (some (Addr.add ⟨s1.size, 0, none⟩ 1))) := by rw [← ht3]; exact (own_set_ne (.inr (by show (0 : Nat) ≠ 1; decide)) (own_set (u2 0 _ rfl))).cell
      have d1 : cellAt t3 (Addr.add ⟨t.size, 0, none⟩ 1) = some (.func (.func 56) #[.pointer (some p)] #[]) := by rw [← ht3]; exact (own_set (own_set_ne (.inr (by show (1 : Nat) ≠ 0; decide)) v1)).cell
      have htz : s4.size ≤ t.size := kt.1
      refine ⟨_, ((ht.ext et).ext f3).men, ?_⟩
      refine place_in (s0 := s) (f := fun o => befP rd true m off o i) (g := F_rank_table_can) (q := Addr.add ⟨s1.size, 0, none⟩ 1) hn6 (et.trans f3) g1 d0 d1 (by show t.size ≠ s1.size; omega) (by show s.size ≤ s1.size; omega) (f3.own w1) fun t4 k4 kk4 o4 => ?_
      refine ⟨_, rfl, ⟨(kt.ext f3).trans k4, 2, by omega, hw, kk4 (Addr.add ⟨s1.size, 0, none⟩ 0) _ (by show (0 : Nat) ≠ 1; decide) (f3.own w0), o4⟩, hms⟩
  · have hk2 : k = 2 := by omega
    subst hk2
    rw [if_pos (by omega)] at w0 w1
    refine ⟨_, w0.cell, _, w1.cell, ?_⟩
    have r0' := kt.own (by show ¬ s.size = s1.size; omega) r0
    have r1' := kt.own (by show ¬ s.size = s1.size; omega) r1
    refine WR_own r0' rfl ?_
    refine WR_own (own_set_ne (.inr (by show (1 : Nat) ≠ 0; decide)) r1') rfl ?_
    refine ⟨_, (own_set_ne (.inr (by show (0 : Nat) ≠ 1; decide)) (own_set r0')).cell, _, (own_set (own_set_ne (.inr (by show (1 : Nat) ≠ 0; decide)) r1')).cell, ?_⟩
    exact h _ ((et.setC (by show s.size ≤ s.size; omega)).setC (by show s.size ≤ s.size; omega))
end
end Go.Proofs.Ytkgcbfbbcaajpaa.G

/- Rank: a table is opened. -/
set_option linter.unusedSimpArgs false
set_option linter.unusedVariables false
set_option maxRecDepth 20000
namespace Go.Proofs.Ytkgcbfbbcaajpaa.G
open Go.V
structure Sc where
  man : Int
  sheet : Int
  lo : Int
  hi : Int
  deriving DecidableEq, Inhabited
structure Tb where
  men : Int
  sheets : Int
  off : List Int
  sc : List Sc
def Sc.pr (x : Sc) : Pr := ((x.man, x.sheet), (x.lo, x.hi))
def okSc (T : Tb) (l : List Pr) (x : Sc) : Bool := decide (0 ≤ x.man ∧ x.man ≤ T.men - 1) && (decide (0 ≤ x.sheet ∧ x.sheet ≤ T.sheets - 1) && ((findA (x.man, x.sheet) l 0).isNone && (decide (0 ≤ x.lo) && (decide (x.lo ≤ x.hi) && decide (x.hi ≤ 40)))))
def okS (T : Tb) : List Pr → List Sc → Bool
  | _, [] => true
  | l, x :: r => okSc T l x && okS T (l ++ [x.pr]) r
def badO (x : Int) : Bool := !decide (0 ≤ x ∧ x ≤ 100)
/-- Is a table valid? -/
def okT (T : Tb) : Bool := decide (1 ≤ T.men ∧ T.men ≤ 6) && (decide (1 ≤ T.sheets ∧ T.sheets ≤ 5) && (decide ((T.off.length : Int) = T.men) && (!T.off.any badO && (decide (T.sc.length ≤ 30) && okS T [] T.sc))))
def prs (T : Tb) : List Pr := T.sc.map Sc.pr
def Tb.n (T : Tb) : Nat := T.men.toNat
def Tb.m (T : Tb) : Nat := T.sheets.toNat
theorem okS_all {T : Tb} : ∀ (r : List Sc) (l : List Pr), okS T l r = true → ∀ x ∈ r, 0 ≤ x.lo ∧ x.lo ≤ x.hi ∧ x.hi ≤ 40
  | [], _, _, x, hx => by cases hx
  | y :: r, l, h, x, hx => by
    unfold okS at h
    simp only [Bool.and_eq_true] at h
    rcases List.mem_cons.1 hx with rfl | hx
    · have := h.1
      unfold okSc at this
      simp only [Bool.and_eq_true, decide_eq_true_eq] at this
      exact ⟨this.2.2.2.1, this.2.2.2.2.1, this.2.2.2.2.2⟩
    · exact okS_all r _ h.2 x hx
theorem okT_iff {T : Tb} : okT T = true ↔ (1 ≤ T.men ∧ T.men ≤ 6) ∧ (1 ≤ T.sheets ∧ T.sheets ≤ 5) ∧ (T.off.length : Int) = T.men ∧ T.off.any badO = false ∧ T.sc.length ≤ 30 ∧ okS T [] T.sc = true := by
  unfold okT
  simp only [Bool.and_eq_true, decide_eq_true_eq, Bool.not_eq_true']
theorem okT_vd {T : Tb} (h : okT T = true) : VdT T.n T.m T.off (prs T) := by
  obtain ⟨h1, h2, h3, h4, h5, h6⟩ := okT_iff.1 h
  refine ⟨?_, ?_, ?_, ?_, ?_, ?_, ?_⟩
  · unfold Tb.n; omega
  · unfold Tb.n; omega
  · unfold Tb.m; omega
  · unfold Tb.m; omega
  · unfold Tb.n; omega
  · intro x hx
    have := List.any_eq_false.1 h4 x hx
    unfold badO at this
    simpa using this
  · intro x hx
    obtain ⟨y, hy, rfl⟩ := List.mem_map.1 hx
    exact okS_all _ _ h6 y hy
/-- Scores as they lie. -/
def ScAt (s : Hp) (y : Option Addr) (sc : List Sc) : Prop := ∀ i, (h : i < sc.length) → ∃ a, y = some a ∧ cellAt s ((a.add (i * 4)).add 0) = some (.int .i64 sc[i].man) ∧ cellAt s ((a.add (i * 4)).add 1) = some (.int .i64 sc[i].sheet) ∧ cellAt s ((a.add (i * 4)).add 2) = some (.int .i64 sc[i].lo) ∧ cellAt s ((a.add (i * 4)).add 3) = some (.int .i64 sc[i].hi)
theorem ScAt.ext {s s' : Hp} {y : Option Addr} {sc : List Sc} (e : Ext s s') (h : ScAt s y sc) : ScAt s' y sc := fun i hi => by
  obtain ⟨a, h0, h1, h2, h3, h4⟩ := h i hi
  exact ⟨a, h0, e.cell h1, e.cell h2, e.cell h3, e.cell h4⟩
section
variable {W : World} {K : VK} {E : List PanicEntry → Hp → Prop} {s : Hp} {p : Addr} {T : Tb}
theorem c_contains {x : Option Addr} {c : Nat} {ds : List Int} (hx : RowAt s x (ints ds)) (hl : ds.length ≤ 100000) (h : K (.bool (ds.any badO)) s) : CALL Pg W F_slices_ContainsFunc_int_int [.slice x ds.length c, .func (.func 72) #[] #[]] K E s := by
  refine does_slices_ContainsFunc_int_int W x _ c _ _ s ?_
  unfold T_slices_ContainsFunc_int_int
  refine does_slices_IndexFunc_int_int W x _ c _ _ s ?_
  unfold T_slices_IndexFunc_int_int
  refine L_slices_IndexFunc_int_int_0_rule W _ x ds.length c _ ds.length (fun _ n t => t = s ∧ ∃ k : Nat, k ≤ ds.length ∧ n = k ∧ ∀ j, j < k → badO (ds.getD j 0) = false) (fun _ n _ => (ds.length - n).toNat) 0 0 s ⟨rfl, 0, by omega, rfl, fun j hj => by omega⟩ ?_
  rintro n5 n6 t ⟨rfl, k, hk, rfl, hz⟩
  unfold B_slices_IndexFunc_int_int_0
  refine BR_dec (fun h1 => ?_) (fun h1 => ?_)
  · have hkl : k < ds.length := by omega
    obtain ⟨a, ha, g⟩ := row_int hx hkl
    have tk : ((k : Int)).toNat = k := by omega
    refine ⟨a, ha, ⟨by omega, by omega⟩, _, by rw [tk]; exact g, ?_⟩
    refine CALLV_func ?_
    refine does_rank_open_c1 W _ _ t ?_
    unfold T_rank_open_c1
    refine c_within ?_
    try simp only [TUP_mk, AGG_mk, HD_mk, NL_mk, TYI_mk, TYB_mk, TYP_mk, TYL_mk, TYS_mk, TYM_mk, SO_mk, NX_mk, endK_mk, endK_mk', add_0]
    have hb : (!decide (0 ≤ ds.getD k 0 ∧ ds.getD k 0 ≤ 100)) = badO (ds.getD k 0) := rfl
    refine BR_bool (fun h2 => ?_) (fun h2 => ?_)
    · try simp only [TUP_mk, AGG_mk, HD_mk, NL_mk, TYI_mk, TYB_mk, TYP_mk, TYL_mk, TYS_mk, TYM_mk, SO_mk, NX_mk, endK_mk, endK_mk', add_0]
      have hany : ds.any badO = true := List.any_eq_true.2 ⟨ds[k], List.getElem_mem hkl, by rw [show ds[k] = ds.getD k 0 by simp [List.getD, hkl]]; exact h2⟩
      rw [hany] at h
      have : decide ((k : Int) ≥ 0) = true := decide_eq_true (by omega)
      rw [this]; exact h
    · have hw : IntKind.i64.wrap ((k : Int) + 1) = ((k + 1 : Nat) : Int) := by rw [wrap_i64 (by omega) (by omega)]; rfl
      refine ⟨_, _, rfl, ⟨rfl, k + 1, by omega, hw, fun j hj => ?_⟩, ?_⟩
      · by_cases e : j = k
        · subst e; exact h2
        · exact hz j (by omega)
      · show ((ds.length : Int) - IntKind.i64.wrap ((k : Int) + 1)).toNat < ((ds.length : Int) - k).toNat
        rw [hw]; omega
  · have hany : ds.any badO = false := List.any_eq_false.2 fun y hy => by
      obtain ⟨j, hj, rfl⟩ := List.mem_iff_getElem.1 hy
      have := hz j (by omega)
      rw [show ds.getD j 0 = ds[j] by simp [List.getD, hj]] at this
      rw [this]; simp
    rw [hany] at h
    try simp only [TUP_mk, AGG_mk, HD_mk, NL_mk, TYI_mk, TYB_mk, TYP_mk, TYL_mk, TYS_mk, TYM_mk, SO_mk, NX_mk, endK_mk, endK_mk', add_0]
    exact h
/-- As 'TabO', with the map's place. -/
structure TabR (s : Hp) (p : Addr) (r : Nat) (n m : Nat) (off : List Int) (l : List Pr) : Prop where
  men : cellAt s ((p.add 0).add 0) = some (.int .i64 n)
  sheets : cellAt s ((p.add 0).add 1) = some (.int .i64 m)
  off : ∃ x c, cellAt s ((p.add 0).add 2) = some (.slice x off.length c) ∧ RowAt s x (ints off)
  at' : cellAt s (p.add 4) = some (.map (some r))
  map : ∃ es cl, s[r]? = some (.map es cl) ∧ Holds es l
theorem TabR.tab {r n m : Nat} {off : List Int} {l : List Pr} (h : TabR s p r n m off l) : TabO s p n m off l := ⟨h.men, h.sheets, h.off, by obtain ⟨es, cl, h1, h2⟩ := h.map; exact ⟨r, es, cl, h.at', h1, h2⟩⟩
theorem TabR.ext {s' : Hp} {r n m : Nat} {off : List Int} {l : List Pr} (e : Ext s s') (h : TabR s p r n m off l) : TabR s' p r n m off l where
  men := e.cell h.men
  sheets := e.cell h.sheets
  off := by obtain ⟨x, c, h1, h2⟩ := h.off; exact ⟨x, c, e.cell h1, h2.ext e⟩
  at' := e.cell h.at'
  map := by obtain ⟨es, cl, h2, h3⟩ := h.map; exact ⟨es, cl, by rw [e.2 _ (obj_lt h2)]; exact h2, h3⟩
theorem cells_obj {s : Hp} {a : Addr} {v : Value} {r cl : Nat} {es : Array MapEntry} (h : cellAt s a = some v) (hr : s[r]? = some (.map es cl)) : a.block ≠ r := fun e => by
  obtain ⟨c, t, f, hb⟩ := block_of_cell h
  rw [e, hr] at hb
  cases hb
/-- A map that is changed. -/
theorem TabR.put {s' : Hp} {r n m cl' : Nat} {off : List Int} {l l' : List Pr} {es' : Array MapEntry} (k : Kp (· = r) s s') (hr : s'[r]? = some (.map es' cl')) (hh : Holds es' l') (h : TabR s p r n m off l) : TabR s' p r n m off l' := by
  obtain ⟨es, cl, h2, h3⟩ := h.map
  have kc : ∀ {a : Addr} {v : Value}, cellAt s a = some v → cellAt s' a = some v := fun hc => k.cell (cells_obj hc h2) hc
  refine ⟨kc h.men, kc h.sheets, ?_, kc h.at', ⟨es', cl', hr, hh⟩⟩
  obtain ⟨x, c, g1, g2⟩ := h.off
  refine ⟨x, c, kc g1, fun i hi => ?_⟩
  obtain ⟨a, ha, g⟩ := g2 i hi
  exact ⟨a, ha, kc g⟩
end
end Go.Proofs.Ytkgcbfbbcaajpaa.G

/- Rank: a table is opened. -/
set_option linter.unusedSimpArgs false
set_option linter.unusedVariables false
set_option maxRecDepth 20000
namespace Go.Proofs.Ytkgcbfbbcaajpaa.G
open Go.V
theorem MKM_rule {K : Nat → Hp → Prop} {s : Hp} (h : ∀ s', Ext s s' → s'.size = s.size + 1 → s'[s.size]? = some (.map #[] 0) → K s.size s') : MKM K s :=
  h _ (Ext.push (Ext.refl s)) (by simp) (by simp)
section
variable {W : World} {K : VK} {E : List PanicEntry → Hp → Prop} {s : Hp} {p : Addr} {T : Tb}
theorem look_none {l : List Pr} {k : Int × Int} : (findA k l 0).isNone = !(look l k).2 := by
  unfold look
  cases findA k l 0 <;> rfl
theorem put_none {l : List Pr} {k v : Int × Int} (h : (look l k).2 = false) : put l k v = l ++ [(k, v)] := by
  unfold look at h
  unfold put
  cases hf : findA k l 0 with
  | none => rfl
  | some x => rw [hf] at h; cases h
theorem open_chain {R : Ending → Hp → Prop} {za0 : Addr} {zp1 : Option Addr} {zl2 zl3 r n m B59 P Q : Nat} {zn4 n53 : Int} {nx0 : List Value → Hp → Prop} {off : List Int} {l : List Pr} {c : Sc} {t : Hp} (tb : TabR t za0 r n m off l) (hn : (n : Int) = T.men) (hm : (m : Int) = T.sheets) (hn6 : n ≤ 6) (hm5 : m ≤ 5)
    (p0 : cellAt t ⟨P, 0, none⟩ = some (.int .i64 c.man)) (p1 : cellAt t ⟨P, 1, none⟩ = some (.int .i64 c.sheet)) (q0 : cellAt t ⟨Q, 0, none⟩ = some (.int .i64 c.lo)) (q1 : cellAt t ⟨Q, 1, none⟩ = some (.int .i64 c.hi)) (b0 : cellAt t ⟨B59, 0, none⟩ = some (.int .i64 c.man)) (b1 : cellAt t ⟨B59, 1, none⟩ = some (.int .i64 c.sheet))
    (hg : okSc T l c = true → ∀ t', Kp (· = r) t t' → TabR t' za0 r n m off (l ++ [c.pr]) → nx0 [.int .i64 (IntKind.wrap .i64 (n53 + 1))] t')
    (hb : okSc T l c = false → R (.panicked (pn 1)) t) : J_rank_open_8 W R B59 za0 (look l (c.man, c.sheet)).2 (some ⟨Q, 0, none⟩) (some ⟨P, 0, none⟩) zp1 zl2 zl3 zn4 nx0 n53 t := by
  have hok : okSc T l c = (decide (0 ≤ c.man ∧ c.man ≤ (n : Int) - 1) && (decide (0 ≤ c.sheet ∧ c.sheet ≤ (m : Int) - 1) && ((!(look l (c.man, c.sheet)).2) && (decide (0 ≤ c.lo) && (decide (c.lo ≤ c.hi) && decide (c.hi ≤ 40)))))) := by
    unfold okSc; rw [hn, hm, look_none]
  have j3 : ∀ b : Bool, (b = true → okSc T l c = true) → (b = false → okSc T l c = false) → J_rank_open_3 W R b za0 (some ⟨P, 0, none⟩) (some ⟨Q, 0, none⟩) zp1 zl2 zl3 zn4 nx0 n53 t := by
    intro b h1 h2
    unfold J_rank_open_3
    refine c_must (fun hbt => ?_) (fun hbf => hb (h2 hbf))
    try simp only [TUP_mk, AGG_mk, HD_mk, NL_mk, TYI_mk, TYB_mk, TYP_mk, TYL_mk, TYS_mk, TYM_mk, SO_mk, NX_mk, endK_mk, endK_mk', add_0]
    have hT := h1 hbt
    obtain ⟨es, cl, g1, g2⟩ := tb.map
    refine ⟨_, tb.at', _, p0, _, p1, _, q0, _, q1, ?_⟩
    refine MUP_score (k := (c.man, c.sheet)) (v := (c.lo, c.hi)) g1 g2 fun t' es' cl' k z h3 h4 => ?_
    have hl : (look l (c.man, c.sheet)).2 = false := by
      rw [hok] at hT
      simp only [Bool.and_eq_true, Bool.not_eq_true'] at hT
      exact hT.2.2.1
    rw [put_none hl] at h4
    exact hg hT t' k (tb.put k h3 h4)
  have j4 : ∀ b : Bool, (b = true → okSc T l c = decide (c.hi ≤ 40)) → (b = false → okSc T l c = false) → J_rank_open_4 W R b (some ⟨Q, 0, none⟩) za0 (some ⟨P, 0, none⟩) zp1 zl2 zl3 zn4 nx0 n53 t := by
    intro b h1 h2
    unfold J_rank_open_4
    refine BR_bool (fun hbt => ?_) (fun hbf => j3 _ (fun hh => by cases hh) (fun _ => h2 hbf))
    refine ⟨_, q1, j3 _ (fun hh => by rw [h1 hbt]; exact hh) (fun hh => by rw [h1 hbt]; exact hh)⟩
  have j5 : ∀ b : Bool, (b = true → okSc T l c = (decide (c.lo ≤ c.hi) && decide (c.hi ≤ 40))) → (b = false → okSc T l c = false) → J_rank_open_5 W R b (some ⟨Q, 0, none⟩) za0 (some ⟨P, 0, none⟩) zp1 zl2 zl3 zn4 nx0 n53 t := by
    intro b h1 h2
    unfold J_rank_open_5
    refine BR_bool (fun hbt => ?_) (fun hbf => j4 _ (fun hh => by cases hh) (fun _ => h2 hbf))
    refine ⟨_, q0, _, q1, j4 _ (fun hh => by rw [h1 hbt, hh, Bool.true_and]) (fun hh => by rw [h1 hbt, hh, Bool.false_and])⟩
  have j6 : ∀ b : Bool, (b = true → okSc T l c = (decide (0 ≤ c.lo) && (decide (c.lo ≤ c.hi) && decide (c.hi ≤ 40)))) → (b = false → okSc T l c = false) → J_rank_open_6 W R b (some ⟨Q, 0, none⟩) za0 (some ⟨P, 0, none⟩) zp1 zl2 zl3 zn4 nx0 n53 t := by
    intro b h1 h2
    unfold J_rank_open_6
    refine BR_bool (fun hbt => ?_) (fun hbf => j5 _ (fun hh => by cases hh) (fun _ => h2 hbf))
    refine ⟨_, q0, j5 _ (fun hh => by rw [h1 hbt, hh, Bool.true_and]) (fun hh => by rw [h1 hbt, hh, Bool.false_and])⟩
  have j7 : ∀ b : Bool, (b = true → okSc T l c = ((!(look l (c.man, c.sheet)).2) && (decide (0 ≤ c.lo) && (decide (c.lo ≤ c.hi) && decide (c.hi ≤ 40))))) → (b = false → okSc T l c = false) → J_rank_open_7 W R b (look l (c.man, c.sheet)).2 (some ⟨Q, 0, none⟩) za0 (some ⟨P, 0, none⟩) zp1 zl2 zl3 zn4 nx0 n53 t := by
    intro b h1 h2
    unfold J_rank_open_7
    refine BR_bool (fun hbt => ?_) (fun hbf => j6 _ (fun hh => by cases hh) (fun _ => h2 hbf))
    exact j6 _ (fun hh => by rw [h1 hbt, hh, Bool.true_and]) (fun hh => by rw [h1 hbt, hh, Bool.false_and])
  unfold J_rank_open_8
  refine ⟨_, b0, ?_⟩
  refine c_isMan tb.tab hn6 ?_
  try simp only [TUP_mk, AGG_mk, HD_mk, NL_mk, TYI_mk, TYB_mk, TYP_mk, TYL_mk, TYS_mk, TYM_mk, SO_mk, NX_mk, endK_mk, endK_mk', add_0]
  refine BR_bool (fun h1 => ?_) (fun h1 => j7 _ (fun hh => by cases hh) (fun _ => by rw [hok, h1, Bool.false_and]))
  refine ⟨_, b1, ?_⟩
  refine c_isSheet tb.tab hm5 ?_
  try simp only [TUP_mk, AGG_mk, HD_mk, NL_mk, TYI_mk, TYB_mk, TYP_mk, TYL_mk, TYS_mk, TYM_mk, SO_mk, NX_mk, endK_mk, endK_mk', add_0]
  exact j7 _ (fun hh => by rw [hok, h1, hh, Bool.true_and, Bool.true_and]) (fun hh => by rw [hok, h1, hh, Bool.false_and, Bool.and_false])
theorem open_look {R : Ending → Hp → Prop} {za0 : Addr} {zp1 : Option Addr} {zl2 zl3 r n m B59 P Q : Nat} {zn4 n53 : Int} {nx0 : List Value → Hp → Prop} {off : List Int} {l : List Pr} {c : Sc} {t : Hp} (tb : TabR t za0 r n m off l) (hn : (n : Int) = T.men) (hm : (m : Int) = T.sheets) (hn6 : n ≤ 6) (hm5 : m ≤ 5)
    (p0 : cellAt t ⟨P, 0, none⟩ = some (.int .i64 c.man)) (p1 : cellAt t ⟨P, 1, none⟩ = some (.int .i64 c.sheet)) (q0 : cellAt t ⟨Q, 0, none⟩ = some (.int .i64 c.lo)) (q1 : cellAt t ⟨Q, 1, none⟩ = some (.int .i64 c.hi)) (b0 : cellAt t ⟨B59, 0, none⟩ = some (.int .i64 c.man)) (b1 : cellAt t ⟨B59, 1, none⟩ = some (.int .i64 c.sheet))
    (hg : okSc T l c = true → ∀ t', Kp (· = r) t t' → TabR t' za0 r n m off (l ++ [c.pr]) → nx0 [.int .i64 (IntKind.wrap .i64 (n53 + 1))] t')
    (hb : okSc T l c = false → ∀ t', Ext t t' → R (.panicked (pn 1)) t') : J_rank_open_9 W R za0 (some ⟨P, 0, none⟩) B59 (some ⟨Q, 0, none⟩) zp1 zl2 zl3 zn4 nx0 n53 t := by
  obtain ⟨es, cl, g1, g2⟩ := tb.map
  have fin : ∀ t2, Ext t t2 → J_rank_open_8 W R B59 za0 (look l (c.man, c.sheet)).2 (some ⟨Q, 0, none⟩) (some ⟨P, 0, none⟩) zp1 zl2 zl3 zn4 nx0 n53 t2 := fun t2 e =>
    open_chain (tb.ext e) hn hm hn6 hm5 (e.cell p0) (e.cell p1) (e.cell q0) (e.cell q1) (e.cell b0) (e.cell b1) (fun h t' k h' => hg h t' ⟨Nat.le_trans e.1 k.1, fun b hb' hc => (k.2 b (Nat.lt_of_lt_of_le hb' e.1) hc).trans (e.2 b hb')⟩ h') (fun h => hb h t2 e)
  unfold J_rank_open_9
  refine ⟨_, tb.at', _, p0, _, p1, CONJ_two ?_ ?_⟩
  · refine LKP_score (k := (c.man, c.sheet)) g1 g2 ?_
    unfold keyV
    try simp only [TUP_mk, AGG_mk, HD_mk, NL_mk, TYI_mk, TYB_mk, TYP_mk, TYL_mk, TYS_mk, TYM_mk, SO_mk, NX_mk, endK_mk, endK_mk', add_0]
    refine NEWZ_rule zc_29 fun s4 e4 z4 n4 => ?_
    refine ⟨⟨_, e4.cell p0, _, e4.cell p1, rfl⟩, ⟨_, e4.cell tb.at', rfl⟩, ?_⟩
    have o1 := n4 1 _ rfl
    refine WR_own (n4 0 _ rfl) rfl ?_
    refine WR_own (own_set_ne (.inr (by show (1 : Nat) ≠ 0; decide)) o1) rfl ?_
    exact fin _ ((e4.setC (by show t.size ≤ t.size; omega)).setC (by show t.size ≤ t.size; omega))
  · refine NEWZ_rule zc_29 fun s4 e4 z4 n4 => ?_
    refine ⟨⟨_, e4.cell p0, _, e4.cell p1, rfl⟩, ⟨_, e4.cell tb.at', rfl⟩, ?_⟩
    refine LKP_score (k := (c.man, c.sheet)) (by rw [e4.2 _ (obj_lt g1)]; exact g1) g2 ?_
    unfold keyV
    try simp only [TUP_mk, AGG_mk, HD_mk, NL_mk, TYI_mk, TYB_mk, TYP_mk, TYL_mk, TYS_mk, TYM_mk, SO_mk, NX_mk, endK_mk, endK_mk', add_0]
    have o1 := n4 1 _ rfl
    refine WR_own (n4 0 _ rfl) rfl ?_
    refine WR_own (own_set_ne (.inr (by show (1 : Nat) ≠ 0; decide)) o1) rfl ?_
    exact fin _ ((e4.setC (by show t.size ≤ t.size; omega)).setC (by show t.size ≤ t.size; omega))
end
end Go.Proofs.Ytkgcbfbbcaajpaa.G

/- Rank: a table is opened. -/
set_option linter.unusedSimpArgs false
set_option linter.unusedVariables false
set_option maxRecDepth 20000
namespace Go.Proofs.Ytkgcbfbbcaajpaa.G
open Go.V
theorem wr4 {s : Hp} {a : Addr} {v0 v1 v2 v3 : Value} {K : Hp → Prop} (h0 : oneCell v0 = true) (h1 : oneCell v1 = true) (h2 : oneCell v2 = true) (h3 : oneCell v3 = true) (ha : ∀ j, j < 4 → ∃ y, Own s (a.add j) y) (h : ∀ s', Kp (· = a.block) s s' → s'.size = s.size → Own s' (a.add 0) v0 → Own s' (a.add 1) v1 → Own s' (a.add 2) v2 → Own s' (a.add 3) v3 → K s') :
    (WR (a.add 0) v0 <| WR (a.add 1) v1 <| WR (a.add 2) v2 <| WR (a.add 3) v3 <| K) s := by
  show wrN [v0, v1, v2, v3] a 0 K s
  refine wrN_rule _ a 0 K s (fun i hi => ?_) ?_ ?_
  · rw [Nat.zero_add]; exact ha i hi
  · intro w hw
    simp at hw
    rcases hw with rfl | rfl | rfl | rfl <;> assumption
  · intro s' k z ho _
    exact h s' k z (ho 0 (by simp)) (ho 1 (by simp)) (ho 2 (by simp)) (ho 3 (by simp))
theorem wr2 {s : Hp} {a : Addr} {v0 v1 : Value} {K : Hp → Prop} (h0 : oneCell v0 = true) (h1 : oneCell v1 = true) (ha : ∀ j, j < 2 → ∃ y, Own s (a.add j) y) (h : ∀ s', Kp (· = a.block) s s' → s'.size = s.size → Own s' (a.add 0) v0 → Own s' (a.add 1) v1 → K s') :
    (WR (a.add 0) v0 <| WR (a.add 1) v1 <| K) s := by
  show wrN [v0, v1] a 0 K s
  refine wrN_rule _ a 0 K s (fun i hi => ?_) ?_ ?_
  · rw [Nat.zero_add]; exact ha i hi
  · intro w hw
    simp at hw
    rcases hw with rfl | rfl <;> assumption
  · intro s' k z ho _
    exact h s' k z (ho 0 (by simp)) (ho 1 (by simp))
theorem new2 {s : Hp} {b : Nat} {v0 v1 : Value} (n1 : ∀ i v, [v0, v1][i]? = some v → Own s ⟨b, i, none⟩ v) : ∀ j, j < 2 → ∃ y, Own s ((⟨b, 0, none⟩ : Addr).add j) y := by
  intro j hj
  match j, hj with
  | 0, _ => exact ⟨_, n1 0 _ rfl⟩
  | 1, _ => exact ⟨_, n1 1 _ rfl⟩
theorem new4 {s : Hp} {b : Nat} {v0 v1 v2 v3 : Value} (n1 : ∀ i v, [v0, v1, v2, v3][i]? = some v → Own s ⟨b, i, none⟩ v) : ∀ j, j < 4 → ∃ y, Own s ((⟨b, 0, none⟩ : Addr).add j) y := by
  intro j hj
  match j, hj with
  | 0, _ => exact ⟨_, n1 0 _ rfl⟩
  | 1, _ => exact ⟨_, n1 1 _ rfl⟩
  | 2, _ => exact ⟨_, n1 2 _ rfl⟩
  | 3, _ => exact ⟨_, n1 3 _ rfl⟩
theorem ext_own {s0 s s' : Hp} {a : Addr} (e : Ext s0 s) (h : s0.size ≤ a.block) (k : Kp (· = a.block) s s') : Ext s0 s' := ⟨Nat.le_trans e.1 k.1, fun q hq => by
  rw [k.2 q (Nat.lt_of_lt_of_le hq e.1) (fun hh => by have : q = a.block := hh; omega)]
  exact e.2 q hq⟩
section
variable {W : World} {K : VK} {E : List PanicEntry → Hp → Prop} {s : Hp} {p : Addr} {T : Tb}
theorem open_loop {R : Ending → Hp → Prop} {za0 : Addr} {y : Option Addr} {c' r n m : Nat} {off : List Int} {s0 t0 : Hp} (tb : TabR t0 za0 r n m off []) (hn : (n : Int) = T.men) (hm : (m : Int) = T.sheets) (hn6 : n ≤ 6) (hm5 : m ≤ 5) (hy : ScAt s0 y T.sc) (e0 : Ext s0 t0) (hr : s0.size ≤ r) (h30 : T.sc.length ≤ 30)
    (hg : okS T [] T.sc = true → ∀ t, Ext s0 t → TabR t za0 r n m off (prs T) → R (.returned (.pointer (some za0))) t)
    (hb : okS T [] T.sc = false → ∀ t, Ext s0 t → R (.panicked (pn 1)) t) : L_rank_open_0 W R za0 y T.sc.length c' T.sc.length 0 t0 := by
  refine L_rank_open_0_rule W R za0 y T.sc.length c' T.sc.length (fun n53 t => Ext s0 t ∧ ∃ k : Nat, k ≤ T.sc.length ∧ n53 = k ∧ TabR t za0 r n m off ((T.sc.take k).map Sc.pr) ∧ okS T ((T.sc.take k).map Sc.pr) (T.sc.drop k) = okS T [] T.sc) (fun n53 _ => (T.sc.length - n53).toNat) 0 t0 ⟨e0, 0, by omega, rfl, tb, rfl⟩ ?_
  rintro n53 t ⟨et, k, hk, rfl, tbk, hok⟩
  unfold B_rank_open_0
  refine BR_dec (fun h1 => ?_) (fun h1 => ?_)
  · have hkl : k < T.sc.length := by omega
    obtain ⟨a, ha, g0, g1, g2, g3⟩ := hy k hkl
    have tk : ((k : Int)).toNat = k := by omega
    have hdrop : T.sc.drop k = T.sc[k] :: T.sc.drop (k + 1) := List.drop_eq_getElem_cons hkl
    have hcons : okS T ((T.sc.take k).map Sc.pr) (T.sc.drop k) = (okSc T ((T.sc.take k).map Sc.pr) T.sc[k] && okS T ((T.sc.take (k + 1)).map Sc.pr) (T.sc.drop (k + 1))) := by
      rw [hdrop, List.take_add_one, List.getElem?_eq_getElem hkl, List.map_append]
      rfl
    have htake : (T.sc.take (k + 1)).map Sc.pr = (T.sc.take k).map Sc.pr ++ [T.sc[k].pr] := by
      rw [List.take_add_one, List.getElem?_eq_getElem hkl, List.map_append]
      rfl
    refine ⟨a, ha, ⟨by omega, by omega⟩, ?_⟩
    rw [tk]
    refine ⟨_, et.cell g0, _, et.cell g1, _, et.cell g2, _, et.cell g3, ?_⟩
    refine NEWZ_rule zc_55 fun t1 e1 z1 n1 => ?_
    refine wr4 rfl rfl rfl rfl (new4 n1) fun t2 k2 z2 b0 b1 b2 b3 => ?_
    have e02 : Ext t t2 := ext_own e1 (Nat.le_refl _) k2
    refine ⟨_, b0.cell, _, b1.cell, _, b2.cell, _, b3.cell, ?_⟩
    have hw : IntKind.i64.wrap ((k : Int) + 1) = ((k + 1 : Nat) : Int) := by rw [wrap_i64 (by omega) (by omega)]; rfl
    have fin : ∀ (nx : List Value → Hp → Prop), (∀ t', Ext s0 t' → TabR t' za0 r n m off ((T.sc.take (k + 1)).map Sc.pr) → okS T ((T.sc.take (k + 1)).map Sc.pr) (T.sc.drop (k + 1)) = okS T [] T.sc → nx [.int .i64 (IntKind.wrap .i64 ((k : Int) + 1))] t') → ∀ (t5 : Hp) (P Q : Nat), Ext t2 t5 → cellAt t5 ⟨P, 0, none⟩ = some (.int .i64 T.sc[k].man) → cellAt t5 ⟨P, 1, none⟩ = some (.int .i64 T.sc[k].sheet) → cellAt t5 ⟨Q, 0, none⟩ = some (.int .i64 T.sc[k].lo) → cellAt t5 ⟨Q, 1, none⟩ = some (.int .i64 T.sc[k].hi) →
        J_rank_open_9 W R za0 (some ⟨P, 0, none⟩) t.size (some ⟨Q, 0, none⟩) y T.sc.length c' T.sc.length nx k t5 := by
      intro nx hnx t5 P Q e5 p0 p1 q0 q1
      have e25 := e02.trans e5
      refine open_look (c := T.sc[k]) (T := T) (tbk.ext e25) hn hm hn6 hm5 p0 p1 q0 q1 (e5.cell b0.cell) (e5.cell b1.cell) (fun hT t' k' h' => ?_) (fun hF t' e' => ?_)
      · refine hnx t' ?_ (by rw [htake]; exact h') (by rw [← hok, hcons, hT, Bool.true_and])
        have e05 := et.trans e25
        exact ⟨Nat.le_trans e05.1 k'.1, fun q hq => by
          rw [k'.2 q (Nat.lt_of_lt_of_le hq e05.1) (fun hh => by have : q = r := hh; omega)]
          exact e05.2 q hq⟩
      · refine hb ?_ t' (et.trans (e25.trans e'))
        rw [← hok, hcons, hF, Bool.false_and]
    have hms : ((T.sc.length : Int) - IntKind.i64.wrap ((k : Int) + 1)).toNat < ((T.sc.length : Int) - k).toNat := by rw [hw]; omega
    refine CONJ_two ?_ ?_
    · refine NEWZ_rule zc_94 fun t3 e3 z3 n3 => ?_
      refine ⟨⟨_, e3.cell b2.cell, _, e3.cell b3.cell, rfl⟩, ⟨_, e3.cell b1.cell, rfl⟩, ⟨_, e3.cell b0.cell, rfl⟩, ?_⟩
      refine NEWZ_rule zc_29 fun t4 e4 z4 n4 => ?_
      have e34 := e3.trans e4
      refine ⟨⟨_, e34.cell b2.cell, _, e34.cell b3.cell, rfl⟩, ⟨_, e34.cell b1.cell, rfl⟩, ⟨_, e34.cell b0.cell, rfl⟩, ?_⟩
      refine wr2 rfl rfl (fun j hj => by obtain ⟨y, hy⟩ := new2 n3 j hj; exact ⟨y, e4.own hy⟩) fun t5 k5 z5 c0 c1 => ?_
      have e25 : Ext t2 t5 := ext_own e34 (Nat.le_refl _) k5
      refine ⟨⟨_, e25.cell b2.cell, _, e25.cell b3.cell, rfl⟩, ?_⟩
      have hne : t3.size ≠ t2.size := by omega
      refine wr2 rfl rfl (fun j hj => by obtain ⟨y, hy⟩ := new2 n4 j hj; exact ⟨y, k5.own (by rw [add_blk]; exact hne) hy⟩) fun t6 k6 z6 d0 d1 => ?_
      have e26 : Ext t2 t6 := ext_own e25 (by show t2.size ≤ t3.size; omega) k6
      exact fin _ (fun t' a1 a2 a3 => ⟨_, rfl, ⟨a1, k + 1, by omega, hw, a2, a3⟩, hms⟩) t6 _ _ e26 (k6.own (by show ¬ t2.size = t3.size; omega) c0).cell (k6.own (by show ¬ t2.size = t3.size; omega) c1).cell d0.cell d1.cell
    · refine NEWZ_rule zc_29 fun t3 e3 z3 n3 => ?_
      refine ⟨⟨_, e3.cell b2.cell, _, e3.cell b3.cell, rfl⟩, ⟨_, e3.cell b1.cell, rfl⟩, ⟨_, e3.cell b0.cell, rfl⟩, ?_⟩
      refine NEWZ_rule zc_94 fun t4 e4 z4 n4 => ?_
      have e34 := e3.trans e4
      refine ⟨⟨_, e34.cell b2.cell, _, e34.cell b3.cell, rfl⟩, ⟨_, e34.cell b1.cell, rfl⟩, ⟨_, e34.cell b0.cell, rfl⟩, ?_⟩
      refine wr2 rfl rfl (new2 n4) fun t5 k5 z5 c0 c1 => ?_
      have e25 : Ext t2 t5 := ext_own e34 (by show t2.size ≤ t3.size; omega) k5
      refine ⟨⟨_, e25.cell b2.cell, _, e25.cell b3.cell, rfl⟩, ?_⟩
      have hne : ¬ t2.size = t3.size := by omega
      refine wr2 rfl rfl (fun j hj => by obtain ⟨y, hy⟩ := new2 n3 j hj; exact ⟨y, k5.own (by rw [add_blk]; exact hne) (e4.own hy)⟩) fun t6 k6 z6 d0 d1 => ?_
      have e26 : Ext t2 t6 := ext_own e25 (Nat.le_refl _) k6
      exact fin _ (fun t' a1 a2 a3 => ⟨_, rfl, ⟨a1, k + 1, by omega, hw, a2, a3⟩, hms⟩) t6 _ _ e26 (k6.own (by show ¬ t3.size = t2.size; omega) c0).cell (k6.own (by show ¬ t3.size = t2.size; omega) c1).cell d0.cell d1.cell
  · have hkl : k = T.sc.length := by omega
    subst hkl
    rw [List.take_length] at tbk hok
    rw [List.drop_length] at hok
    exact hg hok.symm t et tbk
end
end Go.Proofs.Ytkgcbfbbcaajpaa.G

/- Rank: a table is opened. -/
set_option linter.unusedSimpArgs false
set_option linter.unusedVariables false
set_option maxRecDepth 20000
namespace Go.Proofs.Ytkgcbfbbcaajpaa.G
open Go.V
section
variable {W : World} {K : VK} {E : List PanicEntry → Hp → Prop} {s : Hp} {p : Addr} {T : Tb}
theorem c_open {x y : Option Addr} {c c' : Nat} (hx : RowAt s x (ints T.off)) (hy : ScAt s y T.sc) (hlo : T.off.length ≤ 100000)
    (h1 : okT T = true → ∀ s' p r, Ext s s' → TabR s' p r T.n T.m T.off (prs T) → s.size ≤ p.block → s.size ≤ r → K (.pointer (some p)) s')
    (h2 : okT T = false → ∀ s', Ext s s' → E (pn 1) s') : CALL Pg W F_rank_open [.agg #[.int .i64 T.men, .int .i64 T.sheets, .slice x T.off.length c, .slice y T.sc.length c']] K E s := by
  refine does_rank_open W T.men T.sheets x T.off.length c y T.sc.length c' _ s ?_
  unfold T_rank_open
  refine NEW_rule fun s1 e1 z1 n1 _ => ?_
  have c0 := (n1 0 _ rfl).cell
  have c1 := (n1 1 _ rfl).cell
  have c2 := (n1 2 _ rfl).cell
  have c3 := (n1 3 _ rfl).cell
  refine ⟨_, c0, _, c1, _, _, _, c2, _, _, _, c3, ?_⟩
  refine MKM_rule fun s2 e2 z2 hm => ?_
  refine NEW_rule fun s3 e3 z3 n3 _ => ?_
  have e13 := e2.trans e3
  have e03 := e1.trans e13
  refine ⟨_, e13.cell c0, ?_⟩
  have hz1 : s1.size = s.size + 1 := z1
  have j0 : ∀ b : Bool, (b = true → okT T = (decide (T.sc.length ≤ 30) && okS T [] T.sc)) → (b = true → (1 ≤ T.men ∧ T.men ≤ 6) ∧ (1 ≤ T.sheets ∧ T.sheets ≤ 5)) → (b = false → okT T = false) → J_rank_open_0 W (endK K E) b s.size s2.size s3 := by
    intro b g1 g2 g3
    unfold J_rank_open_0
    refine c_must (fun hb => ?_) (fun hb => h2 (g3 hb) s3 e03)
    try simp only [TUP_mk, AGG_mk, HD_mk, NL_mk, TYI_mk, TYB_mk, TYP_mk, TYL_mk, TYS_mk, TYM_mk, SO_mk, NX_mk, endK_mk, endK_mk', add_0]
    obtain ⟨hmen, hsh⟩ := g2 hb
    refine ⟨_, _, _, e13.cell c3, ?_⟩
    refine c_must (fun hb2 => ?_) (fun hb2 => ?_)
    · try simp only [TUP_mk, AGG_mk, HD_mk, NL_mk, TYI_mk, TYB_mk, TYP_mk, TYL_mk, TYS_mk, TYM_mk, SO_mk, NX_mk, endK_mk, endK_mk', add_0]
      have h30 : T.sc.length ≤ 30 := by have := of_decide_eq_true hb2; omega
      have hok : okT T = okS T [] T.sc := by rw [g1 hb, decide_eq_true h30, Bool.true_and]
      refine ⟨_, _, _, e13.cell c3, ?_⟩
      have hn : ((T.n : Nat) : Int) = T.men := by unfold Tb.n; omega
      have hmm : ((T.m : Nat) : Int) = T.sheets := by unfold Tb.m; omega
      have tb : TabR s3 ⟨s2.size, 0, none⟩ s1.size T.n T.m T.off [] := by
        refine ⟨?_, ?_, ⟨_, _, (n3 2 _ rfl).cell, hx.ext e03⟩, (n3 4 _ rfl).cell, ⟨#[], 0, by rw [e3.2 _ (by omega)]; exact hm, ⟨rfl⟩⟩⟩
        · rw [hn]; exact (n3 0 _ rfl).cell
        · rw [hmm]; exact (n3 1 _ rfl).cell
      refine open_loop tb hn hmm (by unfold Tb.n; omega) (by unfold Tb.m; omega) hy e03 (by omega) h30 (fun hT t et tbt => ?_) (fun hF t et => ?_)
      · exact h1 (by rw [hok]; exact hT) t _ _ et tbt (by show s.size ≤ s2.size; omega) (by omega)
      · exact h2 (by rw [hok]; exact hF) t et
    · have hn30 : ¬ T.sc.length ≤ 30 := by have := of_decide_eq_false hb2; omega
      exact h2 (by rw [g1 hb, decide_eq_false hn30, Bool.false_and]) s3 e03
  have hokT : okT T = (decide (1 ≤ T.men ∧ T.men ≤ 6) && (decide (1 ≤ T.sheets ∧ T.sheets ≤ 5) && (decide ((T.off.length : Int) = T.men) && (!T.off.any badO && (decide (T.sc.length ≤ 30) && okS T [] T.sc))))) := rfl
  refine c_within ?_
  try simp only [TUP_mk, AGG_mk, HD_mk, NL_mk, TYI_mk, TYB_mk, TYP_mk, TYL_mk, TYS_mk, TYM_mk, SO_mk, NX_mk, endK_mk, endK_mk', add_0]
  have j1 : ∀ b : Bool, (b = true → okT T = (!T.off.any badO && (decide (T.sc.length ≤ 30) && okS T [] T.sc))) → (b = true → (1 ≤ T.men ∧ T.men ≤ 6) ∧ (1 ≤ T.sheets ∧ T.sheets ≤ 5)) → (b = false → okT T = false) → J_rank_open_1 W (endK K E) b s.size s2.size s3 := by
    intro b g1 g2 g3
    unfold J_rank_open_1
    refine BR_bool (fun hb => ?_) (fun hb => j0 _ (fun hh => by cases hh) (fun hh => by cases hh) (fun _ => g3 hb))
    refine ⟨_, _, _, e13.cell c2, ?_⟩
    refine c_contains (hx.ext e03) hlo ?_
    try simp only [TUP_mk, AGG_mk, HD_mk, NL_mk, TYI_mk, TYB_mk, TYP_mk, TYL_mk, TYS_mk, TYM_mk, SO_mk, NX_mk, endK_mk, endK_mk', add_0]
    exact j0 _ (fun hh => by rw [g1 hb, hh, Bool.true_and]) (fun _ => g2 hb) (fun hh => by rw [g1 hb, hh, Bool.false_and])
  have j2 : ∀ b : Bool, (b = true → okT T = (decide ((T.off.length : Int) = T.men) && (!T.off.any badO && (decide (T.sc.length ≤ 30) && okS T [] T.sc)))) → (b = true → (1 ≤ T.men ∧ T.men ≤ 6) ∧ (1 ≤ T.sheets ∧ T.sheets ≤ 5)) → (b = false → okT T = false) → J_rank_open_2 W (endK K E) b s.size s2.size s3 := by
    intro b g1 g2 g3
    unfold J_rank_open_2
    refine BR_bool (fun hb => ?_) (fun hb => j1 _ (fun hh => by cases hh) (fun hh => by cases hh) (fun _ => g3 hb))
    refine ⟨_, _, _, e13.cell c2, _, e13.cell c0, ?_⟩
    have hd : ((T.off.length : Int) == T.men) = decide ((T.off.length : Int) = T.men) := by rw [Bool.beq_eq_decide_eq]
    dsimp only
    rw [hd]
    exact j1 _ (fun hh => by rw [g1 hb, hh, Bool.true_and]) (fun _ => g2 hb) (fun hh => by rw [g1 hb, hh, Bool.false_and])
  refine BR_bool (fun hb => ?_) (fun hb => j2 _ (fun hh => by cases hh) (fun hh => by cases hh) (fun _ => by rw [hokT, hb, Bool.false_and]))
  refine ⟨_, e13.cell c1, ?_⟩
  refine c_within ?_
  try simp only [TUP_mk, AGG_mk, HD_mk, NL_mk, TYI_mk, TYB_mk, TYP_mk, TYL_mk, TYS_mk, TYM_mk, SO_mk, NX_mk, endK_mk, endK_mk', add_0]
  exact j2 _ (fun hh => by rw [hokT, hb, hh, Bool.true_and, Bool.true_and]) (fun hh => ⟨of_decide_eq_true hb, of_decide_eq_true hh⟩) (fun hh => by rw [hokT, hb, hh, Bool.true_and, Bool.false_and])
end
end Go.Proofs.Ytkgcbfbbcaajpaa.G

/- Rank: Sum, Before, Place. -/
set_option linter.unusedSimpArgs false
set_option linter.unusedVariables false
set_option maxRecDepth 20000
namespace Go.Proofs.Ytkgcbfbbcaajpaa.G
open Go.V
theorem zc_30 : zc Pg 30 = [.int .i64 0] := by kernel_rfl
def isM (T : Tb) (i : Int) : Prop := 0 ≤ i ∧ i ≤ T.men - 1
instance (T : Tb) (i : Int) : Decidable (isM T i) := by unfold isM; infer_instance
def offT (T : Tb) (i : Nat) : Int := T.off.getD i 0
def sumP (T : Tb) (i : Int) : (Int × Int) × Int := if okT T then (if isM T i then (((rowL (pts (prs T)) false T.m (offT T i.toNat) i).getD 0 0, (rowL (pts (prs T)) true T.m (offT T i.toNat) i).getD 0 0), 0) else ((0, 0), 2)) else ((0, 0), 1)
/-- Before: 2 surely, 1 perhaps, 0 never. -/
def befN (T : Tb) (a b : Nat) : Int := if befP (pts (prs T)) false T.m T.off a b then 2 else if befP (pts (prs T)) true T.m T.off a b then 1 else 0
def befR (T : Tb) (a b : Int) : Int × Int := if okT T then (if isM T a ∧ isM T b then (befN T a.toNat b.toNat, 0) else (0, 2)) else (0, 1)
def plcR (T : Tb) (i : Int) : (Int × Int) × Int := if okT T then (if isM T i then (plcP (pts (prs T)) T.m T.n T.off i.toNat, 0) else ((0, 0), 2)) else ((0, 0), 1)
theorem kp_new {s0 s s' : Hp} {b : Nat} (e : Ext s0 s) (h : s0.size ≤ b) (k : Kp (· = b) s s') : Ext s0 s' := ⟨Nat.le_trans e.1 k.1, fun q hq => by
  rw [k.2 q (Nat.lt_of_lt_of_le hq e.1) (fun hh => by have : q = b := hh; omega)]
  exact e.2 q hq⟩
section
variable {W : World} {K : VK} {E : List PanicEntry → Hp → Prop} {s : Hp} {T : Tb}
/-- What is told with a span. -/
theorem span_ok {t : Hp} {B C : Nat} {x : Int × Int} {y0 y1 z : Value} (b0 : Own t ⟨B, 0, none⟩ y0) (b1 : Own t ⟨B, 1, none⟩ y1) (c0 : Own t ⟨C, 0, none⟩ z) (hne : B ≠ C) (ext : Ext s t) (hB : s.size ≤ B) (hC : s.size ≤ C) (h : ∀ s', Ext s s' → K (.tuple #[spanV x, .int .i64 0]) s') :
    (WR (Addr.add ⟨B, 0, none⟩ 0) (.int .i64 x.1) <| WR (Addr.add ⟨B, 0, none⟩ 1) (.int .i64 x.2) <| WR (Addr.add ⟨C, 0, none⟩ 0) (.int .i64 0) <|
      DEF Pg W (.tuple #[(.func (.func 45) #[] #[]), (.tuple #[(.pointer (some ⟨C, 0, none⟩))])]) none (RDI .i64 (Addr.add ⟨B, 0, none⟩ 0) fun n86 => RDI .i64 (Addr.add ⟨B, 0, none⟩ 1) fun n87 => RDI .i64 ⟨C, 0, none⟩ fun n88 => K (.tuple #[(.agg #[(.int .i64 n86), (.int .i64 n87)]), (.int .i64 n88)]))) t := by
  refine WR_own b0 rfl ?_
  refine WR_own (own_set_ne (.inr (by show (1 : Nat) ≠ 0; decide)) b1) rfl ?_
  have hC2 : Own (setC (setC t (Addr.add ⟨B, 0, none⟩ 0) (.int .i64 x.1)) (Addr.add ⟨B, 0, none⟩ 1) (.int .i64 x.2)) ⟨C, 0, none⟩ z := own_set_ne (.inl (by show C ≠ B; omega)) (own_set_ne (.inl (by show C ≠ B; omega)) c0)
  refine WR_own hC2 rfl (def_none ?_)
  refine ⟨_, (own_set_ne (.inl (by show B ≠ C; omega)) (own_set_ne (.inr (by show (0 : Nat) ≠ 1; decide)) (own_set b0))).cell, _, (own_set_ne (.inl (by show B ≠ C; omega)) (own_set (own_set_ne (.inr (by show (1 : Nat) ≠ 0; decide)) b1))).cell, _, (own_set hC2).cell, ?_⟩
  exact h _ (((ext.setC (by show s.size ≤ B; omega)).setC (by show s.size ≤ B; omega)).setC (by show s.size ≤ C; omega))
theorem span_pan {t : Hp} {B C : Nat} {e : Int} {z : Value} (b0 : Own t ⟨B, 0, none⟩ (.int .i64 0)) (b1 : Own t ⟨B, 1, none⟩ (.int .i64 0)) (c0 : Own t ⟨C, 0, none⟩ z) (hne : B ≠ C) (ext : Ext s t) (hC : s.size ≤ C) (h : ∀ s', Ext s s' → K (.tuple #[spanV (0, 0), .int .i64 e]) s') :
    DEF Pg W (.tuple #[(.func (.func 45) #[] #[]), (.tuple #[(.pointer (some ⟨C, 0, none⟩))])]) (some (pn e)) (RDI .i64 (Addr.add ⟨B, 0, none⟩ 0) fun n86 => RDI .i64 (Addr.add ⟨B, 0, none⟩ 1) fun n87 => RDI .i64 ⟨C, 0, none⟩ fun n88 => K (.tuple #[(.agg #[(.int .i64 n86), (.int .i64 n87)]), (.int .i64 n88)])) t := by
  refine def_some c0 fun s' k o => ?_
  refine ⟨_, (k.own (by show ¬ B = C; omega) b0).cell, _, (k.own (by show ¬ B = C; omega) b1).cell, _, o.cell, ?_⟩
  exact h s' (kp_new ext hC k)
theorem c_Sum {x y : Option Addr} {c c' : Nat} {i : Int} (hx : RowAt s x (ints T.off)) (hy : ScAt s y T.sc) (hlo : T.off.length ≤ 100000) (h : ∀ s', Ext s s' → K (.tuple #[spanV (sumP T i).1, .int .i64 (sumP T i).2]) s') :
    CALL Pg W F_rank_Sum [.agg #[.int .i64 T.men, .int .i64 T.sheets, .slice x T.off.length c, .slice y T.sc.length c'], .int .i64 i] K E s := by
  refine does_rank_Sum W T.men T.sheets x T.off.length c y T.sc.length c' i _ s ?_
  unfold T_rank_Sum
  refine NEW_rule fun s1 e1 z1 n1 _ => ?_
  refine NEWZ_rule zc_29 fun s2 e2 z2 n2 => ?_
  refine NEWZ_rule zc_30 fun s3 e3 z3 n3 => ?_
  have e13 := e2.trans e3
  have e03 := e1.trans e13
  have b0 := e3.own (n2 0 _ rfl)
  have b1 := e3.own (n2 1 _ rfl)
  have cc := n3 0 _ rfl
  refine ⟨_, e13.cell (n1 0 _ rfl).cell, _, e13.cell (n1 1 _ rfl).cell, _, _, _, e13.cell (n1 2 _ rfl).cell, _, _, _, e13.cell (n1 3 _ rfl).cell, ?_⟩
  refine c_open (hx.ext e03) (hy.ext e03) hlo (fun hv s4 p r e4 tb hp hr => ?_) (fun hv s4 e4 => ?_)
  · try simp only [TUP_mk, AGG_mk, HD_mk, NL_mk, TYI_mk, TYB_mk, TYP_mk, TYL_mk, TYS_mk, TYM_mk, SO_mk, NX_mk, endK_mk, endK_mk', add_0]
    have vd := okT_vd hv
    have hn : ((T.n : Nat) : Int) = T.men := by obtain ⟨hh, _⟩ := okT_iff.1 hv; unfold Tb.n; omega
    refine c_isMan tb.tab vd.n6 ?_
    try simp only [TUP_mk, AGG_mk, HD_mk, NL_mk, TYI_mk, TYB_mk, TYP_mk, TYL_mk, TYS_mk, TYM_mk, SO_mk, NX_mk, endK_mk, endK_mk', add_0]
    refine c_must (fun hb => ?_) (fun hb => ?_)
    · try simp only [TUP_mk, AGG_mk, HD_mk, NL_mk, TYI_mk, TYB_mk, TYP_mk, TYL_mk, TYS_mk, TYM_mk, SO_mk, NX_mk, endK_mk, endK_mk', add_0]
      have hb' := of_decide_eq_true hb
      obtain ⟨j, rfl⟩ := Int.eq_ofNat_of_zero_le hb'.1
      have hm : isM T (j : Int) := by unfold isM; omega
      have hc : sumP T (j : Int) = (((rowL (pts (prs T)) false T.m (offT T j) j).getD 0 0, (rowL (pts (prs T)) true T.m (offT T j) j).getD 0 0), 0) := by unfold sumP; rw [hv, if_pos rfl, if_pos hm]; rfl
      rw [hc] at h
      refine c_both fun s5 e5 => ?_
      try simp only [TUP_mk, AGG_mk, HD_mk, NL_mk, TYI_mk, TYB_mk, TYP_mk, TYL_mk, TYS_mk, TYM_mk, SO_mk, NX_mk, endK_mk, endK_mk', add_0]
      have rdg := rdg_plain (W := W) vd tb.tab
      refine c_row (e := false) vd (tb.tab.ext e5) (rdg.ext e5) (by omega) fun s6 e6 => ?_
      unfold rowV
      try simp only [TUP_mk, AGG_mk, HD_mk, NL_mk, TYI_mk, TYB_mk, TYP_mk, TYL_mk, TYS_mk, TYM_mk, SO_mk, NX_mk, endK_mk, endK_mk', add_0]
      refine c_both fun s7 e7 => ?_
      try simp only [TUP_mk, AGG_mk, HD_mk, NL_mk, TYI_mk, TYB_mk, TYP_mk, TYL_mk, TYS_mk, TYM_mk, SO_mk, NX_mk, endK_mk, endK_mk', add_0]
      have e47 := e5.trans (e6.trans e7)
      refine c_row (e := true) vd (tb.tab.ext e47) (rdg.ext e47) (by omega) fun s8 e8 => ?_
      unfold rowV
      try simp only [TUP_mk, AGG_mk, HD_mk, NL_mk, TYI_mk, TYB_mk, TYP_mk, TYL_mk, TYS_mk, TYM_mk, SO_mk, NX_mk, endK_mk, endK_mk', add_0]
      have e38 := e4.trans (e47.trans e8)
      refine span_ok (x := (_, _)) (e38.own b0) (e38.own b1) (e38.own cc) (by omega) (e03.trans e38) (by omega) (by have := e1.1; have := e2.1; omega) h
    · have hb' := of_decide_eq_false hb
      have hm : ¬ isM T i := by unfold isM; omega
      have hc : sumP T i = ((0, 0), 2) := by unfold sumP; rw [hv, if_pos rfl, if_neg hm]
      rw [hc] at h
      exact span_pan (e4.own b0) (e4.own b1) (e4.own cc) (by omega) (e03.trans e4) (by have := e1.1; have := e2.1; omega) h
  · have hc : sumP T i = ((0, 0), 1) := by unfold sumP; rw [hv]; rfl
    rw [hc] at h
    exact span_pan (e4.own b0) (e4.own b1) (e4.own cc) (by omega) (e03.trans e4) (by have := e1.1; have := e2.1; omega) h
theorem c_Place {x y : Option Addr} {c c' : Nat} {i : Int} (hx : RowAt s x (ints T.off)) (hy : ScAt s y T.sc) (hlo : T.off.length ≤ 100000) (h : ∀ s', Ext s s' → K (.tuple #[spanV (plcR T i).1, .int .i64 (plcR T i).2]) s') :
    CALL Pg W F_rank_Place [.agg #[.int .i64 T.men, .int .i64 T.sheets, .slice x T.off.length c, .slice y T.sc.length c'], .int .i64 i] K E s := by
  refine does_rank_Place W T.men T.sheets x T.off.length c y T.sc.length c' i _ s ?_
  unfold T_rank_Place
  refine NEW_rule fun s1 e1 z1 n1 _ => ?_
  refine NEWZ_rule zc_29 fun s2 e2 z2 n2 => ?_
  refine NEWZ_rule zc_30 fun s3 e3 z3 n3 => ?_
  have e13 := e2.trans e3
  have e03 := e1.trans e13
  have b0 := e3.own (n2 0 _ rfl)
  have b1 := e3.own (n2 1 _ rfl)
  have cc := n3 0 _ rfl
  refine ⟨_, e13.cell (n1 0 _ rfl).cell, _, e13.cell (n1 1 _ rfl).cell, _, _, _, e13.cell (n1 2 _ rfl).cell, _, _, _, e13.cell (n1 3 _ rfl).cell, ?_⟩
  refine c_open (hx.ext e03) (hy.ext e03) hlo (fun hv s4 p r e4 tb hp hr => ?_) (fun hv s4 e4 => ?_)
  · try simp only [TUP_mk, AGG_mk, HD_mk, NL_mk, TYI_mk, TYB_mk, TYP_mk, TYL_mk, TYS_mk, TYM_mk, SO_mk, NX_mk, endK_mk, endK_mk', add_0]
    have vd := okT_vd hv
    have hn : ((T.n : Nat) : Int) = T.men := by obtain ⟨hh, _⟩ := okT_iff.1 hv; unfold Tb.n; omega
    refine c_isMan tb.tab vd.n6 ?_
    try simp only [TUP_mk, AGG_mk, HD_mk, NL_mk, TYI_mk, TYB_mk, TYP_mk, TYL_mk, TYS_mk, TYM_mk, SO_mk, NX_mk, endK_mk, endK_mk', add_0]
    refine c_must (fun hb => ?_) (fun hb => ?_)
    · try simp only [TUP_mk, AGG_mk, HD_mk, NL_mk, TYI_mk, TYB_mk, TYP_mk, TYL_mk, TYS_mk, TYM_mk, SO_mk, NX_mk, endK_mk, endK_mk', add_0]
      have hb' := of_decide_eq_true hb
      obtain ⟨j, rfl⟩ := Int.eq_ofNat_of_zero_le hb'.1
      have hm : isM T (j : Int) := by unfold isM; omega
      have hc : plcR T (j : Int) = (plcP (pts (prs T)) T.m T.n T.off j, 0) := by unfold plcR; rw [hv, if_pos rfl, if_pos hm]; rfl
      rw [hc] at h
      refine c_place vd tb.tab (rdg_plain (W := W) vd tb.tab) (by omega) fun s5 e5 => ?_
      unfold spanV
      try simp only [TUP_mk, AGG_mk, HD_mk, NL_mk, TYI_mk, TYB_mk, TYP_mk, TYL_mk, TYS_mk, TYM_mk, SO_mk, NX_mk, endK_mk, endK_mk', add_0]
      have e35 := e4.trans e5
      exact span_ok (e35.own b0) (e35.own b1) (e35.own cc) (by omega) (e03.trans e35) (by omega) (by have := e1.1; have := e2.1; omega) h
    · have hb' := of_decide_eq_false hb
      have hm : ¬ isM T i := by unfold isM; omega
      have hc : plcR T i = ((0, 0), 2) := by unfold plcR; rw [hv, if_pos rfl, if_neg hm]
      rw [hc] at h
      exact span_pan (e4.own b0) (e4.own b1) (e4.own cc) (by omega) (e03.trans e4) (by have := e1.1; have := e2.1; omega) h
  · have hc : plcR T i = ((0, 0), 1) := by unfold plcR; rw [hv]; rfl
    rw [hc] at h
    exact span_pan (e4.own b0) (e4.own b1) (e4.own cc) (by omega) (e03.trans e4) (by have := e1.1; have := e2.1; omega) h
/-- What is told with one value. -/
theorem one_ok {t : Hp} {C : Nat} {KK : Int → Hp → Prop} {e : Int} {z : Value} (c0 : Own t ⟨C, 0, none⟩ z) (ext : Ext s t) (hC : s.size ≤ C) (h : ∀ s', Ext s s' → KK e s') :
    (WR (Addr.add ⟨C, 0, none⟩ 0) (.int .i64 e) <| DEF Pg W (.tuple #[(.func (.func 45) #[] #[]), (.tuple #[(.pointer (some ⟨C, 0, none⟩))])]) none (RDI .i64 ⟨C, 0, none⟩ fun n88 => KK n88)) t := by
  refine WR_own c0 rfl (def_none ⟨_, (own_set c0).cell, h _ (ext.setC (by show s.size ≤ C; omega))⟩)
theorem one_pan {t : Hp} {C : Nat} {KK : Int → Hp → Prop} {e : Int} {z : Value} (c0 : Own t ⟨C, 0, none⟩ z) (ext : Ext s t) (hC : s.size ≤ C) (h : ∀ s', Ext s s' → KK e s') :
    DEF Pg W (.tuple #[(.func (.func 45) #[] #[]), (.tuple #[(.pointer (some ⟨C, 0, none⟩))])]) (some (pn e)) (RDI .i64 ⟨C, 0, none⟩ fun n88 => KK n88) t :=
  def_some c0 fun s' k o => ⟨_, o.cell, h s' (kp_new ext hC k)⟩
theorem c_Before {x y : Option Addr} {c c' : Nat} {a b : Int} (hx : RowAt s x (ints T.off)) (hy : ScAt s y T.sc) (hlo : T.off.length ≤ 100000) (h : ∀ s', Ext s s' → K (.tuple #[.int .i64 (befR T a b).1, .int .i64 (befR T a b).2]) s') :
    CALL Pg W F_rank_Before [.agg #[.int .i64 T.men, .int .i64 T.sheets, .slice x T.off.length c, .slice y T.sc.length c'], .int .i64 a, .int .i64 b] K E s := by
  refine does_rank_Before W T.men T.sheets x T.off.length c y T.sc.length c' a b _ s ?_
  unfold T_rank_Before
  refine NEW_rule fun s1 e1 z1 n1 _ => ?_
  refine NEWZ_rule zc_30 fun s3 e2 z3 n3 => ?_
  have e03 := e1.trans e2
  have cc := n3 0 _ rfl
  refine ⟨_, e2.cell (n1 0 _ rfl).cell, _, e2.cell (n1 1 _ rfl).cell, _, _, _, e2.cell (n1 2 _ rfl).cell, _, _, _, e2.cell (n1 3 _ rfl).cell, ?_⟩
  have hsz : s.size ≤ s1.size := e1.1
  refine c_open (hx.ext e03) (hy.ext e03) hlo (fun hv s4 p r e4 tb hp hr => ?_) (fun hv s4 e4 => ?_)
  · try simp only [TUP_mk, AGG_mk, HD_mk, NL_mk, TYI_mk, TYB_mk, TYP_mk, TYL_mk, TYS_mk, TYM_mk, SO_mk, NX_mk, endK_mk, endK_mk', add_0]
    have vd := okT_vd hv
    have hn : ((T.n : Nat) : Int) = T.men := by obtain ⟨hh, _⟩ := okT_iff.1 hv; unfold Tb.n; omega
    have no : ¬ (isM T a ∧ isM T b) → ∀ s', Ext s s' → K (.tuple #[.int .i64 0, .int .i64 2]) s' := fun hno => by
      have hc : befR T a b = (0, 2) := by unfold befR; rw [hv, if_pos rfl, if_neg hno]
      rw [hc] at h; exact h
    have j0 : ∀ q : Bool, (q = true → isM T a ∧ isM T b) → (q = false → ¬ (isM T a ∧ isM T b)) → J_rank_Before_0 W (endK K E) q (some p) a b s1.size s4 := by
      intro q g1 g2
      unfold J_rank_Before_0
      refine c_must (fun hb => ?_) (fun hb => one_pan (e4.own cc) (e03.trans e4) hsz (no (g2 hb)))
      try simp only [TUP_mk, AGG_mk, HD_mk, NL_mk, TYI_mk, TYB_mk, TYP_mk, TYL_mk, TYS_mk, TYM_mk, SO_mk, NX_mk, endK_mk, endK_mk', add_0]
      obtain ⟨ha, hb'⟩ := g1 hb
      obtain ⟨i, rfl⟩ := Int.eq_ofNat_of_zero_le ha.1
      obtain ⟨j, rfl⟩ := Int.eq_ofNat_of_zero_le hb'.1
      have hc : befR T i j = (befN T i j, 0) := by unfold befR; rw [hv, if_pos rfl, if_pos ⟨ha, hb'⟩]; rfl
      rw [hc] at h
      unfold isM at ha hb'
      have rdg := rdg_plain (W := W) vd tb.tab
      refine c_surely vd tb.tab rdg (by omega) (by omega) fun s5 e5 => ?_
      try simp only [TUP_mk, AGG_mk, HD_mk, NL_mk, TYI_mk, TYB_mk, TYP_mk, TYL_mk, TYS_mk, TYM_mk, SO_mk, NX_mk, endK_mk, endK_mk', add_0]
      have e35 := e4.trans e5
      refine BR_bool (fun h1 => ?_) (fun h1 => ?_)
      · have hN : befN T i j = 2 := by unfold befN; rw [h1, if_pos rfl]
        rw [hN] at h
        exact one_ok (e35.own cc) (e03.trans e35) hsz h
      · refine c_can vd (tb.tab.ext e5) (rdg.ext e5) (by omega) (by omega) fun s6 e6 => ?_
        try simp only [TUP_mk, AGG_mk, HD_mk, NL_mk, TYI_mk, TYB_mk, TYP_mk, TYL_mk, TYS_mk, TYM_mk, SO_mk, NX_mk, endK_mk, endK_mk', add_0]
        have e36 := e35.trans e6
        refine BR_bool (fun h2 => ?_) (fun h2 => ?_)
        · have hN : befN T i j = 1 := by unfold befN; rw [h1, h2]; rfl
          rw [hN] at h
          exact one_ok (e36.own cc) (e03.trans e36) hsz h
        · have hN : befN T i j = 0 := by unfold befN; rw [h1, h2]; rfl
          rw [hN] at h
          exact one_ok (e36.own cc) (e03.trans e36) hsz h
    refine c_isMan tb.tab vd.n6 ?_
    try simp only [TUP_mk, AGG_mk, HD_mk, NL_mk, TYI_mk, TYB_mk, TYP_mk, TYL_mk, TYS_mk, TYM_mk, SO_mk, NX_mk, endK_mk, endK_mk', add_0]
    refine BR_dec (fun ha => ?_) (fun ha => ?_)
    · refine c_isMan tb.tab vd.n6 ?_
      try simp only [TUP_mk, AGG_mk, HD_mk, NL_mk, TYI_mk, TYB_mk, TYP_mk, TYL_mk, TYS_mk, TYM_mk, SO_mk, NX_mk, endK_mk, endK_mk', add_0]
      exact j0 _ (fun hh => ⟨by unfold isM; omega, by have := of_decide_eq_true hh; unfold isM; omega⟩) (fun hh hm => by have := of_decide_eq_false hh; have := hm.2; unfold isM at this; omega)
    · exact j0 _ (fun hh => by cases hh) (fun _ hm => by have := hm.1; unfold isM at this; omega)
  · have hc : befR T a b = (0, 1) := by unfold befR; rw [hv]; rfl
    rw [hc] at h
    exact one_pan (e4.own cc) (e03.trans e4) hsz h
end
end Go.Proofs.Ytkgcbfbbcaajpaa.G

/- Rank: Winners, Equal. -/
set_option linter.unusedSimpArgs false
set_option linter.unusedVariables false
set_option maxRecDepth 20000
namespace Go.Proofs.Ytkgcbfbbcaajpaa.G
open Go.V
theorem ori_eq : ∀ w : Nat, w < 256 → ∀ m : Nat, m < 8 → orv .i64 (w : Int) (shlv .i64 1 (m : Int)) = ((w ||| 2 ^ m : Nat) : Int) := by
  have h : ((List.range 256).all fun (l : Nat) => (List.range 8).all fun (m : Nat) => decide (orv .i64 (l : Int) (shlv .i64 1 (m : Int)) = ((l ||| 2 ^ m : Nat) : Int))) = true := by decide +kernel
  intro w hl m hm
  have h1 := List.all_eq_true.1 h w (by simpa using hl)
  have h2 := List.all_eq_true.1 h1 m (by simpa using hm)
  simpa using h2
theorem NNI_nat {n : Nat} {K : Hp → Prop} {s : Hp} (h : K s) : NNI (n : Int) K s := h
/-- The set of those of the first so many of whom something is so. -/
def setOf' (f : Nat → Bool) : Nat → Nat
  | 0 => 0
  | k + 1 => if f k then setOf' f k ||| 2 ^ k else setOf' f k
theorem setOf_lt (f : Nat → Bool) : ∀ k, setOf' f k < 2 ^ k
  | 0 => by simp [setOf']
  | k + 1 => by
    have := setOf_lt f k
    unfold setOf'
    split
    · exact Nat.or_lt_two_pow (by rw [Nat.pow_succ]; omega) (Nat.pow_lt_pow_right (by omega) (by omega))
    · rw [Nat.pow_succ]; omega
theorem setOf_bit (f : Nat → Bool) : ∀ (k i : Nat), (setOf' f k).testBit i = (decide (i < k) && f i)
  | 0, i => by simp [setOf']
  | k + 1, i => by
    have ih := setOf_bit f k i
    unfold setOf'
    cases hp : f k with
    | true =>
      rw [if_pos rfl, Nat.testBit_or, ih, Nat.testBit_two_pow]
      by_cases e : k = i
      · subst e; simp [hp]
      · have : (i < k + 1) = (i < k) := propext (by omega)
        simp [e, this]
    | false =>
      rw [if_neg (by simp), ih]
      by_cases e : k = i
      · subst e; simp [hp]
      · have : (i < k + 1) = (i < k) := propext (by omega)
        simp [this]
def surF (T : Tb) (i : Nat) : Bool := decide ((plcP (pts (prs T)) T.m T.n T.off i).2 = 1)
def canF (T : Tb) (i : Nat) : Bool := decide ((plcP (pts (prs T)) T.m T.n T.off i).1 = 1)
def winP (T : Tb) : Int × Int × Int := if okT T then ((setOf' (surF T) T.n : Nat), (setOf' (canF T) T.n : Nat), 0) else (0, 0, 1)
/-- Can a score be that of both? -/
def ovl (T : Tb) (a b : Nat) (k : Nat) : Bool := !(decide ((pts (prs T) (a, k)).1 > (pts (prs T) (b, k)).2) || decide ((pts (prs T) (b, k)).1 > (pts (prs T) (a, k)).2))
def eqP (T : Tb) (a b : Nat) : Bool := (List.range T.m).all (ovl T a b) && decide (offT T a = offT T b)
def eqR (T : Tb) (a b : Int) : Bool × Int := if okT T then (if isM T a ∧ isM T b then (eqP T a.toNat b.toNat, 0) else (false, 2)) else (false, 1)
theorem lt_256 {w k : Nat} (h : w < 2 ^ k) (hk : k ≤ 8) : w < 256 := Nat.lt_of_lt_of_le h (show 2 ^ k ≤ 2 ^ 8 from Nat.pow_le_pow_right (by omega) hk)
section
variable {W : World} {K : VK} {E : List PanicEntry → Hp → Prop} {s : Hp} {T : Tb}
theorem c_Winners {x y : Option Addr} {c c' : Nat} (hx : RowAt s x (ints T.off)) (hy : ScAt s y T.sc) (hlo : T.off.length ≤ 100000) (h : ∀ s', Ext s s' → K (.tuple #[.int .i64 (winP T).1, .int .i64 (winP T).2.1, .int .i64 (winP T).2.2]) s') :
    CALL Pg W F_rank_Winners [.agg #[.int .i64 T.men, .int .i64 T.sheets, .slice x T.off.length c, .slice y T.sc.length c']] K E s := by
  refine does_rank_Winners W T.men T.sheets x T.off.length c y T.sc.length c' _ s ?_
  unfold T_rank_Winners
  refine NEW_rule fun s1 e1 z1 n1 _ => ?_
  refine NEWZ_rule zc_30 fun s3 e2 z3 n3 => ?_
  have e03 := e1.trans e2
  have cc := n3 0 _ rfl
  refine ⟨_, e2.cell (n1 0 _ rfl).cell, _, e2.cell (n1 1 _ rfl).cell, _, _, _, e2.cell (n1 2 _ rfl).cell, _, _, _, e2.cell (n1 3 _ rfl).cell, ?_⟩
  have hsz : s.size ≤ s1.size := e1.1
  refine c_open (hx.ext e03) (hy.ext e03) hlo (fun hv s4 p r e4 tb hp hr => ?_) (fun hv s4 e4 => ?_)
  · try simp only [TUP_mk, AGG_mk, HD_mk, NL_mk, TYI_mk, TYB_mk, TYP_mk, TYL_mk, TYS_mk, TYM_mk, SO_mk, NX_mk, endK_mk, endK_mk', add_0]
    have vd := okT_vd hv
    have hn6 := vd.n6
    have hc : winP T = (((setOf' (surF T) T.n : Nat) : Int), ((setOf' (canF T) T.n : Nat) : Int), 0) := by unfold winP; rw [hv]; rfl
    rw [hc] at h
    have rdg := rdg_plain (W := W) vd tb.tab
    refine ⟨_, tb.men, ?_⟩
    refine L_rank_Winners_0_rule W _ ⟨s1.size, 0, none⟩ (some p) T.n (fun a b i t => Ext s4 t ∧ ∃ k : Nat, k ≤ T.n ∧ i = k ∧ a = (setOf' (surF T) k : Nat) ∧ b = (setOf' (canF T) k : Nat)) (fun _ _ i _ => (T.n - i).toNat) 0 0 0 s4 ⟨Ext.refl _, 0, by omega, rfl, rfl, rfl⟩ ?_
    rintro n25 n26 n27 t ⟨et, k, hk, rfl, rfl, rfl⟩
    have e3t := e4.trans et
    unfold B_rank_Winners_0
    refine BR_dec (fun h1 => ?_) (fun h1 => ?_)
    · have hkn : k < T.n := by omega
      have hw : IntKind.i64.wrap ((k : Int) + 1) = ((k + 1 : Nat) : Int) := by rw [wrap_i64 (by omega) (by omega)]; rfl
      have hms : ((T.n : Int) - IntKind.i64.wrap ((k : Int) + 1)).toNat < ((T.n : Int) - k).toNat := by rw [hw]; omega
      have hs1 : setOf' (surF T) (k + 1) = if surF T k then setOf' (surF T) k ||| 2 ^ k else setOf' (surF T) k := rfl
      have hs2 : setOf' (canF T) (k + 1) = if canF T k then setOf' (canF T) k ||| 2 ^ k else setOf' (canF T) k := rfl
      have l1 := lt_256 (setOf_lt (surF T) k) (by omega)
      have l2 := lt_256 (setOf_lt (canF T) k) (by omega)
      refine c_place vd (tb.tab.ext et) (rdg.ext et) hkn fun t2 f2 => ?_
      unfold spanV
      try simp only [TUP_mk, AGG_mk, HD_mk, NL_mk, TYI_mk, TYB_mk, TYP_mk, TYL_mk, TYS_mk, TYM_mk, SO_mk, NX_mk, endK_mk, endK_mk', add_0]
      refine NEWZ_rule zc_29 fun t3 f3 z3 u3 => ?_
      refine wr2 rfl rfl (new2 u3) fun t4 k4 z4 o0 o1 => ?_
      have e24 : Ext t2 t4 := ext_own f3 (Nat.le_refl _) k4
      have e44 := et.trans (f2.trans e24)
      refine ⟨_, o1.cell, ?_⟩
      have j1 : ∀ a : Int, a = (setOf' (surF T) (k + 1) : Nat) → J_rank_Winners_1 W (endK K E) t2.size k ⟨s1.size, 0, none⟩ (some p) T.n (fun vs => N_rank_Winners_0 (fun a b i t => Ext s4 t ∧ ∃ k : Nat, k ≤ T.n ∧ i = k ∧ a = (setOf' (surF T) k : Nat) ∧ b = (setOf' (canF T) k : Nat)) (fun _ _ i _ => (T.n - i).toNat) (setOf' (surF T) k : Nat) (setOf' (canF T) k : Nat) k t vs) a (setOf' (canF T) k : Nat) t4 := by
        rintro a rfl
        unfold J_rank_Winners_1
        refine ⟨_, o0.cell, ?_⟩
        have hcf : canF T k = decide ((plcP (pts (prs T)) T.m T.n T.off k).1 = 1) := rfl
        refine BR_eq (fun hh => ?_) (fun hh => ?_)
        · refine NNI_nat ?_
          unfold J_rank_Winners_0
          refine ⟨rfl, _, _, _, rfl, ⟨e44, k + 1, by omega, hw, rfl, ?_⟩, hms⟩
          rw [hs2, hcf, decide_eq_true hh, if_pos rfl]
          exact ori_eq _ l2 k (by omega)
        · unfold J_rank_Winners_0
          refine ⟨rfl, _, _, _, rfl, ⟨e44, k + 1, by omega, hw, rfl, ?_⟩, hms⟩
          rw [hs2, hcf, decide_eq_false hh, if_neg (by simp)]
      have hsf : surF T k = decide ((plcP (pts (prs T)) T.m T.n T.off k).2 = 1) := rfl
      refine BR_eq (fun hh => ?_) (fun hh => ?_)
      · refine NNI_nat (j1 _ ?_)
        rw [hs1, hsf, decide_eq_true hh, if_pos rfl]
        exact ori_eq _ l1 k (by omega)
      · refine j1 _ ?_
        rw [hs1, hsf, decide_eq_false hh, if_neg (by simp)]
    · have hkn : k = T.n := by omega
      subst hkn
      exact one_ok (e3t.own cc) (e03.trans e3t) hsz h
  · have hc : winP T = (0, 0, 1) := by unfold winP; rw [hv]; rfl
    rw [hc] at h
    exact one_pan (e4.own cc) (e03.trans e4) hsz h
theorem c_Equal {x y : Option Addr} {c c' : Nat} {a b : Int} (hx : RowAt s x (ints T.off)) (hy : ScAt s y T.sc) (hlo : T.off.length ≤ 100000) (h : ∀ s', Ext s s' → K (.tuple #[.bool (eqR T a b).1, .int .i64 (eqR T a b).2]) s') :
    CALL Pg W F_rank_Equal [.agg #[.int .i64 T.men, .int .i64 T.sheets, .slice x T.off.length c, .slice y T.sc.length c'], .int .i64 a, .int .i64 b] K E s := by
  refine does_rank_Equal W T.men T.sheets x T.off.length c y T.sc.length c' a b _ s ?_
  unfold T_rank_Equal
  refine NEW_rule fun s1 e1 z1 n1 _ => ?_
  refine NEWZ_rule zc_30 fun s3 e2 z3 n3 => ?_
  have e03 := e1.trans e2
  have cc := n3 0 _ rfl
  refine ⟨_, e2.cell (n1 0 _ rfl).cell, _, e2.cell (n1 1 _ rfl).cell, _, _, _, e2.cell (n1 2 _ rfl).cell, _, _, _, e2.cell (n1 3 _ rfl).cell, ?_⟩
  have hsz : s.size ≤ s1.size := e1.1
  refine c_open (hx.ext e03) (hy.ext e03) hlo (fun hv s4 p r e4 tb hp hr => ?_) (fun hv s4 e4 => ?_)
  · try simp only [TUP_mk, AGG_mk, HD_mk, NL_mk, TYI_mk, TYB_mk, TYP_mk, TYL_mk, TYS_mk, TYM_mk, SO_mk, NX_mk, endK_mk, endK_mk', add_0]
    have vd := okT_vd hv
    have hn : ((T.n : Nat) : Int) = T.men := by obtain ⟨hh, _⟩ := okT_iff.1 hv; unfold Tb.n; omega
    have no : ¬ (isM T a ∧ isM T b) → ∀ s', Ext s s' → K (.tuple #[.bool false, .int .i64 2]) s' := fun hno => by
      have hc : eqR T a b = (false, 2) := by unfold eqR; rw [hv, if_pos rfl, if_neg hno]
      rw [hc] at h; exact h
    have j0 : ∀ q : Bool, (q = true → isM T a ∧ isM T b) → (q = false → ¬ (isM T a ∧ isM T b)) → J_rank_Equal_0 W (endK K E) q (some p) a b s1.size s4 := by
      intro q g1 g2
      unfold J_rank_Equal_0
      refine c_must (fun hb => ?_) (fun hb => one_pan (e4.own cc) (e03.trans e4) hsz (no (g2 hb)))
      try simp only [TUP_mk, AGG_mk, HD_mk, NL_mk, TYI_mk, TYB_mk, TYP_mk, TYL_mk, TYS_mk, TYM_mk, SO_mk, NX_mk, endK_mk, endK_mk', add_0]
      obtain ⟨ha, hb'⟩ := g1 hb
      obtain ⟨i, rfl⟩ := Int.eq_ofNat_of_zero_le ha.1
      obtain ⟨j, rfl⟩ := Int.eq_ofNat_of_zero_le hb'.1
      have hc : eqR T i j = (eqP T i j, 0) := by unfold eqR; rw [hv, if_pos rfl, if_pos ⟨ha, hb'⟩]; rfl
      rw [hc] at h
      unfold isM at ha hb'
      have hm5 := vd.m5
      refine ⟨_, tb.sheets, ?_⟩
      refine L_rank_Equal_0_rule W _ i j ⟨s1.size, 0, none⟩ (some p) T.m (fun _ q t => Ext s4 t ∧ ∃ k : Nat, k ≤ T.m ∧ q = k ∧ ∀ u, u < k → ovl T i j u = true) (fun _ q _ => (T.m - q).toNat) false 0 s4 ⟨Ext.refl _, 0, by omega, rfl, fun u hu => by omega⟩ ?_
      rintro b40 n41 t ⟨et, k, hk, rfl, hall⟩
      have e3t := e4.trans et
      unfold B_rank_Equal_0
      refine BR_dec (fun h1 => ?_) (fun h1 => ?_)
      · have hkm : k < T.m := by omega
        have hw : IntKind.i64.wrap ((k : Int) + 1) = ((k + 1 : Nat) : Int) := by rw [wrap_i64 (by omega) (by omega)]; rfl
        have hms : ((T.m : Int) - IntKind.i64.wrap ((k : Int) + 1)).toNat < ((T.m : Int) - k).toNat := by rw [hw]; omega
        refine CALLV_first ?_
        refine c_plain_of (tb.tab.ext et) fun t2 f2 => ?_
        unfold spanV
        try simp only [TUP_mk, AGG_mk, HD_mk, NL_mk, TYI_mk, TYB_mk, TYP_mk, TYL_mk, TYS_mk, TYM_mk, SO_mk, NX_mk, endK_mk, endK_mk', add_0]
        refine CALLV_first ?_
        refine c_plain_of (tb.tab.ext (et.trans f2)) fun t3 f3 => ?_
        unfold spanV
        try simp only [TUP_mk, AGG_mk, HD_mk, NL_mk, TYI_mk, TYB_mk, TYP_mk, TYL_mk, TYS_mk, TYM_mk, SO_mk, NX_mk, endK_mk, endK_mk', add_0]
        refine NEWZ_rule zc_29 fun t4 f4 y4 u4 => ?_
        refine NEWZ_rule zc_29 fun t5 f5 y5 u5 => ?_
        refine wr2 rfl rfl (fun q hq => by obtain ⟨y, hy⟩ := new2 u4 q hq; exact ⟨y, f5.own hy⟩) fun t6 k6 z6 o0 o1 => ?_
        refine wr2 rfl rfl (fun q hq => by obtain ⟨y, hy⟩ := new2 u5 q hq; exact ⟨y, k6.own (by rw [add_blk]; show ¬ t4.size = t3.size; omega) hy⟩) fun t7 k7 z7 p0 p1 => ?_
        have q0 := k7.own (by show ¬ t3.size = t4.size; omega) o0
        have q1 := k7.own (by show ¬ t3.size = t4.size; omega) o1
        have e37 : Ext t3 t7 := kp_new (kp_new (f4.trans f5) (Nat.le_refl _) k6) (by show t3.size ≤ t4.size; omega) k7
        have e47 := et.trans (f2.trans (f3.trans e37))
        refine ⟨_, q0.cell, _, p1.cell, ?_⟩
        have hov : ovl T i j k = !(decide ((pts (prs T) (i, k)).1 > (pts (prs T) (j, k)).2) || decide ((pts (prs T) (j, k)).1 > (pts (prs T) (i, k)).2)) := rfl
        have bad : ovl T i j k = false → eqP T i j = false := fun hf => by
          unfold eqP
          have : (List.range T.m).all (ovl T i j) = false := by
            cases hall' : (List.range T.m).all (ovl T i j) with
            | false => rfl
            | true =>
              have := List.all_eq_true.1 hall' k (List.mem_range.2 hkm)
              rw [hf] at this; cases this
          rw [this]; rfl
        have j1 : ∀ q : Bool, ovl T i j k = !q → J_rank_Equal_1 W (endK K E) q ⟨s1.size, 0, none⟩ i j (some p) T.m (fun vs => N_rank_Equal_0 (fun _ q t => Ext s4 t ∧ ∃ k : Nat, k ≤ T.m ∧ q = k ∧ ∀ u, u < k → ovl T i j u = true) (fun _ q _ => (T.m - q).toNat) b40 k t vs) b40 k t7 := by
          intro q hq
          unfold J_rank_Equal_1
          refine BR_bool (fun hh => ?_) (fun hh => ?_)
          · rw [hh] at hq
            rw [bad hq] at h
            have e37' := e4.trans e47
            exact one_ok (e37'.own cc) (e03.trans e37') hsz h
          · rw [hh] at hq
            refine ⟨rfl, _, _, rfl, ⟨e47, k + 1, by omega, hw, fun u hu => ?_⟩, hms⟩
            by_cases e : u = k
            · subst e; exact hq
            · exact hall u (by omega)
        refine BR_bool (fun hh => j1 _ (by rw [hov, hh]; rfl)) (fun hh => ?_)
        refine ⟨_, p0.cell, _, q1.cell, j1 _ (by rw [hov, hh]; rfl)⟩
      · have hkm : k = T.m := by omega
        subst hkm
        obtain ⟨x1, cx, g1', g2'⟩ := (tb.tab.ext et).off
        obtain ⟨a1, ha1, ga⟩ := row_int g2' (show i < T.off.length by rw [vd.len]; omega)
        obtain ⟨a2, ha2, gb⟩ := row_int g2' (show j < T.off.length by rw [vd.len]; omega)
        have ti : ((i : Int)).toNat = i := by omega
        have tj : ((j : Int)).toNat = j := by omega
        have hlen := vd.len
        refine ⟨_, _, _, g1', a1, ha1, ⟨by omega, by omega⟩, _, by rw [ti]; exact ga, _, _, _, g1', a2, ha2, ⟨by omega, by omega⟩, _, by rw [tj]; exact gb, ?_⟩
        have he : eqP T i j = (T.off.getD i 0 == T.off.getD j 0) := by
          unfold eqP offT
          have : (List.range T.m).all (ovl T i j) = true := List.all_eq_true.2 fun u hu => hall u (List.mem_range.1 hu)
          rw [this, Bool.true_and, Bool.beq_eq_decide_eq]
        rw [he] at h
        exact one_ok (e3t.own cc) (e03.trans e3t) hsz h
    refine c_isMan tb.tab vd.n6 ?_
    try simp only [TUP_mk, AGG_mk, HD_mk, NL_mk, TYI_mk, TYB_mk, TYP_mk, TYL_mk, TYS_mk, TYM_mk, SO_mk, NX_mk, endK_mk, endK_mk', add_0]
    refine BR_dec (fun ha => ?_) (fun ha => ?_)
    · refine c_isMan tb.tab vd.n6 ?_
      try simp only [TUP_mk, AGG_mk, HD_mk, NL_mk, TYI_mk, TYB_mk, TYP_mk, TYL_mk, TYS_mk, TYM_mk, SO_mk, NX_mk, endK_mk, endK_mk', add_0]
      exact j0 _ (fun hh => ⟨by unfold isM; omega, by have := of_decide_eq_true hh; unfold isM; omega⟩) (fun hh hm => by have := of_decide_eq_false hh; have := hm.2; unfold isM at this; omega)
    · exact j0 _ (fun hh => by cases hh) (fun _ hm => by have := hm.1; unfold isM at this; omega)
  · have hc : eqR T a b = (false, 1) := by unfold eqR; rw [hv]; rfl
    rw [hc] at h
    exact one_pan (e4.own cc) (e03.trans e4) hsz h
end
end Go.Proofs.Ytkgcbfbbcaajpaa.G

/- Rank: Need. -/
set_option linter.unusedSimpArgs false
set_option linter.unusedVariables false
set_option maxRecDepth 20000
namespace Go.Proofs.Ytkgcbfbbcaajpaa.G
open Go.V
theorem put_mem {l : List Pr} {k v : Int × Int} {x : Pr} (h : x ∈ put l k v) : x ∈ l ∨ x = (k, v) := by
  unfold put at h
  cases hf : findA k l 0 with
  | none =>
    rw [hf] at h
    simp only [List.mem_append, List.mem_singleton] at h
    exact h
  | some y =>
    obtain ⟨i, w⟩ := y
    rw [hf] at h
    exact List.mem_or_eq_of_mem_set h
theorem findA_put {l : List Pr} {k v : Int × Int} : ∃ i, findA k (put l k v) 0 = some (i, v) ∧ i < (put l k v).length ∧ (∀ w, (put l k v).set i (k, w) = put l k w) := by
  unfold put
  cases hf : findA k l 0 with
  | none =>
    have hno := (findA_none l 0).1 hf
    have key : ∀ (r : List Pr) (j : Nat), (∀ x ∈ r, x.1 ≠ k) → findA k (r ++ [(k, v)]) j = some (j + r.length, v) := by
      intro r
      induction r with
      | nil => intro j _; simp [findA]
      | cons x r ih =>
        intro j hx
        show findA k (x :: (r ++ [(k, v)])) j = _
        unfold findA
        rw [if_neg (fun e => hx x (by simp) e.symm), ih (j + 1) (fun y hy => hx y (by simp [hy]))]
        simp only [List.length_cons]
        congr 2
        omega
    refine ⟨l.length, by rw [key l 0 hno, Nat.zero_add], by simp, fun w => ?_⟩
    simp
  | some y =>
    obtain ⟨i, w0⟩ := y
    obtain ⟨n, hn, hi, hx⟩ := findA_some l 0 i w0 hf
    have hin : i = n := by omega
    subst hin
    have key : ∀ (r : List Pr) (j q : Nat) (u : Int × Int), findA k r j = some (j + q, u) → findA k (r.set q (k, v)) j = some (j + q, v) := by
      intro r
      induction r with
      | nil => intro j q u h; cases h
      | cons x r ih =>
        intro j q u h
        unfold findA at h
        by_cases he : k = x.1
        · rw [if_pos he] at h
          have : q = 0 := by have h1 : j = j + q := by injection h with h; injection h
                             omega
          subst this
          show findA k ((k, v) :: r) j = _
          unfold findA
          rw [if_pos rfl]; rfl
        · rw [if_neg he] at h
          cases q with
          | zero =>
            obtain ⟨n', _, h1, _⟩ := findA_some r (j + 1) _ u h
            omega
          | succ q =>
            show findA k (x :: r.set q (k, v)) j = _
            unfold findA
            rw [if_neg he]
            have := ih (j + 1) q u (by rw [h]; congr 2; omega)
            rw [this]; congr 2; omega
    refine ⟨i, ?_, by simpa using hn, fun w => by simp⟩
    have := key l 0 i w0 (by rw [hf, Nat.zero_add])
    rw [Nat.zero_add] at this
    exact this
theorem put_put {l : List Pr} {k v w : Int × Int} : put (put l k v) k w = put l k w := by
  obtain ⟨i, h1, h2, h3⟩ := findA_put (l := l) (k := k) (v := v)
  have : put (put l k v) k w = (put l k v).set i (k, w) := by
    show (match findA k (put l k v) 0 with | some (i, _) => (put l k v).set i (k, w) | none => put l k v ++ [(k, w)]) = _
    rw [h1]
  rw [this, h3]
theorem vd_put {n m : Nat} {off : List Int} {l : List Pr} {k : Int × Int} {q : Int} (v : VdT n m off l) (h0 : 0 ≤ q) (h1 : q ≤ 40) : VdT n m off (put l k (q, q)) :=
  ⟨v.n1, v.n6, v.m1, v.m5, v.len, v.off, fun x hx => by
    rcases put_mem hx with hx | rfl
    · exact v.sc x hx
    · exact ⟨h0, Int.le_refl _, h1⟩⟩
def isS (T : Tb) (k : Int) : Prop := 0 ≤ k ∧ k ≤ T.sheets - 1
instance (T : Tb) (i : Int) : Decidable (isS T i) := by unfold isS; infer_instance
/-- Are so many points enough? -/
def enough (T : Tb) (i : Nat) (k : Int) (pl q : Int) : Bool := decide ((plcP (pts (put (prs T) (i, k) (q, q))) T.m T.n T.off i).2 ≤ pl)
def needG (f : Int → Bool) : Nat → Int → Option Int
  | 0, _ => none
  | c + 1, q => if f q then some q else needG f c (q + 1)
def needN (T : Tb) (i : Nat) (k pl : Int) : Option Int := needG (enough T i k pl) ((pts (prs T) (i, k)).2 - (pts (prs T) (i, k)).1 + 1).toNat (pts (prs T) (i, k)).1
def needR (T : Tb) (i k pl : Int) : Int × Int := if okT T then (if isM T i ∧ isS T k ∧ 1 ≤ pl ∧ pl ≤ T.men then (match needN T i.toNat k pl with | some q => (q, 0) | none => (0, 4)) else (0, 2)) else (0, 1)
section
variable {W : World} {K : VK} {E : List PanicEntry → Hp → Prop} {s : Hp} {T : Tb}
theorem TabR.ne {r n m : Nat} {off : List Int} {l : List Pr} {p a : Addr} {v : Value} (h : TabR s p r n m off l) (hc : Own s a v) : a.block ≠ r := by
  obtain ⟨es, cl, h1, _⟩ := h.map
  exact cells_obj hc.cell h1
theorem c_Need {x y : Option Addr} {c c' : Nat} {a b pl : Int} (hx : RowAt s x (ints T.off)) (hy : ScAt s y T.sc) (hlo : T.off.length ≤ 100000) (h : ∀ s', Ext s s' → K (.tuple #[.int .i64 (needR T a b pl).1, .int .i64 (needR T a b pl).2]) s') :
    CALL Pg W F_rank_Need [.agg #[.int .i64 T.men, .int .i64 T.sheets, .slice x T.off.length c, .slice y T.sc.length c'], .int .i64 a, .int .i64 b, .int .i64 pl] K E s := by
  refine does_rank_Need W T.men T.sheets x T.off.length c y T.sc.length c' a b pl _ s ?_
  unfold T_rank_Need
  refine NEW_rule fun s1 e1 z1 n1 _ => ?_
  refine NEWZ_rule zc_30 fun s3 e2 z3 n3 => ?_
  have e03 := e1.trans e2
  have cc := n3 0 _ rfl
  refine ⟨_, e2.cell (n1 0 _ rfl).cell, _, e2.cell (n1 1 _ rfl).cell, _, _, _, e2.cell (n1 2 _ rfl).cell, _, _, _, e2.cell (n1 3 _ rfl).cell, ?_⟩
  have hsz : s.size ≤ s1.size := e1.1
  refine c_open (hx.ext e03) (hy.ext e03) hlo (fun hv s4 p r e4 tb hp hr => ?_) (fun hv s4 e4 => ?_)
  · try simp only [TUP_mk, AGG_mk, HD_mk, NL_mk, TYI_mk, TYB_mk, TYP_mk, TYL_mk, TYS_mk, TYM_mk, SO_mk, NX_mk, endK_mk, endK_mk', add_0]
    have vd := okT_vd hv
    have hn : ((T.n : Nat) : Int) = T.men := by obtain ⟨hh, _⟩ := okT_iff.1 hv; unfold Tb.n; omega
    have hm : ((T.m : Nat) : Int) = T.sheets := by obtain ⟨_, hh, _⟩ := okT_iff.1 hv; unfold Tb.m; omega
    have no : ¬ (isM T a ∧ isS T b ∧ 1 ≤ pl ∧ pl ≤ T.men) → ∀ s', Ext s s' → K (.tuple #[.int .i64 0, .int .i64 2]) s' := fun hno => by
      have hc : needR T a b pl = (0, 2) := by unfold needR; rw [hv, if_pos rfl, if_neg hno]
      rw [hc] at h; exact h
    have j0 : ∀ q : Bool, (q = true → isM T a ∧ isS T b ∧ 1 ≤ pl ∧ pl ≤ T.men) → (q = false → ¬ (isM T a ∧ isS T b ∧ 1 ≤ pl ∧ pl ≤ T.men)) → J_rank_Need_0 W (endK K E) q a b (some p) pl s1.size s4 := by
      intro q g1 g2
      unfold J_rank_Need_0
      refine c_must (fun hb => ?_) (fun hb => one_pan (e4.own cc) (e03.trans e4) hsz (no (g2 hb)))
      try simp only [TUP_mk, AGG_mk, HD_mk, NL_mk, TYI_mk, TYB_mk, TYP_mk, TYL_mk, TYS_mk, TYM_mk, SO_mk, NX_mk, endK_mk, endK_mk', add_0]
      have hall := g1 hb
      obtain ⟨ha, hb', hpl⟩ := hall
      obtain ⟨i, rfl⟩ := Int.eq_ofNat_of_zero_le ha.1
      have hok : isM T (i : Int) ∧ isS T b ∧ 1 ≤ pl ∧ pl ≤ T.men := ⟨ha, hb', hpl⟩
      unfold isM at ha
      refine NEWZ_rule zc_94 fun s5 e5 z5 n5 => ?_
      refine wr2 rfl rfl (new2 n5) fun s6 k6 z6 o0 o1 => ?_
      have e46 : Ext s4 s6 := ext_own e5 (Nat.le_refl _) k6
      refine ⟨_, o0.cell, _, o1.cell, ?_⟩
      refine c_plain_of ((tb.ext e46).tab) fun s7 e7 => ?_
      unfold spanV
      try simp only [TUP_mk, AGG_mk, HD_mk, NL_mk, TYI_mk, TYB_mk, TYP_mk, TYL_mk, TYS_mk, TYM_mk, SO_mk, NX_mk, endK_mk, endK_mk', add_0]
      refine NEWZ_rule zc_29 fun s8 e8 z8 n8 => ?_
      refine wr2 rfl rfl (new2 n8) fun s9 k9 z9 w0 w1 => ?_
      have e79 : Ext s7 s9 := ext_own e8 (Nat.le_refl _) k9
      have e69 := e7.trans e79
      have e49 := e46.trans e69
      refine ⟨_, w0.cell, ?_⟩
      have hpt := pts_in vd ((i : Int), b)
      have tb9 := tb.ext e49
      have key0 := e69.own o0
      have key1 := e69.own o1
      have cc9 := e49.own (e4.own cc)
      have e09 := e03.trans (e4.trans e49)
      have hgoal : needG (enough T i b pl) ((pts (prs T) ((i : Int), b)).2 - (pts (prs T) ((i : Int), b)).1 + 1).toNat (pts (prs T) ((i : Int), b)).1 = needN T i b pl := rfl
      refine L_rank_Need_0_rule W _ i pl ⟨s1.size, 0, none⟩ (some p) ⟨s4.size, 0, none⟩ ⟨s7.size, 0, none⟩ (fun z q t => z = 0 ∧ Kp (· = r) s9 t ∧ (pts (prs T) ((i : Int), b)).1 ≤ q ∧ q ≤ (pts (prs T) ((i : Int), b)).2 + 1 ∧ (∃ l', TabR t p r T.n T.m T.off l' ∧ ∀ v, put l' ((i : Int), b) v = put (prs T) ((i : Int), b) v) ∧ needG (enough T i b pl) ((pts (prs T) ((i : Int), b)).2 - q + 1).toNat q = needN T i b pl) (fun _ q _ => ((pts (prs T) ((i : Int), b)).2 + 1 - q).toNat) 0 _ s9
        ⟨rfl, Kp.refl _, Int.le_refl _, by omega, ⟨_, tb9, fun v => rfl⟩, hgoal⟩ ?_
      rintro n61 q t ⟨rfl, kt, hq0, hq1, ⟨l', tbt, hput⟩, hneed⟩
      have nr : ∀ {a v}, Own s9 a v → Own t a v := fun ho => kt.own (tb9.ne ho) ho
      have et : Ext s t := ⟨Nat.le_trans e09.1 kt.1, fun u hu => by
        rw [kt.2 u (Nat.lt_of_lt_of_le hu e09.1) (fun hh => by have h1 := e03.1; have h2 : u = r := hh; omega)]
        exact e09.2 u hu⟩
      unfold B_rank_Need_0
      refine ⟨_, (nr w1).cell, ?_⟩
      refine BR_dec (fun hle => ?_) (fun hle => ?_)
      · obtain ⟨es, cl, g1, g2⟩ := tbt.map
        refine ⟨_, tbt.at', _, (nr key0).cell, _, (nr key1).cell, ?_⟩
        refine MUP_score (k := ((i : Int), b)) (v := (q, q)) g1 g2 fun t2 es' cl' k2 zz h3 h4 => ?_
        have tb2 := tbt.put k2 h3 h4
        rw [hput] at tb2
        have vd2 : VdT T.n T.m T.off (put (prs T) ((i : Int), b) (q, q)) := vd_put vd (by omega) (by omega)
        have kt2 : Kp (· = r) s9 t2 := kt.trans k2
        have nr2 : ∀ {a v}, Own s9 a v → Own t2 a v := fun ho => kt2.own (tb9.ne ho) ho
        have et2 : Ext s t2 := ⟨Nat.le_trans et.1 k2.1, fun u hu => by
          rw [k2.2 u (Nat.lt_of_lt_of_le hu et.1) (fun hh => by have h1 := e03.1; have h2 : u = r := hh; omega)]
          exact et.2 u hu⟩
        refine c_place vd2 tb2.tab (rdg_plain (W := W) vd2 tb2.tab) (by omega) fun t3 f3 => ?_
        unfold spanV
        try simp only [TUP_mk, AGG_mk, HD_mk, NL_mk, TYI_mk, TYB_mk, TYP_mk, TYL_mk, TYS_mk, TYM_mk, SO_mk, NX_mk, endK_mk, endK_mk', add_0]
        have hstep : needN T i b pl = if enough T i b pl q then some q else needG (enough T i b pl) ((pts (prs T) ((i : Int), b)).2 - (q + 1) + 1).toNat (q + 1) := by
          rw [← hneed]
          have : ((pts (prs T) ((i : Int), b)).2 - q + 1).toNat = ((pts (prs T) ((i : Int), b)).2 - (q + 1) + 1).toNat + 1 := by omega
          rw [this]; rfl
        refine BR_dec (fun hen => ?_) (fun hen => ?_)
        · have hE : enough T i b pl q = true := decide_eq_true hen
          rw [hE, if_pos rfl] at hstep
          have hc : needR T (i : Int) b pl = (q, 0) := by
            unfold needR
            rw [hv, if_pos rfl, if_pos hok]
            show (match needN T i b pl with | some q => (q, (0 : Int)) | none => (0, 4)) = _
            rw [hstep]
          rw [hc] at h
          exact one_ok (f3.own (nr2 cc9)) (et2.trans f3) hsz h
        · have hE : enough T i b pl q = false := decide_eq_false hen
          rw [hE, if_neg (by simp)] at hstep
          have hw : IntKind.i64.wrap (q + 1) = q + 1 := wrap_i64 (by omega) (by omega)
          have hms : ((pts (prs T) ((i : Int), b)).2 + 1 - IntKind.i64.wrap (q + 1)).toNat < ((pts (prs T) ((i : Int), b)).2 + 1 - q).toNat := by rw [hw]; omega
          exact ⟨_, _, rfl, ⟨rfl, kt2.ext f3, by rw [hw]; omega, by rw [hw]; omega, ⟨_, tb2.ext f3, fun v => put_put⟩, by rw [hw]; exact hstep.symm⟩, hms⟩
      · have hz : ((pts (prs T) ((i : Int), b)).2 - q + 1).toNat = 0 := by omega
        rw [hz] at hneed
        have hc : needR T (i : Int) b pl = (0, 4) := by
          unfold needR
          rw [hv, if_pos rfl, if_pos hok]
          show (match needN T i b pl with | some q => (q, (0 : Int)) | none => (0, 4)) = _
          rw [← hneed]; rfl
        rw [hc] at h
        exact one_ok (nr cc9) et hsz h
    have j1 : ∀ q : Bool, (q = true → isM T a ∧ isS T b) → (q = false → ¬ (isM T a ∧ isS T b)) → J_rank_Need_1 W (endK K E) q (some p) pl a b s1.size s4 := by
      intro q g1 g2
      unfold J_rank_Need_1
      refine BR_bool (fun hb => ?_) (fun hb => j0 _ (fun hh => by cases hh) (fun _ hm => g2 hb ⟨hm.1, hm.2.1⟩))
      refine ⟨_, tb.men, ?_⟩
      refine c_within ?_
      try simp only [TUP_mk, AGG_mk, HD_mk, NL_mk, TYI_mk, TYB_mk, TYP_mk, TYL_mk, TYS_mk, TYM_mk, SO_mk, NX_mk, endK_mk, endK_mk', add_0]
      exact j0 _ (fun hh => ⟨(g1 hb).1, (g1 hb).2, by have := of_decide_eq_true hh; omega⟩) (fun hh hm => by have := of_decide_eq_false hh; have := hm.2.2; omega)
    refine c_isMan tb.tab vd.n6 ?_
    try simp only [TUP_mk, AGG_mk, HD_mk, NL_mk, TYI_mk, TYB_mk, TYP_mk, TYL_mk, TYS_mk, TYM_mk, SO_mk, NX_mk, endK_mk, endK_mk', add_0]
    refine BR_dec (fun ha => ?_) (fun ha => ?_)
    · refine c_isSheet tb.tab vd.m5 ?_
      try simp only [TUP_mk, AGG_mk, HD_mk, NL_mk, TYI_mk, TYB_mk, TYP_mk, TYL_mk, TYS_mk, TYM_mk, SO_mk, NX_mk, endK_mk, endK_mk', add_0]
      exact j1 _ (fun hh => ⟨by unfold isM; omega, by have := of_decide_eq_true hh; unfold isS; omega⟩) (fun hh hm => by have := of_decide_eq_false hh; have := hm.2; unfold isS at this; omega)
    · exact j1 _ (fun hh => by cases hh) (fun _ hm => by have := hm.1; unfold isM at this; omega)
  · have hc : needR T a b pl = (0, 1) := by unfold needR; rw [hv]; rfl
    rw [hc] at h
    exact one_pan (e4.own cc) (e03.trans e4) hsz h
end
end Go.Proofs.Ytkgcbfbbcaajpaa.G

/- Rank: sets of scores, the smaller ones first. -/
set_option linter.unusedSimpArgs false
set_option linter.unusedVariables false
set_option maxRecDepth 20000
namespace Go.Proofs.Ytkgcbfbbcaajpaa.G
open Go.V
/-- How many bits are set, as the library counts them. -/
def ocx (n : Int) : Int := (andv .i64 (IntKind.wrap .i64 (IntKind.wrap .u64 ((IntKind.wrap .u64 ((IntKind.wrap .u64 ((andv .u64 (IntKind.wrap .u64 ((shrv .u64 (IntKind.wrap .u64 ((andv .u64 (shrv .u64 (IntKind.wrap .u64 ((andv .u64 (shrv .u64 n 1) 6148914691236517205) + (andv .u64 n 6148914691236517205))) 2) 3689348814741910323) + (andv .u64 (IntKind.wrap .u64 ((andv .u64 (shrv .u64 n 1) 6148914691236517205) + (andv .u64 n 6148914691236517205))) 3689348814741910323))) 4) + (IntKind.wrap .u64 ((andv .u64 (shrv .u64 (IntKind.wrap .u64 ((andv .u64 (shrv .u64 n 1) 6148914691236517205) + (andv .u64 n 6148914691236517205))) 2) 3689348814741910323) + (andv .u64 (IntKind.wrap .u64 ((andv .u64 (shrv .u64 n 1) 6148914691236517205) + (andv .u64 n 6148914691236517205))) 3689348814741910323))))) 1085102592571150095) + (shrv .u64 (andv .u64 (IntKind.wrap .u64 ((shrv .u64 (IntKind.wrap .u64 ((andv .u64 (shrv .u64 (IntKind.wrap .u64 ((andv .u64 (shrv .u64 n 1) 6148914691236517205) + (andv .u64 n 6148914691236517205))) 2) 3689348814741910323) + (andv .u64 (IntKind.wrap .u64 ((andv .u64 (shrv .u64 n 1) 6148914691236517205) + (andv .u64 n 6148914691236517205))) 3689348814741910323))) 4) + (IntKind.wrap .u64 ((andv .u64 (shrv .u64 (IntKind.wrap .u64 ((andv .u64 (shrv .u64 n 1) 6148914691236517205) + (andv .u64 n 6148914691236517205))) 2) 3689348814741910323) + (andv .u64 (IntKind.wrap .u64 ((andv .u64 (shrv .u64 n 1) 6148914691236517205) + (andv .u64 n 6148914691236517205))) 3689348814741910323))))) 1085102592571150095) 8))) + (shrv .u64 (IntKind.wrap .u64 ((andv .u64 (IntKind.wrap .u64 ((shrv .u64 (IntKind.wrap .u64 ((andv .u64 (shrv .u64 (IntKind.wrap .u64 ((andv .u64 (shrv .u64 n 1) 6148914691236517205) + (andv .u64 n 6148914691236517205))) 2) 3689348814741910323) + (andv .u64 (IntKind.wrap .u64 ((andv .u64 (shrv .u64 n 1) 6148914691236517205) + (andv .u64 n 6148914691236517205))) 3689348814741910323))) 4) + (IntKind.wrap .u64 ((andv .u64 (shrv .u64 (IntKind.wrap .u64 ((andv .u64 (shrv .u64 n 1) 6148914691236517205) + (andv .u64 n 6148914691236517205))) 2) 3689348814741910323) + (andv .u64 (IntKind.wrap .u64 ((andv .u64 (shrv .u64 n 1) 6148914691236517205) + (andv .u64 n 6148914691236517205))) 3689348814741910323))))) 1085102592571150095) + (shrv .u64 (andv .u64 (IntKind.wrap .u64 ((shrv .u64 (IntKind.wrap .u64 ((andv .u64 (shrv .u64 (IntKind.wrap .u64 ((andv .u64 (shrv .u64 n 1) 6148914691236517205) + (andv .u64 n 6148914691236517205))) 2) 3689348814741910323) + (andv .u64 (IntKind.wrap .u64 ((andv .u64 (shrv .u64 n 1) 6148914691236517205) + (andv .u64 n 6148914691236517205))) 3689348814741910323))) 4) + (IntKind.wrap .u64 ((andv .u64 (shrv .u64 (IntKind.wrap .u64 ((andv .u64 (shrv .u64 n 1) 6148914691236517205) + (andv .u64 n 6148914691236517205))) 2) 3689348814741910323) + (andv .u64 (IntKind.wrap .u64 ((andv .u64 (shrv .u64 n 1) 6148914691236517205) + (andv .u64 n 6148914691236517205))) 3689348814741910323))))) 1085102592571150095) 8))) 16))) + (shrv .u64 (IntKind.wrap .u64 ((IntKind.wrap .u64 ((andv .u64 (IntKind.wrap .u64 ((shrv .u64 (IntKind.wrap .u64 ((andv .u64 (shrv .u64 (IntKind.wrap .u64 ((andv .u64 (shrv .u64 n 1) 6148914691236517205) + (andv .u64 n 6148914691236517205))) 2) 3689348814741910323) + (andv .u64 (IntKind.wrap .u64 ((andv .u64 (shrv .u64 n 1) 6148914691236517205) + (andv .u64 n 6148914691236517205))) 3689348814741910323))) 4) + (IntKind.wrap .u64 ((andv .u64 (shrv .u64 (IntKind.wrap .u64 ((andv .u64 (shrv .u64 n 1) 6148914691236517205) + (andv .u64 n 6148914691236517205))) 2) 3689348814741910323) + (andv .u64 (IntKind.wrap .u64 ((andv .u64 (shrv .u64 n 1) 6148914691236517205) + (andv .u64 n 6148914691236517205))) 3689348814741910323))))) 1085102592571150095) + (shrv .u64 (andv .u64 (IntKind.wrap .u64 ((shrv .u64 (IntKind.wrap .u64 ((andv .u64 (shrv .u64 (IntKind.wrap .u64 ((andv .u64 (shrv .u64 n 1) 6148914691236517205) + (andv .u64 n 6148914691236517205))) 2) 3689348814741910323) + (andv .u64 (IntKind.wrap .u64 ((andv .u64 (shrv .u64 n 1) 6148914691236517205) + (andv .u64 n 6148914691236517205))) 3689348814741910323))) 4) + (IntKind.wrap .u64 ((andv .u64 (shrv .u64 (IntKind.wrap .u64 ((andv .u64 (shrv .u64 n 1) 6148914691236517205) + (andv .u64 n 6148914691236517205))) 2) 3689348814741910323) + (andv .u64 (IntKind.wrap .u64 ((andv .u64 (shrv .u64 n 1) 6148914691236517205) + (andv .u64 n 6148914691236517205))) 3689348814741910323))))) 1085102592571150095) 8))) + (shrv .u64 (IntKind.wrap .u64 ((andv .u64 (IntKind.wrap .u64 ((shrv .u64 (IntKind.wrap .u64 ((andv .u64 (shrv .u64 (IntKind.wrap .u64 ((andv .u64 (shrv .u64 n 1) 6148914691236517205) + (andv .u64 n 6148914691236517205))) 2) 3689348814741910323) + (andv .u64 (IntKind.wrap .u64 ((andv .u64 (shrv .u64 n 1) 6148914691236517205) + (andv .u64 n 6148914691236517205))) 3689348814741910323))) 4) + (IntKind.wrap .u64 ((andv .u64 (shrv .u64 (IntKind.wrap .u64 ((andv .u64 (shrv .u64 n 1) 6148914691236517205) + (andv .u64 n 6148914691236517205))) 2) 3689348814741910323) + (andv .u64 (IntKind.wrap .u64 ((andv .u64 (shrv .u64 n 1) 6148914691236517205) + (andv .u64 n 6148914691236517205))) 3689348814741910323))))) 1085102592571150095) + (shrv .u64 (andv .u64 (IntKind.wrap .u64 ((shrv .u64 (IntKind.wrap .u64 ((andv .u64 (shrv .u64 (IntKind.wrap .u64 ((andv .u64 (shrv .u64 n 1) 6148914691236517205) + (andv .u64 n 6148914691236517205))) 2) 3689348814741910323) + (andv .u64 (IntKind.wrap .u64 ((andv .u64 (shrv .u64 n 1) 6148914691236517205) + (andv .u64 n 6148914691236517205))) 3689348814741910323))) 4) + (IntKind.wrap .u64 ((andv .u64 (shrv .u64 (IntKind.wrap .u64 ((andv .u64 (shrv .u64 n 1) 6148914691236517205) + (andv .u64 n 6148914691236517205))) 2) 3689348814741910323) + (andv .u64 (IntKind.wrap .u64 ((andv .u64 (shrv .u64 n 1) 6148914691236517205) + (andv .u64 n 6148914691236517205))) 3689348814741910323))))) 1085102592571150095) 8))) 16))) 32)))) 127)
def popN (n : Nat) : Nat := ((List.range 10).filter fun i => n.testBit i).length
theorem ocx_pop : ∀ n : Nat, n < 1024 → ocx (n : Int) = (popN n : Nat) := by
  have h : ((List.range 1024).all fun (n : Nat) => decide (ocx (n : Int) = (popN n : Nat))) = true := by decide +kernel
  intro n hn
  simpa using List.all_eq_true.1 h n (by simpa using hn)
/-- All sets of one size, and of so many sizes. -/
def lay (M z : Nat) : List Nat := (List.range (2 ^ M)).filter fun s => popN s == z
def setsL (M : Nat) : List Nat := (List.range (M + 1)).flatMap (lay M)
def layK (z k : Nat) : List Nat := (List.range k).filter fun s => popN s == z
theorem layK_succ (z k : Nat) : layK z (k + 1) = layK z k ++ (if popN k = z then [k] else []) := by
  unfold layK
  rw [List.range_succ, List.filter_append]
  congr 1
  by_cases h : popN k = z <;> simp [h]
def upTo (M z : Nat) : List Nat := (List.range z).flatMap (lay M)
theorem upTo_succ (M z : Nat) : upTo M (z + 1) = upTo M z ++ lay M z := by
  unfold upTo
  rw [List.range_succ, List.flatMap_append]
  simp
theorem upTo_pre {M : Nat} : ∀ (d z : Nat), ∃ r, upTo M (z + d) = upTo M z ++ r
  | 0, z => ⟨[], by simp⟩
  | d + 1, z => by
    obtain ⟨r, hr⟩ := upTo_pre d z
    exact ⟨r ++ lay M (z + d), by rw [← Nat.add_assoc, upTo_succ, hr, List.append_assoc]⟩
theorem layK_pre {z : Nat} : ∀ (d k : Nat), ∃ r, layK z (k + d) = layK z k ++ r
  | 0, k => ⟨[], by simp⟩
  | d + 1, k => by
    obtain ⟨r, hr⟩ := layK_pre (z := z) d k
    exact ⟨_, by rw [← Nat.add_assoc, layK_succ, hr, List.append_assoc]⟩
theorem sets_get {M z k : Nat} (hz : z < M + 1) (hk : k < 2 ^ M) (hp : popN k = z) : (setsL M)[(upTo M z).length + (layK z k).length]? = some k := by
  obtain ⟨r, hr⟩ := upTo_pre (M := M) (M + 1 - (z + 1)) (z + 1)
  rw [show z + 1 + (M + 1 - (z + 1)) = M + 1 by omega] at hr
  have hs : setsL M = upTo M (z + 1) ++ r := hr
  rw [upTo_succ M z] at hs
  obtain ⟨q, hq⟩ := layK_pre (z := z) (2 ^ M - (k + 1)) (k + 1)
  rw [show k + 1 + (2 ^ M - (k + 1)) = 2 ^ M by omega, layK_succ, if_pos hp] at hq
  have hl : lay M z = layK z k ++ [k] ++ q := hq
  rw [hs, hl, List.append_assoc, List.getElem?_append_right (by omega), Nat.add_sub_cancel_left, List.append_assoc, List.append_assoc, List.getElem?_append_right (Nat.le_refl _), Nat.sub_self]
  rfl
def setsV (M : Nat) : List (List Value) := (setsL M).map fun (s : Nat) => [.int .u64 (s : Int)]
section
variable {W : World} {K : VK} {E : List PanicEntry → Hp → Prop} {s : Hp}
theorem c_ones {n : Nat} (hn : n < 1024) (h : K (.int .i64 (popN n : Nat)) s) : CALL Pg W F_math_bits_OnesCount [.int .u64 (n : Int)] K E s := by
  refine does_math_bits_OnesCount W n _ s ?_
  unfold T_math_bits_OnesCount
  refine does_math_bits_OnesCount64 W n _ s ?_
  unfold T_math_bits_OnesCount64
  have := ocx_pop n hn
  unfold ocx at this
  rw [this]
  try simp only [TUP_mk, AGG_mk, HD_mk, NL_mk, TYI_mk, TYB_mk, TYP_mk, TYL_mk, TYS_mk, TYM_mk, SO_mk, NX_mk, endK_mk, endK_mk', add_0]
  exact h
def SetR (M : Nat) (a : Addr) : Hp → Prop := fun s => cellAt s a = some (.int .i64 (M : Nat))
theorem SetR.blind {M : Nat} {a : Addr} : Blind (SetR M a) := fun s l o hl ho h => cell_blind hl h
theorem c_sets {M : Nat} (h : ∀ s' a, Ext s s' → s.size ≤ a.block → cellAt s' a = some (.int .i64 (M : Nat)) → K (.func (.func 80) #[] #[.pointer (some a)]) s') : CALL Pg W F_rank_sets [.int .i64 (M : Nat)] K E s := by
  refine does_rank_sets W M _ s ?_
  unfold T_rank_sets
  refine NEW_rule fun s1 e1 z1 n1 _ => ?_
  exact h s1 _ e1 (Nat.le_refl _) (n1 0 _ rfl).cell
theorem shl_pow : ∀ M : Nat, M ≤ 10 → shlv .u64 1 (M : Int) = ((2 ^ M : Nat) : Int) := by decide +kernel
theorem pow_lim : ∀ M : Nat, M ≤ 10 → 2 ^ M ≤ 1024 := by decide
theorem it_sets {M : Nat} {a : Addr} (hM : M ≤ 10) : IterC Pg W (.func (.func 80) #[] #[.pointer (some a)]) (setsV M) (SetR M a) := by
  have hp := pow_lim M hM
  refine ⟨⟨_, _, _, rfl⟩, fun y I J s hR hext hy h0 => ?_⟩
  refine does_rank_sets_c1 W y a _ s ?_
  have r0 := hR 0 s h0
  unfold T_rank_sets_c1
  refine ⟨_, r0, ?_⟩
  have hw0 : IntKind.i64.wrap ((M : Int) + 1) = ((M + 1 : Nat) : Int) := by rw [wrap_i64 (by omega) (by omega)]; rfl
  dsimp only
  rw [hw0]
  refine L_rank_sets_c1_0_rule W _ y a ((M + 1 : Nat) : Int) (fun n4 s' => ∃ z : Nat, z ≤ M + 1 ∧ n4 = z ∧ I (upTo M z).length s') (fun n4 _ => ((M + 1 : Nat) - n4 : Int).toNat) 0 s ⟨0, by omega, rfl, h0⟩ ?_
  rintro n4 s1 ⟨z, hz, rfl, hI⟩
  unfold B_rank_sets_c1_0
  refine BR_dec (fun h1 => ?_) (fun h1 => ?_)
  · have hzM : z < M + 1 := by omega
    refine ⟨_, hR _ _ hI, NNI_nat ?_⟩
    rw [shl_pow M hM]
    refine L_rank_sets_c1_1_rule W _ _ y a z ((M + 1 : Nat) : Int) ((2 ^ M : Nat) : Int) (fun n6 s' => ∃ k : Nat, k ≤ 2 ^ M ∧ n6 = k ∧ I ((upTo M z).length + (layK z k).length) s') (fun n6 _ => ((2 ^ M : Nat) - n6 : Int).toNat) 0 s1 ⟨0, Nat.zero_le _, rfl, hI⟩ ?_
    rintro n6 s2 ⟨k, hk, rfl, hI2⟩
    unfold B_rank_sets_c1_1
    refine BR_dec (fun h2 => ?_) (fun h2 => ?_)
    · have hkp : k < 2 ^ M := by omega
      have hw : IntKind.wrap .u64 ((k : Int) + 1) = ((k + 1 : Nat) : Int) := by rw [wrap_u64 (by omega) (by omega)]; rfl
      have hms : (((2 ^ M : Nat) : Int) - IntKind.wrap .u64 ((k : Int) + 1)).toNat < (((2 ^ M : Nat) : Int) - k).toNat := by rw [hw]; omega
      refine c_ones (by omega) ?_
      try simp only [TUP_mk, AGG_mk, HD_mk, NL_mk, TYI_mk, TYB_mk, TYP_mk, TYL_mk, TYS_mk, TYM_mk, SO_mk, NX_mk, endK_mk, endK_mk', add_0]
      have hsucc := layK_succ z k
      refine BR_eq (fun h3 => ?_) (fun h3 => ?_)
      · have hpk : popN k = z := by omega
        rw [if_pos hpk] at hsucc
        have hx : (setsV M)[(upTo M z).length + (layK z k).length]? = some [.int .u64 (k : Int)] := by
          unfold setsV
          rw [List.getElem?_map, sets_get hzM hkp hpk]
          rfl
        refine DoesV.mono (hy _ _ hx s2 hI2) ?_
        rintro e s3 (⟨rfl, hI3⟩ | ⟨rfl, hJ⟩)
        · try simp only [TUP_mk, AGG_mk, HD_mk, NL_mk, TYI_mk, TYB_mk, TYP_mk, TYL_mk, TYS_mk, TYM_mk, SO_mk, NX_mk, endK_mk, endK_mk', add_0]
          unfold J_rank_sets_c1_0
          refine BR_bool (fun hh => by cases hh) (fun _ => ?_)
          refine ⟨rfl, _, rfl, ⟨k + 1, by omega, hw, ?_⟩, hms⟩
          rw [hsucc, List.length_append]; exact hI3
        · try simp only [TUP_mk, AGG_mk, HD_mk, NL_mk, TYI_mk, TYB_mk, TYP_mk, TYL_mk, TYS_mk, TYM_mk, SO_mk, NX_mk, endK_mk, endK_mk', add_0]
          unfold J_rank_sets_c1_0
          refine BR_bool (fun _ => ?_) (fun hh => by cases hh)
          exact ⟨⟨_, rfl⟩, .inr hJ⟩
      · have hpk : ¬ popN k = z := by omega
        rw [if_neg hpk, List.append_nil] at hsucc
        unfold J_rank_sets_c1_0
        refine BR_bool (fun hh => by cases hh) (fun _ => ?_)
        exact ⟨rfl, _, rfl, ⟨k + 1, by omega, hw, by rw [hsucc]; exact hI2⟩, hms⟩
    · have hkp : k = 2 ^ M := by omega
      subst hkp
      have hw : IntKind.i64.wrap ((z : Int) + 1) = ((z + 1 : Nat) : Int) := by rw [wrap_i64 (by omega) (by omega)]; rfl
      refine ⟨rfl, _, rfl, ⟨z + 1, by omega, hw, ?_⟩, ?_⟩
      · rw [upTo_succ, List.length_append]; exact hI2
      · show (((M + 1 : Nat) : Int) - IntKind.i64.wrap ((z : Int) + 1)).toNat < (((M + 1 : Nat) : Int) - z).toNat
        rw [hw]; omega
  · have hzM : z = M + 1 := by omega
    subst hzM
    refine ⟨⟨_, rfl⟩, .inl ?_⟩
    have : (setsV M).length = (upTo M (M + 1)).length := by unfold setsV; rw [List.length_map]; rfl
    rw [this]; exact hI
end
end Go.Proofs.Ytkgcbfbbcaajpaa.G

/- Rank: a reading of more scores. -/
set_option linter.unusedSimpArgs false
set_option linter.unusedVariables false
set_option maxRecDepth 20000
namespace Go.Proofs.Ytkgcbfbbcaajpaa.G
open Go.V
theorem has_u : ∀ w : Nat, w < 1024 → ∀ k : Nat, k < 10 → (andv .u64 (shrv .u64 (w : Int) (k : Int)) 1 == 1) = w.testBit k := by
  have h : ((List.range 1024).all fun (l : Nat) => (List.range 10).all fun (m : Nat) => decide ((andv .u64 (shrv .u64 (l : Int) (m : Int)) 1 == 1) = l.testBit m)) = true := by decide +kernel
  intro w hl m hm
  have h1 := List.all_eq_true.1 h w (by simpa using hl)
  have h2 := List.all_eq_true.1 h1 m (by simpa using hm)
  exact of_decide_eq_true h2
/-- What is known, with some scores of two read. -/
def bet (rd : Int × Int → Int × Int) (m a b w : Nat) : Int × Int → Int × Int := fun x =>
  if x.1 = a ∧ w.testBit x.2.toNat = true then ((rd x).2, (rd x).2) else if x.1 = b ∧ w.testBit (m + x.2.toNat) = true then ((rd x).1, (rd x).1) else rd x
section
variable {W : World} {K : VK} {E : List PanicEntry → Hp → Prop} {s : Hp} {p : Addr} {n m : Nat} {off : List Int} {l : List Pr}
theorem fin_span {R : Ending → Hp → Prop} {C : Nat} {v0 v1 : Int} {y0 y1 : Value} (p0 : Own s ⟨C, 0, none⟩ y0) (p1 : Own s ⟨C, 1, none⟩ y1) (h : ∀ s', Kp (· = C) s s' → R (.returned (spanV (v0, v1))) s') :
    (WR (Addr.add ⟨C, 0, none⟩ 0) (.int .i64 v0) <| WR (Addr.add ⟨C, 0, none⟩ 1) (.int .i64 v1) <| RDI .i64 (Addr.add ⟨C, 0, none⟩ 0) fun n36 => RDI .i64 (Addr.add ⟨C, 0, none⟩ 1) fun n37 => R (.returned (.agg #[(.int .i64 n36), (.int .i64 n37)]))) s := by
  refine WR_own p0 rfl ?_
  refine WR_own (own_set_ne (.inr (by show (1 : Nat) ≠ 0; decide)) p1) rfl ?_
  refine ⟨_, (own_set_ne (.inr (by show (0 : Nat) ≠ 1; decide)) (own_set p0)).cell, _, (own_set (own_set_ne (.inr (by show (1 : Nat) ≠ 0; decide)) p1)).cell, ?_⟩
  exact h _ (Kp.setC (Kp.setC (Kp.refl s) (.inl rfl)) (.inl rfl))
theorem c_better_of {i : Int} {k a b w : Nat} (vd : VdT n m off l) (ht : TabO s p n m off l) (hw : w < 1024) (hk : k < m) (h : ∀ s', Ext s s' → K (spanV (bet (pts l) m a b w (i, k))) s') :
    CALL Pg W F_rank_better_of [.agg #[.pointer (some p), .int .i64 a, .int .i64 b, .int .u64 (w : Int)], .agg #[.int .i64 i, .int .i64 k]] K E s := by
  have hm5 := vd.m5
  refine does_rank_better_of W (some p) a b w i k _ s ?_
  unfold T_rank_better_of
  refine NEW_rule fun s1 e1 z1 n1 _ => ?_
  refine NEW_rule fun s2 e2 z2 n2 _ => ?_
  refine NEWZ_rule zc_29 fun s3 e3 z3 n3 => ?_
  have e13 := e2.trans e3
  have e03 := e1.trans e13
  have a0 := e13.cell (n1 0 _ rfl).cell
  have a1 := e13.cell (n1 1 _ rfl).cell
  have a2 := e13.cell (n1 2 _ rfl).cell
  have a3 := e13.cell (n1 3 _ rfl).cell
  have c0 := e3.cell (n2 0 _ rfl).cell
  have c1 := e3.cell (n2 1 _ rfl).cell
  refine ⟨_, a0, _, c0, _, c1, ?_⟩
  refine c_plain_of (ht.ext e03) fun s4 e4 => ?_
  unfold spanV
  try simp only [TUP_mk, AGG_mk, HD_mk, NL_mk, TYI_mk, TYB_mk, TYP_mk, TYL_mk, TYS_mk, TYM_mk, SO_mk, NX_mk, endK_mk, endK_mk', add_0]
  refine NEWZ_rule zc_29 fun s5 e5 z5 n5 => ?_
  refine wr2 rfl rfl (new2 n5) fun s6 k6 z6 o0 o1 => ?_
  have e46 : Ext s4 s6 := ext_own e5 (Nat.le_refl _) k6
  have e36 := e4.trans e46
  have d0 := e36.own (n3 0 _ rfl)
  have d1 := e36.own (n3 1 _ rfl)
  have hz1 : s1.size = s.size + 1 := z1
  have hz2 : s2.size = s1.size + 1 := z2
  have tk : ((k : Int)).toNat = k := by omega
  generalize hX : pts l (i, (k : Int)) = X at o0 o1
  have fin : ∀ v0 v1 : Int, bet (pts l) m a b w (i, k) = (v0, v1) → ∀ s', Kp (· = s2.size) s6 s' → (endK K E) (.returned (spanV (v0, v1))) s' := by
    intro v0 v1 hb s' k'
    rw [hb] at h
    refine h s' ⟨Nat.le_trans e03.1 (Nat.le_trans e36.1 k'.1), fun q hq => ?_⟩
    have e06 := e03.trans e36
    rw [k'.2 q (Nat.lt_of_lt_of_le hq e06.1) (fun hh => by have : q = s2.size := hh; omega)]
    exact e06.2 q hq
  have j0 : ∀ q : Bool, ¬ (i = a ∧ w.testBit k = true) → q = decide (i = b ∧ w.testBit (m + k) = true) → J_rank_better_of_0 W (endK K E) q s4.size s2.size s6 := by
    intro q hna hq
    unfold J_rank_better_of_0
    refine BR_bool (fun hh => ?_) (fun hh => ?_)
    · refine ⟨_, o0.cell, _, o0.cell, fin_span d0 d1 (fin _ _ ?_)⟩
      have hb : i = b ∧ w.testBit (m + k) = true := of_decide_eq_true (hq ▸ hh)
      unfold bet
      dsimp only
      rw [tk, if_neg hna, if_pos hb, hX]
    · refine ⟨_, o0.cell, _, o1.cell, fin_span d0 d1 (fin _ _ ?_)⟩
      have hb : ¬ (i = b ∧ w.testBit (m + k) = true) := of_decide_eq_false (hq ▸ hh)
      unfold bet
      dsimp only
      rw [tk, if_neg hna, if_neg hb, hX]
  have j1 : ∀ q : Bool, q = decide (i = a ∧ w.testBit k = true) → J_rank_better_of_1 W (endK K E) q s4.size s2.size s1.size s.size s6 := by
    intro q hq
    unfold J_rank_better_of_1
    refine BR_bool (fun hh => ?_) (fun hh => ?_)
    · refine ⟨_, o1.cell, _, o1.cell, fin_span d0 d1 (fin _ _ ?_)⟩
      have ha : i = a ∧ w.testBit k = true := of_decide_eq_true (hq ▸ hh)
      unfold bet
      dsimp only
      rw [tk, if_pos ha, hX]
    · have ha : ¬ (i = a ∧ w.testBit k = true) := of_decide_eq_false (hq ▸ hh)
      refine ⟨_, e36.cell c0, _, e36.cell a2, ?_⟩
      refine BR_eq (fun hib => ?_) (fun hib => j0 _ ha (by rw [decide_eq_false (fun hx => hib hx.1)]))
      have hwr : IntKind.i64.wrap ((m : Int) + (k : Int)) = ((m + k : Nat) : Int) := by rw [wrap_i64 (by omega) (by omega)]; omega
      refine ⟨_, e36.cell a3, _, e36.cell a0, _, ((ht.ext e03).ext e36).sheets, _, e36.cell c1, ?_⟩
      dsimp only
      rw [hwr]
      refine NNI_nat (j0 _ ha ?_)
      rw [has_u w hw (m + k) (by omega)]
      cases ht : w.testBit (m + k) with
      | true => exact (decide_eq_true ⟨hib, rfl⟩).symm
      | false => exact (decide_eq_false (fun hx => by cases hx.2)).symm
  refine ⟨_, e36.cell c0, _, e36.cell a1, ?_⟩
  refine BR_eq (fun hia => ?_) (fun hia => j1 _ (by rw [decide_eq_false (fun hx => hia hx.1)]))
  refine ⟨_, e36.cell a3, _, e36.cell c1, NNI_nat (j1 _ ?_)⟩
  rw [has_u w hw k (by omega)]
  cases ht : w.testBit k with
  | true => exact (decide_eq_true ⟨hia, rfl⟩).symm
  | false => exact (decide_eq_false (fun hx => by cases hx.2)).symm
theorem mth_101 : mth Pg 101 "furrowworks/rank.of" = some 103 := by kernel_rfl
theorem bet_in {rd : Int × Int → Int × Int} {a b w : Nat} (h : ∀ k, 0 ≤ (rd k).1 ∧ (rd k).1 ≤ (rd k).2 ∧ (rd k).2 ≤ 40) (x : Int × Int) : 0 ≤ (bet rd m a b w x).1 ∧ (bet rd m a b w x).1 ≤ (bet rd m a b w x).2 ∧ (bet rd m a b w x).2 ≤ 40 := by
  have := h x
  unfold bet
  split
  · dsimp only; omega
  · split
    · dsimp only; omega
    · exact this
theorem rdg_better {a b w : Nat} (v : VdT n m off l) (ht : TabO s p n m off l) (hw : w < 1024) : Rdg W s (.iface 101 (.agg #[.pointer (some p), .int .i64 a, .int .i64 b, .int .u64 (w : Int)])) m (bet (pts l) m a b w) := ⟨bet_in (pts_in v), fun s' e i k hk K E h => by
  unfold INV
  dsimp only
  rw [mth_101]
  exact c_better_of v (ht.ext e) hw hk h⟩
end
end Go.Proofs.Ytkgcbfbbcaajpaa.G

/- Rank: Could. -/
set_option linter.unusedSimpArgs false
set_option linter.unusedVariables false
set_option maxRecDepth 20000
namespace Go.Proofs.Ytkgcbfbbcaajpaa.G
open Go.V
theorem zc_70 : zc Pg 70 = [.pointer none] := by kernel_rfl
theorem find_first {α : Type} {p : α → Bool} : ∀ (l : List α) (k : Nat) (x : α), l[k]? = some x → p x = true → (∀ j, j < k → ∀ y, l[j]? = some y → p y = false) → l.find? p = some x
  | [], k, x, h, _, _ => by simp at h
  | y :: l, 0, x, h, hp, _ => by
    have : y = x := by simpa using h
    subst this
    rw [List.find?_cons, hp]
  | y :: l, k + 1, x, h, hp, hj => by
    have hy : p y = false := hj 0 (by omega) y rfl
    rw [List.find?_cons, hy]
    exact find_first l k x (by simpa using h) hp (fun j hjk z hz => hj (j + 1) (by omega) z (by simpa using hz))
def provesB (T : Tb) (a b w : Nat) : Bool := befP (bet (pts (prs T)) T.m a b w) false T.m T.off a b
def couldN (T : Tb) (a b : Nat) : Option Nat := (setsL (2 * T.m)).find? (provesB T a b)
def couldR (T : Tb) (a b : Int) : Int × Int := if okT T then (if isM T a ∧ isM T b then (if befP (pts (prs T)) true T.m T.off a.toNat b.toNat then (match couldN T a.toNat b.toNat with | some w => ((w : Nat), 0) | none => (0, 4)) else (0, 4)) else (0, 2)) else (0, 1)
theorem sets_lt {M w k : Nat} (h : (setsL M)[k]? = some w) : w < 2 ^ M := by
  have := List.mem_of_getElem? h
  unfold setsL at this
  obtain ⟨z, _, hz⟩ := List.mem_flatMap.1 this
  unfold lay at hz
  exact List.mem_range.1 (List.mem_filter.1 hz).1
section
variable {W : World} {K : VK} {E : List PanicEntry → Hp → Prop} {s : Hp} {T : Tb}
theorem two_pan {t : Hp} {B C : Nat} {KK : Int → Int → Hp → Prop} {e n : Int} {z : Value} (b0 : Own t ⟨B, 0, none⟩ (.int .i64 n)) (c0 : Own t ⟨C, 0, none⟩ z) (hne : B ≠ C) (ext : Ext s t) (hC : s.size ≤ C) (h : ∀ s', Ext s s' → KK n e s') :
    DEF Pg W (.tuple #[(.func (.func 45) #[] #[]), (.tuple #[(.pointer (some ⟨C, 0, none⟩))])]) (some (pn e)) (RDI .i64 ⟨B, 0, none⟩ fun n87 => RDI .i64 ⟨C, 0, none⟩ fun n88 => KK n87 n88) t :=
  def_some c0 fun s' k o => ⟨_, (k.own (by show ¬ B = C; omega) b0).cell, _, o.cell, h s' (kp_new ext hC k)⟩
theorem c_Could {x y : Option Addr} {c c' : Nat} {a b : Int} (hx : RowAt s x (ints T.off)) (hy : ScAt s y T.sc) (hlo : T.off.length ≤ 100000) (h : ∀ s', Ext s s' → K (.tuple #[.int .i64 (couldR T a b).1, .int .i64 (couldR T a b).2]) s') :
    CALL Pg W F_rank_Could [.agg #[.int .i64 T.men, .int .i64 T.sheets, .slice x T.off.length c, .slice y T.sc.length c'], .int .i64 a, .int .i64 b] K E s := by
  refine does_rank_Could W T.men T.sheets x T.off.length c y T.sc.length c' a b _ s ?_
  unfold T_rank_Could
  refine NEW_rule fun s1 e1 z1 n1 _ => ?_
  refine NEW_rule fun s2 e2 z2 n2 _ => ?_
  refine NEW_rule fun s3 e3 z3 n3 _ => ?_
  refine NEWZ_rule zc_3 fun s4 e4 z4 n4 => ?_
  refine NEWZ_rule zc_30 fun s5 e5 z5 n5 => ?_
  have e15 := e2.trans (e3.trans (e4.trans e5))
  have e05 := e1.trans e15
  have r0 := e5.own (n4 0 _ rfl)
  have cc := n5 0 _ rfl
  have ca := (e3.trans (e4.trans e5)).cell (n2 0 _ rfl).cell
  have cb := (e4.trans e5).cell (n3 0 _ rfl).cell
  have hs1 := e1.1
  have hs2 := e2.1
  have hs3 := e3.1
  have hsz : s.size ≤ s4.size := by have := e4.1; omega
  have hsz3 : s.size ≤ s3.size := by omega
  have hne : s3.size ≠ s4.size := by omega
  refine ⟨_, e15.cell (n1 0 _ rfl).cell, _, e15.cell (n1 1 _ rfl).cell, _, _, _, e15.cell (n1 2 _ rfl).cell, _, _, _, e15.cell (n1 3 _ rfl).cell, ?_⟩
  refine c_open (hx.ext e05) (hy.ext e05) hlo (fun hv s6 p r e6 tb6 hp hr => ?_) (fun hv s6 e6 => ?_)
  · try simp only [TUP_mk, AGG_mk, HD_mk, NL_mk, TYI_mk, TYB_mk, TYP_mk, TYL_mk, TYS_mk, TYM_mk, SO_mk, NX_mk, endK_mk, endK_mk', add_0]
    have vd := okT_vd hv
    have hm5 := vd.m5
    have hn : ((T.n : Nat) : Int) = T.men := by obtain ⟨hh, _⟩ := okT_iff.1 hv; unfold Tb.n; omega
    refine NEWZ_rule zc_70 fun s7 e7 z7 n7 => ?_
    have o7 := n7 0 _ rfl
    refine WR_own o7 rfl ?_
    generalize hs8 : setC s7 ⟨s6.size, 0, none⟩ (.pointer (some p)) = s8
    have e68 : Ext s6 s8 := by rw [← hs8]; exact e7.setC (by show s6.size ≤ s6.size; omega)
    have cp : cellAt s8 ⟨s6.size, 0, none⟩ = some (.pointer (some p)) := by rw [← hs8]; exact (own_set o7).cell
    have e58 := e6.trans e68
    have e08 := e05.trans e58
    have tb := tb6.ext e68
    have ca8 := e58.cell ca
    have cb8 := e58.cell cb
    have r8 := e58.own r0
    have cc8 := e58.own cc
    have no : ¬ (isM T a ∧ isM T b) → ∀ s', Ext s s' → K (.tuple #[.int .i64 0, .int .i64 2]) s' := fun hno => by
      have hc : couldR T a b = (0, 2) := by unfold couldR; rw [hv, if_pos rfl, if_neg hno]
      rw [hc] at h; exact h
    have j0 : ∀ q : Bool, (q = true → isM T a ∧ isM T b) → (q = false → ¬ (isM T a ∧ isM T b)) → J_rank_Could_0 W (endK K E) q s6.size s1.size s2.size s3.size s4.size s8 := by
      intro q g1 g2
      unfold J_rank_Could_0
      refine c_must (fun hb => ?_) (fun hb => two_pan r8 cc8 hne e08 hsz (no (g2 hb)))
      try simp only [TUP_mk, AGG_mk, HD_mk, NL_mk, TYI_mk, TYB_mk, TYP_mk, TYL_mk, TYS_mk, TYM_mk, SO_mk, NX_mk, endK_mk, endK_mk', add_0]
      have hall := g1 hb
      obtain ⟨ha, hb'⟩ := hall
      obtain ⟨i, rfl⟩ := Int.eq_ofNat_of_zero_le ha.1
      obtain ⟨j, rfl⟩ := Int.eq_ofNat_of_zero_le hb'.1
      have hok : isM T (i : Int) ∧ isM T (j : Int) := ⟨ha, hb'⟩
      unfold isM at ha hb'
      have rdg := rdg_plain (W := W) vd tb.tab
      refine ⟨_, cp, _, cp, _, ca8, _, cb8, ?_⟩
      refine c_can vd tb.tab rdg (by omega) (by omega) fun s9 e9 => ?_
      try simp only [TUP_mk, AGG_mk, HD_mk, NL_mk, TYI_mk, TYB_mk, TYP_mk, TYL_mk, TYS_mk, TYM_mk, SO_mk, NX_mk, endK_mk, endK_mk', add_0]
      have e09 := e08.trans e9
      have r9 := e9.own r8
      have cc9 := e9.own cc8
      rcases Bool.eq_false_or_eq_true (befP (pts (prs T)) true T.m T.off i j) with hcan | hcan
      rotate_left
      · refine c_must (fun hh => by rw [hcan] at hh; cases hh) (fun _ => ?_)
        have hc : couldR T (i : Int) (j : Int) = (0, 4) := by
          unfold couldR
          rw [hv, if_pos rfl, if_pos hok]
          show (if befP (pts (prs T)) true T.m T.off i j then _ else ((0 : Int), (4 : Int))) = _
          rw [hcan, if_neg (by simp)]
        rw [hc] at h
        exact two_pan r9 cc9 hne e09 hsz h
      refine c_must (fun _ => ?_) (fun hh => by rw [hcan] at hh; cases hh)
      try simp only [TUP_mk, AGG_mk, HD_mk, NL_mk, TYI_mk, TYB_mk, TYP_mk, TYL_mk, TYS_mk, TYM_mk, SO_mk, NX_mk, endK_mk, endK_mk', add_0]
      have hcS : ∀ w, couldN T i j = some w → couldR T (i : Int) (j : Int) = (((w : Nat) : Int), 0) := fun w hw => by
        unfold couldR
        rw [hv, if_pos rfl, if_pos hok, Int.toNat_natCast, Int.toNat_natCast, hcan, if_pos rfl, hw]
      have hcN : couldN T i j = none → couldR T (i : Int) (j : Int) = (0, 4) := fun hw => by
        unfold couldR
        rw [hv, if_pos rfl, if_pos hok, Int.toNat_natCast, Int.toNat_natCast, hcan, if_pos rfl, hw]
      have tb9 := tb.ext e9
      refine ⟨_, e9.cell cp, _, tb9.sheets, ?_⟩
      have hw2 : IntKind.i64.wrap (2 * ((T.m : Nat) : Int)) = ((2 * T.m : Nat) : Int) := by rw [wrap_i64 (by omega) (by omega)]; omega
      dsimp only
      rw [hw2]
      refine c_sets fun s10 q e10 hq cq => ?_
      have e8a := e9.trans e10
      refine ⟨setsV (2 * T.m), SetR (2 * T.m) q, fun k s' => Ext s10 s' ∧ ∀ j', j' < k → ∀ w, (setsL (2 * T.m))[j']? = some w → provesB T i j w = false, fun c s' => c = .ret ∧ ∃ w, couldN T i j = some w ∧ Ext s s' ∧ Own s' ⟨s3.size, 0, none⟩ (.int .i64 (w : Nat)) ∧ Own s' ⟨s4.size, 0, none⟩ (.int .i64 0), it_sets (by omega), SetR.blind,
        fun k s' h' => h'.1.cell cq, fun k s1 s2 h' e => ⟨h'.1.trans e, h'.2⟩, ⟨Ext.push (Ext.push (Ext.refl _)), fun j' hj' => by omega⟩, ?_, ?_, ?_⟩
      · intro k xx hxx
        unfold setsV at hxx
        rw [List.getElem?_map] at hxx
        obtain ⟨w, hwk, rfl⟩ := Option.map_eq_some_iff.1 hxx
        have hwlt := sets_lt hwk
        have hpl := pow_lim (2 * T.m) (by omega)
        refine ⟨rfl, fun s' h' => ?_⟩
        try simp only [TUP_mk, AGG_mk, HD_mk, NL_mk, TYI_mk, TYB_mk, TYP_mk, TYL_mk, TYS_mk, TYM_mk, SO_mk, NX_mk, endK_mk, endK_mk', add_0]
        have e8s := e8a.trans h'.1
        refine ⟨_, e8s.cell cp, _, e8s.cell cp, _, e8s.cell ca8, _, e8s.cell cb8, _, e8s.cell ca8, _, e8s.cell cb8, ?_⟩
        have tbs := tb.ext e8s
        refine c_surely vd tbs.tab (rdg_better (W := W) vd tbs.tab (show w < 1024 by omega)) (by omega) (by omega) fun s11 e11 => ?_
        try simp only [TUP_mk, AGG_mk, HD_mk, NL_mk, TYI_mk, TYB_mk, TYP_mk, TYL_mk, TYS_mk, TYM_mk, SO_mk, NX_mk, endK_mk, endK_mk', add_0]
        have e811 := e8s.trans e11
        refine BR_bool (fun hh => ?_) (fun hh => ?_)
        · have rb := e811.own r8
          have cb' := e811.own cc8
          have hcN : couldN T i j = some w := find_first _ k w hwk hh h'.2
          have hww : IntKind.i64.wrap ((w : Nat) : Int) = (w : Nat) := wrap_i64 (by omega) (by omega)
          rw [hww]
          refine WR_own rb rfl ?_
          have cb2 : Own (setC s11 (Addr.add ⟨s3.size, 0, none⟩ 0) (.int .i64 (w : Nat))) ⟨s4.size, 0, none⟩ (.int .i64 0) := own_set_ne (.inl (by show s4.size ≠ s3.size; omega)) cb'
          refine WR_own cb2 rfl ?_
          exact ⟨trivial, w, hcN, ((e08.trans e811).setC (by show s.size ≤ s3.size; omega)).setC (by show s.size ≤ s4.size; omega), own_set_ne (.inl (by show s3.size ≠ s4.size; omega)) (own_set rb), own_set cb2⟩
        · refine ⟨h'.1.trans e11, fun j' hj' w' hw' => ?_⟩
          by_cases e : j' = k
          · subst e
            rw [hwk] at hw'
            injection hw' with hw'
            subst hw'
            exact hh
          · exact h'.2 j' (by omega) w' hw'
      · intro s' h'
        have hnone : couldN T i j = none := by
          unfold couldN
          refine List.find?_eq_none.2 fun w hw => ?_
          obtain ⟨q', hq', e⟩ := List.mem_iff_getElem.1 hw
          have hlen : (setsV (2 * T.m)).length = (setsL (2 * T.m)).length := by unfold setsV; rw [List.length_map]
          have := h'.2 q' (by rw [hlen]; exact hq') w (by rw [List.getElem?_eq_getElem hq', e])
          rw [this]; simp
        rw [hcN hnone] at h
        have e8s := e8a.trans h'.1
        have rb := e8s.own r8
        have cb' := e8s.own cc8
        refine WR_own rb rfl ?_
        have cb2 : Own (setC s' (Addr.add ⟨s3.size, 0, none⟩ 0) (.int .i64 0)) ⟨s4.size, 0, none⟩ (.int .i64 0) := own_set_ne (.inl (by show s4.size ≠ s3.size; omega)) cb'
        refine WR_own cb2 rfl (def_none ?_)
        exact ⟨_, (own_set_ne (.inl (by show s3.size ≠ s4.size; omega)) (own_set rb)).cell, _, (own_set cb2).cell, h _ (((e08.trans e8s).setC (by show s.size ≤ s3.size; omega)).setC (by show s.size ≤ s4.size; omega))⟩
      · rintro c s' ⟨rfl, w, hw, es, rb, cb'⟩
        rw [hcS w hw] at h
        exact def_none ⟨_, rb.cell, _, cb'.cell, h s' es⟩
    refine ⟨_, cp, _, ca8, ?_⟩
    refine c_isMan tb.tab vd.n6 ?_
    try simp only [TUP_mk, AGG_mk, HD_mk, NL_mk, TYI_mk, TYB_mk, TYP_mk, TYL_mk, TYS_mk, TYM_mk, SO_mk, NX_mk, endK_mk, endK_mk', add_0]
    refine BR_dec (fun ha => ?_) (fun ha => ?_)
    · refine ⟨_, cp, _, cb8, ?_⟩
      refine c_isMan tb.tab vd.n6 ?_
      try simp only [TUP_mk, AGG_mk, HD_mk, NL_mk, TYI_mk, TYB_mk, TYP_mk, TYL_mk, TYS_mk, TYM_mk, SO_mk, NX_mk, endK_mk, endK_mk', add_0]
      exact j0 _ (fun hh => ⟨by unfold isM; omega, by have := of_decide_eq_true hh; unfold isM; omega⟩) (fun hh hm => by have := of_decide_eq_false hh; have := hm.2; unfold isM at this; omega)
    · exact j0 _ (fun hh => by cases hh) (fun _ hm => by have := hm.1; unfold isM at this; omega)
  · have hc : couldR T a b = (0, 1) := by unfold couldR; rw [hv]; rfl
    rw [hc] at h
    exact two_pan (e6.own r0) (e6.own cc) hne (e05.trans e6) hsz h
end
end Go.Proofs.Ytkgcbfbbcaajpaa.G

/- Rank: a map of numbers. -/
set_option linter.unusedSimpArgs false
set_option linter.unusedVariables false
set_option maxRecDepth 20000
namespace Go.Proofs.Ytkgcbfbbcaajpaa.G
open Go.V
structure HoldB (es : Array MapEntry) (cl : Nat) (l : List Int) : Prop where
  all : es.toList.map (fun e => (e.key, e.val)) = l.map fun x => (Value.int .i64 x, Value.bool true)
  born : ∀ e ∈ es.toList, e.born < cl
  nod : (es.toList.map (·.born)).Nodup
def findI (k : Int) : List Int → Nat → Option (Nat × Value)
  | [], _ => none
  | x :: r, i => if k = x then some (i, .bool true) else findI k r (i + 1)
theorem findI_some {k : Int} : ∀ (l : List Int) (i : Nat), k ∈ l → ∃ n, findI k l i = some (i + n, .bool true) ∧ n < l.length ∧ l[n]? = some k ∧ l.eraseIdx n = l.erase k
  | [], _, h => by cases h
  | x :: r, i, h => by
    unfold findI
    by_cases he : k = x
    · subst he
      exact ⟨0, by rw [if_pos rfl]; rfl, by simp, rfl, by simp⟩
    · rw [if_neg he]
      have hr : k ∈ r := by rcases List.mem_cons.1 h with h | h; exact absurd h he; exact h
      obtain ⟨n, h1, h2, h3, h4⟩ := findI_some r (i + 1) hr
      refine ⟨n + 1, by rw [h1]; congr 2; omega, by simp; omega, by simpa using h3, ?_⟩
      rw [List.eraseIdx_cons_succ, h4, List.erase_cons_tail (by simpa using fun e => he e.symm)]
theorem findI_none {k : Int} : ∀ (l : List Int) (i : Nat), k ∉ l → findI k l i = none
  | [], _, _ => rfl
  | x :: r, i, h => by
    unfold findI
    rw [if_neg (fun e => h (by simp [e])), findI_none r (i + 1) (fun hh => h (by simp [hh]))]
theorem find_now {k : Int} : ∀ (l : List Int) (es : List MapEntry) (i : Nat), es.map (fun e => (e.key, e.val)) = l.map (fun x => (Value.int .i64 x, Value.bool true)) → Instr.findNow (.int .i64) (.int .i64 k) es i = some (findI k l i)
  | [], [], _, _ => rfl
  | [], e :: es, _, h => by simp at h
  | x :: l, [], _, h => by simp at h
  | x :: l, e :: es, i, h => by
    simp only [List.map_cons, List.cons.injEq, Prod.mk.injEq] at h
    obtain ⟨⟨h1, h2⟩, h3⟩ := h
    unfold Instr.findNow findI
    rw [h1]
    show (match (if IntKind.i64 = IntKind.i64 then some (k == x) else none) with | some true => _ | some false => _ | none => _) = _
    rw [if_pos rfl]
    by_cases he : k = x
    · have hb : (k == x) = true := by simpa using he
      rw [hb, if_pos he, h2]
    · have hb : (k == x) = false := by simpa using he
      rw [hb, if_neg he]
      exact find_now l es (i + 1) h3
theorem find_int {k : Int} {K : Option (Nat × Value) → Hp → Prop} {E : Value → Hp → Prop} {s : Hp} {l : List Int} {es : Array MapEntry} (h : es.toList.map (fun e => (e.key, e.val)) = l.map (fun x => (Value.int .i64 x, Value.bool true))) (hk : K (findI k l 0) s) : sp Pg (Instr.findKey 3 (.int .i64 k) es.toList) K E s := by
  unfold Instr.findKey
  rw [sp_bind, sp_und und_3, find_now l es.toList 0 h]
  exact hk
theorem erase_map {α β : Type} (f : α → β) : ∀ (l : List α) (n : Nat), (l.eraseIdx n).map f = (l.map f).eraseIdx n
  | [], _ => by simp
  | x :: l, 0 => rfl
  | x :: l, n + 1 => by
    rw [List.eraseIdx_cons_succ, List.map_cons, List.map_cons, List.eraseIdx_cons_succ, erase_map f l n]
theorem check_int (b : Bool) (m : Int) (K : Unit → Hp → Prop) (E : Value → Hp → Prop) (s : Hp) : sp Pg (Instr.checkKey b 10000 3 (.int .i64 m)) K E s = K () s := by kernel_rfl
theorem zero_4 (K : Value → Hp → Prop) (E : Value → Hp → Prop) (s : Hp) : sp Pg (zeroValue 4) K E s = K (.bool false) s := by kernel_rfl
section
variable {s : Hp} {r cl : Nat} {es : Array MapEntry} {l : List Int}
theorem LKP_int {k : Int} {K : VK} (hs : s[r]? = some (.map es cl)) (h : HoldB es cl l) (hk : K (.bool (decide (k ∈ l))) s) : LKP Pg 102 (.map (some r)) (.int .i64 k) false K s := by
  unfold LKP Instr.lookup
  rw [sp_bind, sp_und und_102]
  simp only [sp_bind]
  refine ⟨_, hs, rfl, rfl, ?_⟩
  show sp Pg (Sem.pure (Obj.map es cl)) _ _ s
  simp only [sp, sp_bind, sp_pure]
  rw [check_int]
  refine find_int h.all ?_
  by_cases hm : k ∈ l
  · obtain ⟨n, h1, _⟩ := findI_some l 0 hm
    rw [h1]
    rw [decide_eq_true hm] at hk
    exact hk
  · rw [findI_none l 0 hm]
    rw [decide_eq_false hm] at hk
    simp only [sp_bind]
    rw [zero_4]
    exact hk
theorem MUP_int {k : Int} {K : Hp → Prop} (hs : s[r]? = some (.map es cl)) (h : HoldB es cl l) (hn : k ∉ l) (hk : ∀ s' es' cl', Kp (· = r) s s' → s'.size = s.size → s'[r]? = some (.map es' cl') → HoldB es' cl' (l ++ [k]) → K s') : MUP Pg 102 (.map (some r)) (.int .i64 k) (.bool true) K s := by
  unfold MUP Instr.mapUpdate
  rw [sp_bind, sp_und und_102]
  simp only [sp_bind]
  refine ⟨_, hs, rfl, rfl, ?_⟩
  show sp Pg (Sem.pure (Obj.map es cl)) _ _ s
  simp only [sp, sp_bind]
  rw [check_int]
  refine find_int h.all ?_
  rw [findI_none l 0 hn]
  refine ⟨⟨_, hs, rfl, rfl⟩, ?_⟩
  refine hk _ _ _ setO_kp (by simp) (setO_get hs) ⟨?_, ?_, ?_⟩
  · rw [Array.toList_push, List.map_append, List.map_append, h.all]; rfl
  · intro e he
    rw [Array.toList_push] at he
    rcases List.mem_append.1 he with he | he
    · have := h.born e he; omega
    · simp at he; subst he; show cl < cl + 1; omega
  · rw [Array.toList_push, List.map_append, List.nodup_append]
    refine ⟨h.nod, by simp, fun x hx y hy => ?_⟩
    obtain ⟨e, he, rfl⟩ := List.mem_map.1 hx
    simp at hy
    subst hy
    have := h.born e he
    omega
theorem LNM_int {K : Nat → Hp → Prop} (hs : s[r]? = some (.map es cl)) (h : HoldB es cl l) (hk : K l.length s) : LNM (some r) K s := by
  have : es.size = l.length := by have := congrArg List.length h.all; simpa using this
  exact ⟨es, cl, hs, by rw [this]; exact hk⟩
theorem DELM_int {k : Int} {K : Hp → Prop} (hs : s[r]? = some (.map es cl)) (h : HoldB es cl l) (hn : k ∈ l) (hk : ∀ s' es', Kp (· = r) s s' → s'.size = s.size → s'[r]? = some (.map es' cl) → HoldB es' cl (l.erase k) → K s') : DELM Pg [102, 3] (.map (some r)) (.int .i64 k) K s := by
  unfold DELM Builtin.delete_
  simp only [List.getElem?_toArray, List.getElem?_cons_zero, List.getElem?_cons_succ]
  show sp Pg (do let x ← underlying 102; _) _ _ s
  rw [sp_bind, sp_und und_102]
  simp only [sp_bind]
  refine ⟨_, hs, rfl, rfl, ?_⟩
  show sp Pg (Sem.pure (Obj.map es cl)) _ _ s
  simp only [sp, sp_bind]
  rw [check_int]
  refine find_int h.all ?_
  obtain ⟨n, h1, h2, h3, h4⟩ := findI_some l 0 hn
  rw [h1]
  have hlen : es.size = l.length := by have := congrArg List.length h.all; simpa using this
  refine ⟨⟨_, hs, rfl, rfl⟩, rfl, ?_⟩
  have hte : (es.eraseIdxIfInBounds (0 + n)).toList = es.toList.eraseIdx n := by
    rw [Nat.zero_add]
    unfold Array.eraseIdxIfInBounds
    rw [dif_pos (by omega)]
    exact Array.toList_eraseIdx ..
  refine hk _ _ setO_kp (by simp) (setO_get hs) ⟨?_, ?_, ?_⟩
  · rw [hte, erase_map, h.all, ← erase_map, h4]
  · intro e he
    rw [hte] at he
    exact h.born e ((List.eraseIdx_sublist _ _).subset he)
  · rw [hte, erase_map]
    exact h.nod.sublist (List.eraseIdx_sublist _ _)
theorem RNM_int {K : Nat → Hp → Prop} (hs : s[r]? = some (.map es cl)) (hk : ∀ s', Ext s s' → s'.size = s.size + 1 → s'[s.size]? = some (.mapIter (some r) cl #[] cl) → K s.size s') : RNM Pg 102 (.map (some r)) K s := by
  unfold RNM
  rw [und_102]
  exact ⟨es, cl, hs, hk _ (Ext.push (Ext.refl s)) (by simp) (by simp)⟩
end
end Go.Proofs.Ytkgcbfbbcaajpaa.G

/- Rank: the next one of a map of numbers. -/
set_option linter.unusedSimpArgs false
set_option linter.unusedVariables false
set_option maxRecDepth 20000
namespace Go.Proofs.Ytkgcbfbbcaajpaa.G
open Go.V
theorem sp_mapNext {n : Nat} {K : Nat → Hp → Prop} {E : Value → Hp → Prop} {s : Hp} (hn : 0 < n) (h : ∀ a, a < n → K a s) : sp Pg (choose (.mapNext n)) K E s := by
  show (if (Question.mapNext n).forced then K 0 s else ∀ a, K ((Question.mapNext n).cut a) s)
  split
  · exact h 0 hn
  · exact fun a => h _ (Nat.mod_lt _ hn)
section
variable {s : Hp} {r cl : Nat} {es : Array MapEntry}
theorem NXM_int {it : Nat} {seen : Array Nat} {Ke : Hp → Prop} {Kg : Value → Value → Hp → Prop} (hi : s[it]? = some (.mapIter (some r) cl seen cl)) (hm : s[r]? = some (.map es cl)) (hb : ∀ e ∈ es.toList, e.born < cl)
    (he : (∀ e ∈ es.toList, e.born ∈ seen.toList) → Ke s) (hg : ∀ e ∈ es.toList, e.born ∉ seen.toList → Kg e.key e.val (s.setIfInBounds it (.mapIter (some r) cl (seen.push e.born) cl))) : NXM Pg (.pointer (some ⟨it, 0, none⟩)) Ke Kg s := by
  unfold NXM Instr.next
  simp only [sp_bind]
  refine ⟨_, hi, rfl, rfl, ?_⟩
  show sp Pg (Sem.pure (Obj.mapIter (some r) cl seen cl)) _ _ s
  simp only [sp, sp_bind]
  refine ⟨_, hm, rfl, rfl, ?_⟩
  show sp Pg (Sem.pure (Obj.map es cl)) _ _ s
  simp only [sp, sp_bind]
  have hall : (!seen.isEmpty && !es.isEmpty && es.all fun x => decide (x.born ≥ cl)) = false := by
    cases hes : es.isEmpty with
    | true => simp
    | false =>
      have : (es.all fun x => decide (x.born ≥ cl)) = false := by
        cases ha : es.all fun x => decide (x.born ≥ cl) with
        | false => rfl
        | true =>
          have hpos : 0 < es.size := by
            have : es.size ≠ 0 := fun h0 => by rw [Array.isEmpty_iff_size_eq_zero.2 h0] at hes; cases hes
            omega
          have h1 := (Array.all_eq_true.1 ha) 0 hpos
          have h2 := hb es[0] (by simp)
          have h3 := of_decide_eq_true h1
          omega
      rw [this]; simp
  rw [hall]
  simp only [Bool.false_eq_true, if_false, sp_pure]
  generalize hold : Array.filter (fun x => decide (x.born < cl)) (Array.filter (fun e => !seen.contains e.born) es) = old
  generalize hnew : Array.filter (fun x => decide (x.born ≥ cl)) (Array.filter (fun e => !seen.contains e.born) es) = new
  have hold' : ∀ e, e ∈ old ↔ e ∈ es ∧ e.born ∉ seen.toList := by
    intro e
    rw [← hold]
    simp only [Array.mem_filter, Array.contains_iff_mem, Bool.not_eq_true', decide_eq_true_eq, Array.mem_toList_iff]
    constructor
    · rintro ⟨⟨h1, h2⟩, _⟩
      refine ⟨h1, fun h3 => ?_⟩
      rw [Array.contains_iff_mem.2 h3] at h2
      cases h2
    · rintro ⟨h1, h2⟩
      refine ⟨⟨h1, ?_⟩, hb e (by simpa using h1)⟩
      cases hc : seen.contains e.born with
      | false => rfl
      | true => exact absurd (Array.contains_iff_mem.1 hc) h2
  have hnew' : ∀ e, e ∈ new → e ∈ es ∧ e.born ∉ seen.toList := by
    intro e h
    rw [← hnew] at h
    simp only [Array.mem_filter] at h
    obtain ⟨⟨h1, h2⟩, _⟩ := h
    refine ⟨h1, fun h3 => ?_⟩
    rw [Array.contains_iff_mem.2 (by simpa using h3)] at h2
    cases h2
  rw [sp_bind]
  refine sp_mapNext ?_ fun a ha => ?_
  · cases hemp : old.isEmpty with
    | true => simp; omega
    | false =>
      have : old.size ≠ 0 := fun h0 => by rw [Array.isEmpty_iff_size_eq_zero.2 h0] at hemp; cases hemp
      simp; omega
  · rw [Array.getElem?_eq_getElem ha]
    have hmem := Array.getElem_mem ha
    generalize ((if old.isEmpty = true then #[none] else #[]) ++ Array.map some (old ++ new))[a]'ha = x at hmem
    cases x with
    | none =>
      have hemp : old.isEmpty = true := by
        cases hemp : old.isEmpty with
        | true => rfl
        | false => rw [hemp] at hmem; simp at hmem
      refine .inl ⟨rfl, he fun e h => ?_⟩
      refine Classical.byContradiction fun hc => ?_
      have := (hold' e).2 ⟨by simpa using h, hc⟩
      rw [Array.isEmpty_iff_size_eq_zero] at hemp
      have h0 := Array.eq_empty_of_size_eq_zero hemp
      rw [h0] at this
      simp at this
    | some e =>
      have h1 : e ∈ old ∨ e ∈ new := by
        cases hemp : old.isEmpty with
        | true => rw [hemp] at hmem; simpa using hmem
        | false => rw [hemp] at hmem; simpa using hmem
      have h2 : e ∈ es ∧ e.born ∉ seen.toList := by
        rcases h1 with h1 | h1
        · exact (hold' e).1 h1
        · exact hnew' e h1
      refine ⟨⟨_, hi, rfl, rfl⟩, ?_⟩
      exact .inr ⟨e.key, e.val, rfl, hg e (by simpa using h2.1) h2.2⟩
theorem ENT_int {it : Nat} {seen : Array Nat} {e : MapEntry} {K : Value → Value → Hp → Prop} (hi : s[it]? = some (.mapIter (some r) cl (seen.push e.born) cl)) (hm : s[r]? = some (.map es cl)) (he : e ∈ es.toList) (hn : (es.toList.map (·.born)).Nodup) (hk : K e.key e.val s) : ENT Pg (.pointer (some ⟨it, 0, none⟩)) K s := by
  unfold ENT Instr.entry
  simp only [sp_bind]
  refine ⟨_, hi, rfl, rfl, ?_⟩
  show sp Pg (Sem.pure (Obj.mapIter (some r) cl (seen.push e.born) cl)) _ _ s
  simp only [sp, Array.back?_push, sp_bind]
  refine ⟨_, hm, rfl, rfl, ?_⟩
  show sp Pg (Sem.pure (Obj.map es cl)) _ _ s
  simp only [sp, sp_bind]
  have hf : es.find? (fun x => x.born == e.born) = some e := by
    rw [← Array.find?_toList]
    have key : ∀ l : List MapEntry, e ∈ l → (l.map (·.born)).Nodup → l.find? (fun x => x.born == e.born) = some e := by
      intro l
      induction l with
      | nil => intro h; cases h
      | cons x l ih =>
        intro h hnd
        rw [List.map_cons, List.nodup_cons] at hnd
        rw [List.find?_cons]
        rcases List.mem_cons.1 h with rfl | h
        · simp
        · have : ¬ x.born = e.born := fun hx => hnd.1 (by rw [hx]; exact List.mem_map.2 ⟨e, h, rfl⟩)
          have hb : (x.born == e.born) = false := by simpa using this
          rw [hb]
          exact ih h hnd.2
    exact key _ he hn
  have hcl : (cl != cl) = false := by simp
  rw [hcl]
  simp only [Bool.false_eq_true, if_false, sp_pure, hf]
  exact ⟨_, _, rfl, hk⟩
end
end Go.Proofs.Ytkgcbfbbcaajpaa.G

/- Rank: the first one who is left. -/
set_option linter.unusedSimpArgs false
set_option linter.unusedVariables false
set_option maxRecDepth 20000
namespace Go.Proofs.Ytkgcbfbbcaajpaa.G
open Go.V
def surT (T : Tb) (a b : Nat) : Bool := befP (pts (prs T)) false T.m T.off a b
def held (T : Tb) (left : List Nat) (i : Nat) : Bool := left.any fun o => surT T o i
def isFirst (T : Tb) (left : List Nat) (i : Nat) : Bool := decide (i ∈ left) && !held T left i
def firstP (T : Tb) (left : List Nat) : Option Nat := (List.range T.n).find? (isFirst T left)
def natI (l : List Nat) : List Int := l.map fun (n : Nat) => (n : Int)
section
variable {W : World} {K : VK} {E : List PanicEntry → Hp → Prop} {s : Hp} {T : Tb}
theorem mem_natI {l : List Nat} {i : Nat} : decide ((i : Int) ∈ natI l) = decide (i ∈ l) := by
  congr 1
  apply propext
  unfold natI
  constructor
  · intro h
    obtain ⟨j, hj, e⟩ := List.mem_map.1 h
    have : j = i := by omega
    subst this; exact hj
  · exact fun h => List.mem_map.2 ⟨i, h, rfl⟩
theorem hold_key {es : Array MapEntry} {cl : Nat} {left : List Nat} (h : HoldB es cl (natI left)) {e : MapEntry} (he : e ∈ es.toList) : ∃ o, o ∈ left ∧ e.key = .int .i64 (o : Nat) := by
  have : (e.key, e.val) ∈ es.toList.map fun e => (e.key, e.val) := List.mem_map.2 ⟨e, he, rfl⟩
  rw [h.all] at this
  obtain ⟨x, hx, hk⟩ := List.mem_map.1 this
  unfold natI at hx
  obtain ⟨o, ho, rfl⟩ := List.mem_map.1 hx
  injection hk with h1 h2
  exact ⟨o, ho, h1.symm⟩
theorem hold_ex {es : Array MapEntry} {cl : Nat} {left : List Nat} (h : HoldB es cl (natI left)) {o : Nat} (ho : o ∈ left) : ∃ e ∈ es.toList, e.key = .int .i64 (o : Nat) := by
  have : (Value.int .i64 (o : Nat), Value.bool true) ∈ (natI left).map fun x => (Value.int .i64 x, Value.bool true) := List.mem_map.2 ⟨(o : Nat), List.mem_map.2 ⟨o, ho, rfl⟩, rfl⟩
  rw [← h.all] at this
  obtain ⟨e, he, hk⟩ := List.mem_map.1 this
  injection hk with h1 h2
  exact ⟨e, he, h1⟩
/-- How many an iterator has not handed out yet. -/
def notSeen (es : Array MapEntry) (it : Nat) (t : Hp) : Nat := match t[it]? with
  | some (.mapIter _ _ seen _) => (es.toList.filter fun e => !decide (e.born ∈ seen.toList)).length
  | _ => 0
theorem filter_less {α : Type} {p q : α → Bool} {x : α} : ∀ (l : List α), x ∈ l → p x = true → q x = false → (∀ y, q y = true → p y = true) → (l.filter q).length < (l.filter p).length
  | [], h, _, _, _ => by cases h
  | y :: l, h, hp, hq, hpq => by
    have hle : ∀ l : List α, (l.filter q).length ≤ (l.filter p).length := by
      intro l
      induction l with
      | nil => simp
      | cons z l ih =>
        rw [List.filter_cons, List.filter_cons]
        cases hz : q z with
        | true => rw [hpq z hz]; simpa using ih
        | false =>
          simp only [Bool.false_eq_true, if_false]
          split
          · simp; omega
          · exact ih
    rw [List.filter_cons, List.filter_cons]
    rcases List.mem_cons.1 h with rfl | h
    · rw [hp, hq]
      simp only [Bool.false_eq_true, if_false, if_true, List.length_cons]
      have := hle l; omega
    · have ih := filter_less l h hp hq hpq
      cases hz : q y with
      | true => rw [hpq y hz]; simpa using ih
      | false =>
        simp only [Bool.false_eq_true, if_false]
        split
        · simp; omega
        · exact ih
theorem c_first {p : Addr} {za zb : Addr} {r cl : Nat} {es : Array MapEntry} {left : List Nat} (vd : VdT T.n T.m T.off (prs T)) (tb : TabO s p T.n T.m T.off (prs T)) (ha : cellAt s za = some (.pointer (some p))) (hb : cellAt s zb = some (.map (some r))) (hm : s[r]? = some (.map es cl)) (hh : HoldB es cl (natI left)) (hlt : ∀ o ∈ left, o < T.n)
    (h : ∀ s', Ext s s' → K (.int .i64 (match firstP T left with | some i => ((i : Nat) : Int) | none => -1)) s') : CALL Pg W F_rank_Order_c1 [.pointer (some za), .pointer (some zb)] K E s := by
  have hn6 := vd.n6
  refine does_rank_Order_c1 W za zb _ s ?_
  unfold T_rank_Order_c1
  refine ⟨_, ha, _, tb.men, ?_⟩
  refine L_rank_Order_c1_0_rule W _ za zb T.n (fun _ q t => Ext s t ∧ ∃ i : Nat, i ≤ T.n ∧ q = i ∧ ∀ j, j < i → isFirst T left j = false) (fun _ q _ => (T.n - q).toNat) 0 0 s ⟨Ext.refl _, 0, by omega, rfl, fun j hj => by omega⟩ ?_
  rintro n6 n7 t ⟨et, i, hi, rfl, hno⟩
  unfold B_rank_Order_c1_0
  refine BR_dec (fun h1 => ?_) (fun h1 => ?_)
  · have hin : i < T.n := by omega
    have hw : IntKind.i64.wrap ((i : Int) + 1) = ((i + 1 : Nat) : Int) := by rw [wrap_i64 (by omega) (by omega)]; rfl
    have hms : ((T.n : Int) - IntKind.i64.wrap ((i : Int) + 1)).toNat < ((T.n : Int) - i).toNat := by rw [hw]; omega
    have hmt : t[r]? = some (.map es cl) := by rw [et.2 _ (obj_lt hm)]; exact hm
    refine ⟨_, et.cell hb, LKP_int hmt hh ?_⟩
    try simp only [TUP_mk, AGG_mk, HD_mk, NL_mk, TYI_mk, TYB_mk, TYP_mk, TYL_mk, TYS_mk, TYM_mk, SO_mk, NX_mk, endK_mk, endK_mk', add_0]
    rw [mem_natI]
    refine BR_not (fun hnot => ?_) (fun hin' => ?_)
    · have hF : isFirst T left i = false := by unfold isFirst; rw [hnot]; rfl
      refine ⟨_, _, rfl, ⟨et, i + 1, by omega, hw, fun j hj => ?_⟩, hms⟩
      by_cases e : j = i
      · subst e; exact hF
      · exact hno j (by omega)
    · have hil : i ∈ left := of_decide_eq_true hin'
      refine ⟨_, et.cell hb, RNM_int hmt fun t1 e1 z1 hit => ?_⟩
      have et1 := et.trans e1
      refine L_rank_Order_c1_1_rule W _ _ za zb n6 i T.n ⟨t.size, 0, none⟩ (fun t' => Ext s t' ∧ t.size < t'.size ∧ ∃ seen : Array Nat, t'[t.size]? = some (.mapIter (some r) cl seen cl) ∧ ∀ e ∈ es.toList, e.born ∈ seen.toList → ∀ o : Nat, e.key = .int .i64 (o : Nat) → surT T o i = false) (fun t' => notSeen es t.size t') t1
        ⟨et1, by omega, #[], hit, fun e he hs => by simp at hs⟩ ?_
      rintro t2 ⟨et2, hsz, seen, hs, hsur⟩
      have hm2 : t2[r]? = some (.map es cl) := by rw [et2.2 _ (obj_lt hm)]; exact hm
      unfold B_rank_Order_c1_1
      refine NXM_int hs hm2 hh.born (fun hall => ?_) (fun e he hns => ?_)
      · have hheld : held T left i = false := by
          unfold held
          refine List.any_eq_false.2 fun o ho => ?_
          obtain ⟨e, he, hk⟩ := hold_ex hh ho
          rw [hsur e he (hall e he) o hk]; simp
        have hF : isFirst T left i = true := by unfold isFirst; rw [hheld, decide_eq_true hil]; rfl
        have hf : firstP T left = some i := find_first _ i i (by simp [hin]) hF (fun j hj y hy => by
          have : y = j := by
            rw [List.getElem?_range (by omega)] at hy
            injection hy with hy; exact hy.symm
          subst this
          exact hno y hj)
        rw [hf] at h
        exact h t2 et2
      · generalize ht3 : t2.setIfInBounds t.size (.mapIter (some r) cl (seen.push e.born) cl) = t3
        have k3 : Kp (· = t.size) t2 t3 := by rw [← ht3]; exact setO_kp
        have hs3 : t3[t.size]? = some (.mapIter (some r) cl (seen.push e.born) cl) := by rw [← ht3]; exact setO_get hs
        have et3 : Ext s t3 := kp_new et2 et.1 k3
        have hm3 : t3[r]? = some (.map es cl) := by rw [et3.2 _ (obj_lt hm)]; exact hm
        have hsz3 : t3.size = t2.size := by rw [← ht3]; simp
        refine ENT_int hs3 hm3 he hh.nod ?_
        obtain ⟨o, ho, hk⟩ := hold_key hh he
        rw [hk]
        refine ⟨_, et3.cell ha, _, et3.cell ha, ?_⟩
        refine c_surely vd (tb.ext et3) (rdg_plain (W := W) vd (tb.ext et3)) (hlt o ho) hin fun t4 e4 => ?_
        try simp only [TUP_mk, AGG_mk, HD_mk, NL_mk, TYI_mk, TYB_mk, TYP_mk, TYL_mk, TYS_mk, TYM_mk, SO_mk, NX_mk, endK_mk, endK_mk', add_0]
        have et4 := et3.trans e4
        refine BR_bool (fun hsu => ?_) (fun hsu => ?_)
        · have hheld : held T left i = true := List.any_eq_true.2 ⟨o, ho, hsu⟩
          have hF : isFirst T left i = false := by unfold isFirst; rw [hheld]; simp
          refine ⟨_, _, rfl, ⟨et4, i + 1, by omega, hw, fun j hj => ?_⟩, hms⟩
          by_cases e : j = i
          · subst e; exact hF
          · exact hno j (by omega)
        · have hs4 : t4[t.size]? = some (.mapIter (some r) cl (seen.push e.born) cl) := by rw [e4.2 _ (by omega)]; exact hs3
          have hmem : ∀ b : Nat, b ∈ (seen.push e.born).toList ↔ b ∈ seen.toList ∨ b = e.born := fun b => by rw [Array.toList_push]; simp
          refine ⟨rfl, ⟨et4, by have := e4.1; omega, _, hs4, fun e' he' hb' o' ho' => ?_⟩, ?_⟩
          · rcases (hmem _).1 hb' with hb' | hb'
            · exact hsur e' he' hb' o' ho'
            · have : e' = e := by
                have key : ∀ l : List MapEntry, (l.map (·.born)).Nodup → e ∈ l → e' ∈ l → e' = e := by
                  intro l
                  induction l with
                  | nil => intro _ h; cases h
                  | cons x l ih =>
                    intro hnd h1 h2
                    rw [List.map_cons, List.nodup_cons] at hnd
                    rcases List.mem_cons.1 h1 with h3 | h3
                    · rcases List.mem_cons.1 h2 with h4 | h4
                      · rw [h4, h3]
                      · exact absurd (List.mem_map.2 ⟨e', h4, by rw [hb', h3]⟩) hnd.1
                    · rcases List.mem_cons.1 h2 with h4 | h4
                      · exact absurd (List.mem_map.2 ⟨e, h3, by rw [← hb', h4]⟩) hnd.1
                      · exact ih hnd.2 h3 h4
                exact key _ hh.nod he he'
              subst this
              rw [hk] at ho'
              have : o' = o := by injection ho' with _ ho'; omega
              subst this
              exact hsu
          · show notSeen es t.size t4 < notSeen es t.size t2
            unfold notSeen
            rw [hs4, hs]
            refine filter_less es.toList he ?_ ?_ ?_
            · simpa using hns
            · simp
            · intro y hy
              have hy' : y.born ∉ (seen.push e.born).toList := by simpa using hy
              have : y.born ∉ seen.toList := fun hc => hy' ((hmem _).2 (.inl hc))
              simpa using this
  · have hin : i = T.n := by omega
    subst hin
    have hf : firstP T left = none := by
      unfold firstP
      refine List.find?_eq_none.2 fun j hj => ?_
      rw [hno j (List.mem_range.1 hj)]; simp
    rw [hf] at h
    exact h t et
end
end Go.Proofs.Ytkgcbfbbcaajpaa.G

/- Rank, in plain Lean: there always is a first one. -/
set_option linter.unusedSimpArgs false
set_option linter.unusedVariables false
set_option maxRecDepth 20000
namespace Go.Proofs.Ytkgcbfbbcaajpaa.G
open Go.V
theorem ahead_trans : ∀ (a b c : List Int), aheadL a b = true → aheadL b c = true → aheadL a c = true
  | [], _, _, h, _ => by simp [aheadL] at h
  | _ :: _, [], _, h, _ => by simp [aheadL] at h
  | _ :: _, _ :: _, [], _, h => by simp [aheadL] at h
  | x :: a, y :: b, z :: c, h1, h2 => by
    unfold aheadL at h1 h2 ⊢
    by_cases e1 : x = y
    · rw [if_pos e1] at h1
      by_cases e2 : y = z
      · rw [if_pos e2] at h2
        rw [if_pos (e1.trans e2)]
        exact ahead_trans a b c h1 h2
      · rw [if_neg e2] at h2
        rw [if_neg (fun e => e2 (e1.symm.trans e)), e1]
        exact h2
    · rw [if_neg e1] at h1
      have g1 := of_decide_eq_true h1
      by_cases e2 : y = z
      · rw [if_neg (fun e => e1 (e.trans e2.symm)), ← e2]
        exact h1
      · rw [if_neg e2] at h2
        have g2 := of_decide_eq_true h2
        rw [if_neg (by omega)]
        exact decide_eq_true (by omega)
theorem ahead_tri : ∀ (a b : List Int), a.length = b.length → aheadL a b = false → aheadL b a = false → a = b
  | [], [], _, _, _ => rfl
  | [], _ :: _, h, _, _ => by simp at h
  | _ :: _, [], h, _, _ => by simp at h
  | x :: a, y :: b, h, h1, h2 => by
    unfold aheadL at h1 h2
    by_cases e : x = y
    · rw [if_pos e] at h1
      rw [if_pos e.symm] at h2
      rw [e, ahead_tri a b (by simpa using h) h1 h2]
    · rw [if_neg e] at h1
      rw [if_neg (fun hh => e hh.symm)] at h2
      have g1 := of_decide_eq_false h1
      have g2 := of_decide_eq_false h2
      omega
theorem ahead_le : ∀ (a b : List Int), (∀ j, a.getD j 0 ≤ b.getD j 0) → aheadL a b = false
  | [], _, _ => by simp [aheadL]
  | _ :: _, [], _ => by simp [aheadL]
  | x :: a, y :: b, h => by
    have h0 : x ≤ y := h 0
    unfold aheadL
    by_cases e : x = y
    · rw [if_pos e]
      exact ahead_le a b fun j => h (j + 1)
    · rw [if_neg e]
      exact decide_eq_false (by omega)
theorem sum_le : ∀ (a b : List Int), a.length = b.length → (∀ j, a.getD j 0 ≤ b.getD j 0) → a.sum ≤ b.sum
  | [], [], _, _ => Int.le_refl _
  | [], _ :: _, h, _ => by simp at h
  | _ :: _, [], h, _ => by simp at h
  | x :: a, y :: b, h, hj => by
    have h0 : x ≤ y := hj 0
    have := sum_le a b (by simpa using h) fun j => hj (j + 1)
    simp only [List.sum_cons]
    omega
theorem row_le {rd : Int × Int → Int × Int} {m : Nat} {o i : Int} (h : ∀ k, (rd k).1 ≤ (rd k).2) : aheadL (rowL rd false m o i) (rowL rd true m o i) = false := by
  have hp : ∀ j, (rowS rd false m i).getD j 0 ≤ (rowS rd true m i).getD j 0 := fun j => by
    by_cases hj : j < m
    · rw [rowS_get hj, rowS_get hj]; exact h _
    · have e1 : (rowS rd false m i).getD j 0 = 0 := by simp [List.getD, List.getElem?_eq_none (show (rowS rd false m i).length ≤ j by rw [rowS_len]; omega)]
      have e2 : (rowS rd true m i).getD j 0 = 0 := by simp [List.getD, List.getElem?_eq_none (show (rowS rd true m i).length ≤ j by rw [rowS_len]; omega)]
      rw [e1, e2]; exact Int.le_refl _
  have hs := sum_le _ _ (by rw [rowS_len, rowS_len]) hp
  refine ahead_le _ _ fun j => ?_
  cases j with
  | zero => show (rowS rd false m i).sum - o ≤ (rowS rd true m i).sum - o; omega
  | succ j => exact hp j
theorem top_row (f : Nat → List Int) (c : Nat) (hf : ∀ i, (f i).length = c) : ∀ (l : List Nat), l ≠ [] → ∃ i, i ∈ l ∧ ∀ o, o ∈ l → aheadL (f o) (f i) = false
  | [], h => absurd rfl h
  | [x], _ => ⟨x, by simp, fun o ho => by simp at ho; subst ho; exact ahead_same _⟩
  | x :: y :: l, _ => by
    obtain ⟨i, hi, h⟩ := top_row f c hf (y :: l) (by simp)
    cases hx : aheadL (f x) (f i) with
    | false =>
      refine ⟨i, List.mem_cons_of_mem _ hi, fun o ho => ?_⟩
      rcases List.mem_cons.1 ho with rfl | ho
      · exact hx
      · exact h o ho
    | true =>
      refine ⟨x, by simp, fun o ho => ?_⟩
      rcases List.mem_cons.1 ho with rfl | ho
      · exact ahead_same _
      · cases hox : aheadL (f o) (f x) with
        | false => rfl
        | true =>
          have := ahead_trans _ _ _ hox hx
          rw [h o ho] at this
          cases this
theorem first_ex {T : Tb} (hok : okT T = true) {left : List Nat} (hne : left ≠ []) (hlt : ∀ o ∈ left, o < T.n) : ∃ i, firstP T left = some i ∧ i ∈ left := by
  have vd := okT_vd hok
  obtain ⟨i, hi, h⟩ := top_row (fun i => rowL (pts (prs T)) true T.m (offT T i) i) (T.m + 1) (fun i => rowL_len _ _ _ _ _) left hne
  have hF : isFirst T left i = true := by
    unfold isFirst
    have : held T left i = false := by
      unfold held
      refine List.any_eq_false.2 fun o ho => ?_
      intro hs
      unfold surT befP at hs
      simp only [Bool.and_eq_true, Bool.not_false] at hs
      have hs2 : aheadL (rowL (pts (prs T)) false T.m (offT T o) o) (rowL (pts (prs T)) true T.m (offT T i) i) = true := hs.2
      have hle := row_le (rd := pts (prs T)) (m := T.m) (o := offT T o) (i := (o : Int)) (fun k => (pts_in vd k).2.1)
      have hio := h o ho
      cases hx : aheadL (rowL (pts (prs T)) true T.m (offT T o) o) (rowL (pts (prs T)) false T.m (offT T o) o) with
      | true =>
        have := ahead_trans _ _ _ hx hs2
        rw [hio] at this; cases this
      | false =>
        have he := ahead_tri _ _ (by rw [rowL_len, rowL_len]) hle hx
        rw [he, hio] at hs2; cases hs2
    rw [this, decide_eq_true hi]; rfl
  cases hf : firstP T left with
  | none =>
    have := List.find?_eq_none.1 hf i (List.mem_range.2 (hlt i hi))
    rw [hF] at this
    exact absurd rfl this
  | some j =>
    refine ⟨j, rfl, ?_⟩
    have := List.find?_some hf
    unfold isFirst at this
    simp only [Bool.and_eq_true, decide_eq_true_eq] at this
    exact this.1
/-- The order that is told. -/
def ordG (T : Tb) : Nat → List Nat → List Nat
  | 0, _ => []
  | f + 1, left => match firstP T left with
    | some i => i :: ordG T f (left.erase i)
    | none => []
def orderP (T : Tb) : List Nat := ordG T T.n (List.range T.n)
def orderR (T : Tb) : List Nat × Int := if okT T then (orderP T, 0) else ([], 1)
end Go.Proofs.Ytkgcbfbbcaajpaa.G

/- Rank: Order. -/
set_option linter.unusedSimpArgs false
set_option linter.unusedVariables false
set_option maxRecDepth 20000
namespace Go.Proofs.Ytkgcbfbbcaajpaa.G
open Go.V
theorem zc_102 : zc Pg 102 = [.map none] := by kernel_rfl
/-- A list of numbers of one's own, and new; where it lies. -/
structure Li (lo : Nat) (s : Hp) (x : Option Addr) (l c : Nat) (d : List Int) : Prop where
  fr : Fr lo s x l c 1 (ints d)
  lt : ∀ b, x = some b → b.block < s.size
theorem Li.ext {lo : Nat} {s s' : Hp} {x : Option Addr} {l c : Nat} {d : List Int} (e : Ext s s') (h : Li lo s x l c d) : Li lo s' x l c d := ⟨h.fr.ext e, fun b hb => Nat.lt_of_lt_of_le (h.lt b hb) e.1⟩
theorem Li.len {lo : Nat} {s : Hp} {x : Option Addr} {l c : Nat} {d : List Int} (h : Li lo s x l c d) : l = d.length := by have := h.fr.len; rw [ints_len] at this; omega
theorem Li.kp {D : Nat → Prop} {lo : Nat} {s s' : Hp} {x : Option Addr} {l c : Nat} {d : List Int} (k : Kp D s s') (hd : ∀ a, x = some a → ¬ D a.block) (h : Li lo s x l c d) : Li lo s' x l c d := ⟨h.fr.kp k hd, fun b hb => Nat.lt_of_lt_of_le (h.lt b hb) k.1⟩
theorem li_add {s : Hp} {lo l c y : Nat} {n : Int} {x : Option Addr} {d : List Int} {KK : Option Addr → Nat → Nat → Hp → Prop} (hx : Li lo s x l c d) (hlo : lo ≤ s.size) (hy : cellAt s ⟨y, 0, none⟩ = some (.int .i64 n)) (h8 : d.length ≤ 1000)
    (h : ∀ s' x' c', Kp (fun b => ∃ a, x = some a ∧ a.block = b) s s' → Li lo s' x' (l + 1) c' (d ++ [n]) → (∀ a, x' = some a → (∃ a', x = some a' ∧ a'.block = a.block) ∨ s.size ≤ a.block) → KK x' (l + 1) c' s') :
    APP Pg 3 1 x l c (some ⟨y, 0, none⟩) 1 KK s := by
  have hl := hx.len
  refine APP_fr (ws := ints [n]) hx.fr hlo ?_ rfl zc_3 rfl (by omega) (ints_one _) (by omega) ?_
  · intro i hi
    refine ⟨_, rfl, ?_⟩
    match i, hi with
    | 0, _ => exact hy
  · intro s' x' c' k g f
    rw [← ints_app] at f
    refine h s' x' c' k ⟨f, fun b hb => ?_⟩ g
    subst hb
    have hpos : 0 < (ints (d ++ [n])).length := by rw [ints_len]; simp
    exact (f.buf.at hpos).lt
theorem natI_erase (l : List Nat) (i : Nat) : (natI l).erase (i : Int) = natI (l.erase i) := by
  unfold natI
  induction l with
  | nil => rfl
  | cons x l ih =>
    by_cases h : x = i
    · subst h; simp
    · have h1 : ¬ ((x : Int) = (i : Int)) := by omega
      rw [List.map_cons, List.erase_cons_tail (by simpa using h1), List.erase_cons_tail (by simpa using h), List.map_cons, ih]
section
variable {W : World} {K : VK} {E : List PanicEntry → Hp → Prop} {s : Hp} {T : Tb}
theorem c_Order {x y : Option Addr} {c c' : Nat} (hx : RowAt s x (ints T.off)) (hy : ScAt s y T.sc) (hlo : T.off.length ≤ 100000) (h : ∀ s' z cz, Ext s s' → RowAt s' z (ints (natI (orderR T).1)) → (orderR T).1.length ≤ cz → K (.tuple #[.slice z (orderR T).1.length cz, .int .i64 (orderR T).2]) s') :
    CALL Pg W F_rank_Order [.agg #[.int .i64 T.men, .int .i64 T.sheets, .slice x T.off.length c, .slice y T.sc.length c']] K E s := by
  refine does_rank_Order W T.men T.sheets x T.off.length c y T.sc.length c' _ s ?_
  unfold T_rank_Order
  refine NEW_rule fun s1 e1 z1 n1 _ => ?_
  refine NEWZ_rule zc_30 fun s3 e2 z3 n3 => ?_
  have e03 := e1.trans e2
  have cc := n3 0 _ rfl
  refine ⟨_, e2.cell (n1 0 _ rfl).cell, _, e2.cell (n1 1 _ rfl).cell, _, _, _, e2.cell (n1 2 _ rfl).cell, _, _, _, e2.cell (n1 3 _ rfl).cell, ?_⟩
  have hsz : s.size ≤ s1.size := e1.1
  refine c_open (hx.ext e03) (hy.ext e03) hlo (fun hv s4 p r0 e4 tb hp hr0 => ?_) (fun hv s4 e4 => ?_)
  · try simp only [TUP_mk, AGG_mk, HD_mk, NL_mk, TYI_mk, TYB_mk, TYP_mk, TYL_mk, TYS_mk, TYM_mk, SO_mk, NX_mk, endK_mk, endK_mk', add_0]
    have vd := okT_vd hv
    have hn6 := vd.n6
    have hc : orderR T = (orderP T, 0) := by unfold orderR; rw [hv]; rfl
    rw [hc] at h
    refine NEWZ_rule zc_70 fun s5 e5 z5 n5 => ?_
    have o5 := n5 0 _ rfl
    refine WR_own o5 rfl ?_
    generalize hs6 : setC s5 ⟨s4.size, 0, none⟩ (.pointer (some p)) = s6
    have e46 : Ext s4 s6 := by rw [← hs6]; exact e5.setC (by show s4.size ≤ s4.size; omega)
    have w6 : Own s6 ⟨s4.size, 0, none⟩ (.pointer (some p)) := by rw [← hs6]; exact own_set o5
    have hsz6 : s6.size = s4.size + 1 := by rw [← hs6, setC_size]; exact z5
    refine MKM_rule fun s7 e7 z7 hm7 => ?_
    refine NEWZ_rule zc_102 fun s8 e8 z8 n8 => ?_
    have o8 := n8 0 _ rfl
    refine WR_own o8 rfl ?_
    generalize hs9 : setC s8 ⟨s7.size, 0, none⟩ (.map (some s6.size)) = s9
    have e79 : Ext s7 s9 := by rw [← hs9]; exact e8.setC (by show s7.size ≤ s7.size; omega)
    have w9 : Own s9 ⟨s7.size, 0, none⟩ (.map (some s6.size)) := by rw [← hs9]; exact own_set o8
    have hsz9 : s9.size = s7.size + 1 := by rw [← hs9, setC_size]; exact z8
    have e69 := e7.trans e79
    have e49 := e46.trans e69
    have e09 := e03.trans (e4.trans e49)
    have hm9 : s9[s6.size]? = some (.map #[] 0) := by rw [e79.2 _ (by omega)]; exact hm7
    have wp := e69.own w6
    have cc9 := (e4.trans e49).own cc
    have tb9 := tb.ext e49
    have hle4 : s3.size ≤ s4.size := e4.1
    refine ⟨_, wp.cell, _, tb9.men, ?_⟩
    refine L_rank_Order_0_rule W _ ⟨s1.size, 0, none⟩ ⟨s4.size, 0, none⟩ ⟨s7.size, 0, none⟩ T.n (fun q t => Kp (· = s6.size) s9 t ∧ t.size = s9.size ∧ ∃ k : Nat, k ≤ T.n ∧ q = k ∧ ∃ es cl, t[s6.size]? = some (.map es cl) ∧ HoldB es cl (natI (List.range k))) (fun q _ => (T.n - q).toNat) 0 s9
      ⟨Kp.refl _, rfl, 0, by omega, rfl, #[], 0, hm9, ⟨rfl, by simp, by simp⟩⟩ ?_
    rintro q t ⟨kt, hsz, k, hk, rfl, es, cl, hmt, hh⟩
    have nr : ∀ {a : Addr} {v}, Own s9 a v → Own t a v := fun ho => kt.own (cells_obj ho.cell hm9) ho
    have et : Ext s t := ⟨Nat.le_trans e09.1 kt.1, fun u hu => by
      rw [kt.2 u (Nat.lt_of_lt_of_le hu e09.1) (fun hh => by have h1 := e03.1; have h2 : u = s6.size := hh; omega)]
      exact e09.2 u hu⟩
    unfold B_rank_Order_0
    refine BR_dec (fun h1 => ?_) (fun h1 => ?_)
    · have hkn : k < T.n := by omega
      have hw : IntKind.i64.wrap ((k : Int) + 1) = ((k + 1 : Nat) : Int) := by rw [wrap_i64 (by omega) (by omega)]; rfl
      refine ⟨_, (nr w9).cell, ?_⟩
      refine MUP_int hmt hh (fun hc => ?_) fun t2 es2 cl2 k2 zz h3 h4 => ?_
      · unfold natI at hc
        obtain ⟨j, hj, e⟩ := List.mem_map.1 hc
        have := List.mem_range.1 hj; omega
      · refine ⟨rfl, _, rfl, ⟨kt.trans k2, by omega, k + 1, by omega, hw, es2, cl2, h3, ?_⟩, ?_⟩
        · have : natI (List.range (k + 1)) = natI (List.range k) ++ [(k : Int)] := by unfold natI; rw [List.range_succ, List.map_append]; rfl
          rw [this]; exact h4
        · show ((T.n : Int) - IntKind.i64.wrap ((k : Int) + 1)).toNat < ((T.n : Int) - k).toNat
          rw [hw]; omega
    · have hkn : k = T.n := by omega
      subst hkn
      -- the rounds
      have wpt := nr wp
      have wmt := nr w9
      have cct := nr cc9
      have tbt : TabO t p T.n T.m T.off (prs T) := by
        have hr09 : s9[r0]? ≠ none := by
          obtain ⟨es', cl', g1, _⟩ := tb.map
          rw [e49.2 _ (obj_lt g1), g1]; simp
        obtain ⟨es', cl', g1, g2⟩ := tb.map
        have hlt := obj_lt g1
        have ht : t[r0]? = some (.map es' cl') := by
          rw [kt.2 r0 (by have := e49.1; omega) (fun hh => by have h2 : r0 = s6.size := hh; omega), e49.2 _ hlt]; exact g1
        have kc : ∀ {a : Addr} {v : Value}, cellAt s9 a = some v → cellAt t a = some v := fun hc => kt.cell (cells_obj hc hm9) hc
        refine ⟨kc tb9.men, kc tb9.sheets, ?_, ⟨r0, es', cl', kc tb9.at', ht, g2⟩⟩
        obtain ⟨x', cx, q1, q2⟩ := tb9.off
        exact ⟨x', cx, kc q1, fun i hi => by obtain ⟨a, ha, g⟩ := q2 i hi; exact ⟨a, ha, kc g⟩⟩
      have hr6 : s6.size < t.size := obj_lt hmt
      refine L_rank_Order_1_rule W _ ⟨s1.size, 0, none⟩ ⟨s7.size, 0, none⟩ ⟨s4.size, 0, none⟩ (fun xx ll c2 u => Kp (· = s6.size) t u ∧ ∃ (out left : List Nat), Li t.size u xx ll c2 (natI out) ∧ (∃ es cl, u[s6.size]? = some (.map es cl) ∧ HoldB es cl (natI left)) ∧ (∀ o ∈ left, o < T.n) ∧ out.length + left.length = T.n ∧ orderP T = out ++ ordG T left.length left) (fun _ ll _ _ => T.n - ll) none 0 0 t
        ⟨Kp.refl _, [], List.range T.n, ⟨Fr.nil _ _ _, fun b hb => by cases hb⟩, ⟨es, cl, hmt, hh⟩, fun o ho => List.mem_range.1 ho, by simp, by unfold orderP; simp⟩ ?_
      rintro xx ll c2 u ⟨ku, out, left, li, ⟨es', cl', hmu, hhu⟩, hlt, hsum, hord⟩
      have hll := li.len
      have hlo' : (natI out).length = out.length := by unfold natI; simp
      have nu : ∀ {a : Addr} {v}, Own t a v → Own u a v := fun ho => ku.own (cells_obj ho.cell hmt) ho
      have eu : Ext s u := ⟨Nat.le_trans et.1 ku.1, fun q hq => by
        rw [ku.2 q (Nat.lt_of_lt_of_le hq et.1) (fun hh => by have h1 := e03.1; have h2 : q = s6.size := hh; omega)]
        exact et.2 q hq⟩
      have kc : ∀ {a : Addr} {v : Value}, cellAt t a = some v → cellAt u a = some v := fun hc => ku.cell (cells_obj hc hmt) hc
      have tbu : TabO u p T.n T.m T.off (prs T) := by
        obtain ⟨r', es2, cl2, g0, g1, g2⟩ := tbt.map
        obtain ⟨x', cx, q1, q2⟩ := tbt.off
        refine ⟨kc tbt.men, kc tbt.sheets, ⟨x', cx, kc q1, fun i hi => by obtain ⟨a, ha, g⟩ := q2 i hi; exact ⟨a, ha, kc g⟩⟩, ⟨r', es2, cl2, kc g0, ?_, g2⟩⟩
        have hr' : r' = r0 := by
          have h1 := kt.cell (cells_obj tb9.at' hm9) tb9.at'
          rw [g0] at h1; injection h1 with h1; injection h1 with h1; injection h1
        rw [hr'] at g1 ⊢
        obtain ⟨es3, cl3, g3, _⟩ := tb.map
        have := obj_lt g3
        rw [ku.2 r0 (obj_lt g1) (fun hh => by have h2 : r0 = s6.size := hh; omega)]; exact g1
      unfold B_rank_Order_1
      refine ⟨_, (nu wmt).cell, LNM_int hmu hhu ?_⟩
      have hnl : (natI left).length = left.length := by unfold natI; simp
      rw [hnl]
      refine BR_dec (fun h2 => ?_) (fun h2 => ?_)
      · have hne : left ≠ [] := fun e => by subst e; simp at h2
        obtain ⟨i, hf, hil⟩ := first_ex hv hne hlt
        refine CALLV_func ?_
        refine c_first vd tbu (nu wpt).cell (nu wmt).cell hmu hhu hlt fun u2 f2 => ?_
        rw [hf]
        try simp only [TUP_mk, AGG_mk, HD_mk, NL_mk, TYI_mk, TYB_mk, TYP_mk, TYL_mk, TYS_mk, TYM_mk, SO_mk, NX_mk, endK_mk, endK_mk', add_0]
        refine NEW_rule fun u3 f3 y3 m3 _ => ?_
        have f23 := f2.trans f3
        have hu3 : t.size ≤ u3.size := Nat.le_trans ku.1 f23.1
        refine li_add (li.ext f23) hu3 (m3 0 _ rfl).cell (by omega) fun u4 x4 c4 k4 li4 g4 => ?_
        have hxr : ∀ a, xx = some a → a.block ≠ s6.size := fun a ha hc => by have := li.fr.fr a ha; omega
        have hmu4 : u4[s6.size]? = some (.map es' cl') := by
          have h3 : u3[s6.size]? = some (.map es' cl') := by rw [f23.2 _ (obj_lt hmu)]; exact hmu
          rw [k4.2 _ (obj_lt h3) (fun ⟨a, ha, hab⟩ => hxr a ha hab)]; exact h3
        have hx4r : ∀ a, x4 = some a → ¬ a.block = s6.size := fun a ha hc => by have := li4.fr.fr a ha; omega
        have n4 : ∀ {a : Addr} {v}, Own t a v → Own u4 a v := fun {a v} ho => k4.own (fun ⟨b, hb, hab⟩ => by have h5 := li.fr.fr b hb; have h6 := ho.lt; omega) (f23.own (nu ho))
        refine ⟨_, (n4 wmt).cell, ?_⟩
        refine DELM_int hmu4 hhu ?_ fun u5 es5 k5 yy h5 h6 => ?_
        · unfold natI; exact List.mem_map.2 ⟨i, hil, rfl⟩
        · have hlen1 : (left.erase i).length = left.length - 1 := List.length_erase_of_mem hil
          have hlpos : 0 < left.length := List.length_pos_iff.2 hne
          refine ⟨_, _, _, rfl, ⟨?_, out ++ [i], left.erase i, ?_, ⟨es5, cl', h5, by rw [← natI_erase]; exact h6⟩, fun o ho => hlt o (List.mem_of_mem_erase ho), ?_, ?_⟩, ?_⟩
          · have k24 : Kp (· = s6.size) t u4 := ⟨Nat.le_trans hu3 k4.1, fun q hq hc => by
              rw [k4.2 q (Nat.lt_of_lt_of_le hq hu3) (fun ⟨a, ha, hab⟩ => by have := li.fr.fr a ha; omega), f23.2 q (Nat.lt_of_lt_of_le hq ku.1)]
              exact ku.2 q hq hc⟩
            exact k24.trans k5
          · have : natI (out ++ [i]) = natI out ++ [(i : Int)] := by unfold natI; rw [List.map_append]; rfl
            rw [this]
            exact li4.kp k5 hx4r
          · rw [List.length_append, hlen1, List.length_singleton]; omega
          · rw [hord, hlen1]
            have : left.length = (left.length - 1) + 1 := by omega
            rw [this]
            show out ++ (match firstP T left with | some i => i :: ordG T (left.length - 1) (left.erase i) | none => []) = _
            rw [hf]; simp
          · show T.n - (ll + 1) < T.n - ll
            omega
      · have hle : left = [] := List.eq_nil_of_length_eq_zero (by omega)
        subst hle
        have ho : orderP T = out := by rw [hord]; show out ++ [] = out; simp
        rw [ho] at h
        have cu := nu cct
        refine WR_own cu rfl (def_none ⟨_, (own_set cu).cell, ?_⟩)
        have hlo2 : ll = out.length := by omega
        subst hlo2
        refine h _ _ _ (eu.setC (by show s.size ≤ s1.size; omega)) ?_ (by have := li.fr.buf.le; rw [ints_len] at this; unfold natI at this; simp at this; exact this)
        have kS : Kp (· = s1.size) u (setC u (Addr.add ⟨s1.size, 0, none⟩ 0) (.int .i64 0)) := Kp.setC (Kp.refl _) (.inl rfl)
        exact li.fr.row.keep kS (fun a ha hab => by have h1 := li.fr.fr a ha; have h2 := cct.lt; have h3 : a.block = s1.size := hab; have h4 : s1.size < t.size := h2; omega)
  · have hc : orderR T = ([], 1) := by unfold orderR; rw [hv]; rfl
    rw [hc] at h
    exact one_pan (KK := fun e t => K (.tuple #[.slice none 0 0, .int .i64 e]) t) (e4.own cc) (e03.trans e4) hsz fun s' e => h s' none 0 e (fun i hi => by simp [ints, natI] at hi) (Nat.le_refl 0)
end
end Go.Proofs.Ytkgcbfbbcaajpaa.G

/- More of the functions' shallow texts, by gen.py. -/
set_option linter.unusedVariables false
set_option maxRecDepth 100000
namespace Go.Proofs.Ytkgcbfbbcaajpaa.G
open Go.V
def an_12 : Nat → Ann := fun b => match b with
  | _ => {}
abbrev rv_12 : List ResultVar := [.tmp 2]
abbrev rs_12 : List Nat := [13, 2]
def T_law10_far (W : World) (n1 : Int) (n2 : Int) (x3 : Option Addr) (l4 : Nat) (c5 : Nat) (x6 : Option Addr) (l7 : Nat) (c8 : Nat) (R : Ending → Hp → Prop) : Hp → Prop :=
  NEW 25 [(.int .i64 n1), (.int .i64 n2), (.slice x3 l4 c5), (.slice x6 l7 c8)] fun B9 =>
    RDL (Addr.add ⟨B9, 0, none⟩ 2) fun x10 l11 c12 =>
      BR (decide ((↑l11 : Int) > 40))
        (R (.returned (.bool true)))
        (RDL (Addr.add ⟨B9, 0, none⟩ 3) fun x13 l14 c15 =>
          R (.returned (.bool (decide ((↑l14 : Int) > 100)))))
theorem T_law10_far_eq (W : World) (n1 : Int) (n2 : Int) (x3 : Option Addr) (l4 : Nat) (c5 : Nat) (x6 : Option Addr) (l7 : Nat) (c8 : Nat) (R : Ending → Hp → Prop) : vfun Pg W an_12 Try.f12 [(.agg #[(.int .i64 n1), (.int .i64 n2), (.slice x3 l4 c5), (.slice x6 l7 c8)])] R = T_law10_far W n1 n2 x3 l4 c5 x6 l7 c8 R := by kernel_rfl
theorem does_law10_far (W : World) (n1 : Int) (n2 : Int) (x3 : Option Addr) (l4 : Nat) (c5 : Nat) (x6 : Option Addr) (l7 : Nat) (c8 : Nat) (R : Ending → Hp → Prop) (s : Hp) (h : T_law10_far W n1 n2 x3 l4 c5 x6 l7 c8 R s) : Does Pg W F_law10_far #[(.agg #[(.int .i64 n1), (.int .i64 n2), (.slice x3 l4 c5), (.slice x6 l7 c8)])] s R :=
  does_of_vfun Pg W an_12 Try.func12 rfl (by kernel_rfl) (by rw [T_law10_far_eq]; exact h)
def an_35 : Nat → Ann := fun b => match b with
  | _ => {}
abbrev rv_35 : List ResultVar := [.cell 4 29]
abbrev rs_35 : List Nat := [8, 4]
def T_law10_span (W : World) (n1 : Int) (n2 : Int) (R : Ending → Hp → Prop) : Hp → Prop :=
  NEWZ Pg 29 fun B3 =>
    WR (Addr.add ⟨B3, 0, none⟩ 0) (.int .i64 n1) <|
      WR (Addr.add ⟨B3, 0, none⟩ 1) (.int .i64 n2) <|
        RDI .i64 (Addr.add ⟨B3, 0, none⟩ 0) fun n4 =>
          RDI .i64 (Addr.add ⟨B3, 0, none⟩ 1) fun n5 =>
            R (.returned (.agg #[(.int .i64 n4), (.int .i64 n5)]))
theorem T_law10_span_eq (W : World) (n1 : Int) (n2 : Int) (R : Ending → Hp → Prop) : vfun Pg W an_35 Try.f35 [(.int .i64 n1), (.int .i64 n2)] R = T_law10_span W n1 n2 R := by kernel_rfl
theorem does_law10_span (W : World) (n1 : Int) (n2 : Int) (R : Ending → Hp → Prop) (s : Hp) (h : T_law10_span W n1 n2 R s) : Does Pg W F_law10_span #[(.int .i64 n1), (.int .i64 n2)] s R :=
  does_of_vfun Pg W an_35 Try.func35 rfl (by kernel_rfl) (by rw [T_law10_span_eq]; exact h)
def an_44 : Nat → Ann := fun b => match b with
  | _ => {}
abbrev rv_44 : List ResultVar := [.cell 0 25]
abbrev rs_44 : List Nat := [17, 0]
def T_law10_sample (W : World) (R : Ending → Hp → Prop) : Hp → Prop :=
  NEWZ Pg 25 fun B1 =>
    NEW 3 [(.int .i64 0), (.int .i64 2), (.int .i64 0)] fun B2 =>
      CALLV Pg W (.func (.func 71) #[] #[]) [(.int .i64 0), (.int .i64 0), (.int .i64 20), (.int .i64 20)]
        (fun v3 => AGG v3 fun q5 => HD q5 fun v6 r7 => TYI .i64 v6 fun n8 =>
          HD r7 fun v9 r10 => TYI .i64 v9 fun n11 =>
            HD r10 fun v12 r13 => TYI .i64 v12 fun n14 =>
              HD r13 fun v15 r16 => TYI .i64 v15 fun n17 =>
                NL r16 <|
                  CALLV Pg W (.func (.func 71) #[] #[]) [(.int .i64 0), (.int .i64 1), (.int .i64 15), (.int .i64 15)]
                    (fun v18 => AGG v18 fun q20 => HD q20 fun v21 r22 => TYI .i64 v21 fun n23 =>
                      HD r22 fun v24 r25 => TYI .i64 v24 fun n26 =>
                        HD r25 fun v27 r28 => TYI .i64 v27 fun n29 =>
                          HD r28 fun v30 r31 => TYI .i64 v30 fun n32 =>
                            NL r31 <|
                              CALLV Pg W (.func (.func 71) #[] #[]) [(.int .i64 1), (.int .i64 0), (.int .i64 22), (.int .i64 22)]
                                (fun v33 => AGG v33 fun q35 => HD q35 fun v36 r37 => TYI .i64 v36 fun n38 =>
                                  HD r37 fun v39 r40 => TYI .i64 v39 fun n41 =>
                                    HD r40 fun v42 r43 => TYI .i64 v42 fun n44 =>
                                      HD r43 fun v45 r46 => TYI .i64 v45 fun n47 =>
                                        NL r46 <|
                                          CALLV Pg W (.func (.func 71) #[] #[]) [(.int .i64 1), (.int .i64 1), (.int .i64 10), (.int .i64 18)]
                                            (fun v48 => AGG v48 fun q50 => HD q50 fun v51 r52 => TYI .i64 v51 fun n53 =>
                                              HD r52 fun v54 r55 => TYI .i64 v54 fun n56 =>
                                                HD r55 fun v57 r58 => TYI .i64 v57 fun n59 =>
                                                  HD r58 fun v60 r61 => TYI .i64 v60 fun n62 =>
                                                    NL r61 <|
                                                      CALLV Pg W (.func (.func 71) #[] #[]) [(.int .i64 2), (.int .i64 0), (.int .i64 18), (.int .i64 20)]
                                                        (fun v63 => AGG v63 fun q65 => HD q65 fun v66 r67 => TYI .i64 v66 fun n68 =>
                                                          HD r67 fun v69 r70 => TYI .i64 v69 fun n71 =>
                                                            HD r70 fun v72 r73 => TYI .i64 v72 fun n74 =>
                                                              HD r73 fun v75 r76 => TYI .i64 v75 fun n77 =>
                                                                NL r76 <|
                                                                  CALLV Pg W (.func (.func 71) #[] #[]) [(.int .i64 2), (.int .i64 1), (.int .i64 17), (.int .i64 17)]
                                                                    (fun v78 => AGG v78 fun q80 => HD q80 fun v81 r82 => TYI .i64 v81 fun n83 =>
                                                                      HD r82 fun v84 r85 => TYI .i64 v84 fun n86 =>
                                                                        HD r85 fun v87 r88 => TYI .i64 v87 fun n89 =>
                                                                          HD r88 fun v90 r91 => TYI .i64 v90 fun n92 =>
                                                                            NL r91 <|
                                                                              NEW 55 [(.int .i64 n8), (.int .i64 n11), (.int .i64 n14), (.int .i64 n17), (.int .i64 n23), (.int .i64 n26), (.int .i64 n29), (.int .i64 n32), (.int .i64 n38), (.int .i64 n41), (.int .i64 n44), (.int .i64 n47), (.int .i64 n53), (.int .i64 n56), (.int .i64 n59), (.int .i64 n62), (.int .i64 n68), (.int .i64 n71), (.int .i64 n74), (.int .i64 n77), (.int .i64 n83), (.int .i64 n86), (.int .i64 n89), (.int .i64 n92)] fun B93 =>
                                                                                WR (Addr.add ⟨B1, 0, none⟩ 0) (.int .i64 3) <|
                                                                                  WR (Addr.add ⟨B1, 0, none⟩ 1) (.int .i64 2) <|
                                                                                    WR (Addr.add ⟨B1, 0, none⟩ 2) (.slice (some ⟨B2, 0, none⟩) 3 3) <|
                                                                                      WR (Addr.add ⟨B1, 0, none⟩ 3) (.slice (some ⟨B93, 0, none⟩) 6 6) <|
                                                                                        RDI .i64 (Addr.add ⟨B1, 0, none⟩ 0) fun n94 =>
                                                                                          RDI .i64 (Addr.add ⟨B1, 0, none⟩ 1) fun n95 =>
                                                                                            RDL (Addr.add ⟨B1, 0, none⟩ 2) fun x96 l97 c98 =>
                                                                                              RDL (Addr.add ⟨B1, 0, none⟩ 3) fun x99 l100 c101 =>
                                                                                                R (.returned (.agg #[(.int .i64 n94), (.int .i64 n95), (.slice x96 l97 c98), (.slice x99 l100 c101)])))
                                                                      (fun e79 => R (.panicked e79)))
                                                          (fun e64 => R (.panicked e64)))
                                              (fun e49 => R (.panicked e49)))
                                  (fun e34 => R (.panicked e34)))
                      (fun e19 => R (.panicked e19)))
          (fun e4 => R (.panicked e4))
theorem T_law10_sample_eq (W : World) (R : Ending → Hp → Prop) : vfun Pg W an_44 Try.f44 [] R = T_law10_sample W R := by kernel_rfl
theorem does_law10_sample (W : World) (R : Ending → Hp → Prop) (s : Hp) (h : T_law10_sample W R s) : Does Pg W F_law10_sample #[] s R :=
  does_of_vfun Pg W an_44 Try.func44 rfl (by kernel_rfl) (by rw [T_law10_sample_eq]; exact h)
def an_71 : Nat → Ann := fun b => match b with
  | _ => {}
abbrev rv_71 : List ResultVar := [.cell 8 55]
abbrev rs_71 : List Nat := [15, 8]
def T_law10_sample_c1 (W : World) (n1 : Int) (n2 : Int) (n3 : Int) (n4 : Int) (R : Ending → Hp → Prop) : Hp → Prop :=
  NEWZ Pg 55 fun B5 =>
    CALL Pg W F_law10_span [(.int .i64 n3), (.int .i64 n4)]
      (fun v6 => AGG v6 fun q8 => HD q8 fun v9 r10 => TYI .i64 v9 fun n11 =>
        HD r10 fun v12 r13 => TYI .i64 v12 fun n14 =>
          NL r13 <|
            WR (Addr.add ⟨B5, 0, none⟩ 0) (.int .i64 n1) <|
              WR (Addr.add ⟨B5, 0, none⟩ 1) (.int .i64 n2) <|
                WR (Addr.add ⟨B5, 0, none⟩ 2) (.int .i64 n11) <|
                  WR (Addr.add ⟨B5, 0, none⟩ 3) (.int .i64 n14) <|
                    RDI .i64 (Addr.add ⟨B5, 0, none⟩ 0) fun n15 =>
                      RDI .i64 (Addr.add ⟨B5, 0, none⟩ 1) fun n16 =>
                        RDI .i64 (Addr.add ⟨B5, 0, none⟩ 2) fun n17 =>
                          RDI .i64 (Addr.add ⟨B5, 0, none⟩ 3) fun n18 =>
                            R (.returned (.agg #[(.int .i64 n15), (.int .i64 n16), (.int .i64 n17), (.int .i64 n18)])))
        (fun e7 => R (.panicked e7))
theorem T_law10_sample_c1_eq (W : World) (n1 : Int) (n2 : Int) (n3 : Int) (n4 : Int) (R : Ending → Hp → Prop) : vfun Pg W an_71 Try.f71 [(.int .i64 n1), (.int .i64 n2), (.int .i64 n3), (.int .i64 n4)] R = T_law10_sample_c1 W n1 n2 n3 n4 R := by kernel_rfl
theorem does_law10_sample_c1 (W : World) (n1 : Int) (n2 : Int) (n3 : Int) (n4 : Int) (R : Ending → Hp → Prop) (s : Hp) (h : T_law10_sample_c1 W n1 n2 n3 n4 R s) : Does Pg W F_law10_sample_c1 #[(.int .i64 n1), (.int .i64 n2), (.int .i64 n3), (.int .i64 n4)] s R :=
  does_of_vfun Pg W an_71 Try.func71 rfl (by kernel_rfl) (by rw [T_law10_sample_c1_eq]; exact h)
end Go.Proofs.Ytkgcbfbbcaajpaa.G

/- More of the functions' shallow texts, by gen.py. -/
set_option linter.unusedVariables false
set_option maxRecDepth 100000
namespace Go.Proofs.Ytkgcbfbbcaajpaa.G
open Go.V
def an_24 : Nat → Ann := fun b => match b with
  | 0 => { ms := [2, 3], ks := [.b, .i .i64], us := [1, 119], rt := false, ex := [] }
  | 2 => { ms := [2, 4], ks := [.b, .i .i64], us := [1, 119], rt := false, ex := [] }
  | 4 => { ms := [2, 6], ks := [.b, .i .i64], us := [1, 4, 5, 119], rt := false, ex := [] }
  | _ => {}
abbrev rv_24 : List ResultVar := [.tmp 2]
abbrev rs_24 : List Nat := [119, 2]
def L_ref10_Table_0 (W : World) (R : Ending → Hp → Prop) (za0 : Addr) (b28 : Bool) (n29 : Int) : Hp → Prop :=
  LOOPN [.b, .i .i64] (fun ys next s => ∀ j : Tm, vc Pg W 119 rs_24 an_24 false (sub (bodyOf Try.f24) [1, 1, 0, 1, 0, 0]) 0 (KLoop [2, 3] [1, 119] [(.pointer (some za0)), (.tuple #[])] next (KBlk 0 (KS Pg W 119 rs_24 an_24 false (sub (bodyOf Try.f24) [1, 1, 1]) 0 (fin Pg W 119 rv_24 R)))) (known [2, 3] ys (known [1, 119] [(.pointer (some za0)), (.tuple #[])] j)) s) [(.bool b28), (.int .i64 n29)]
def L_ref10_Table_1 (W : World) (R : Ending → Hp → Prop) (za0 : Addr) (b41 : Bool) (n42 : Int) : Hp → Prop :=
  LOOPN [.b, .i .i64] (fun ys next s => ∀ j : Tm, vc Pg W 119 rs_24 an_24 false (sub (bodyOf Try.f24) [1, 1, 1, 0, 1, 0, 0]) 2 (KLoop [2, 4] [1, 119] [(.pointer (some za0)), (.tuple #[])] next (KBlk 2 (KS Pg W 119 rs_24 an_24 false (sub (bodyOf Try.f24) [1, 1, 1, 1]) 0 (fin Pg W 119 rv_24 R)))) (known [2, 4] ys (known [1, 119] [(.pointer (some za0)), (.tuple #[])] j)) s) [(.bool b41), (.int .i64 n42)]
def L_ref10_Table_2 (W : World) (R : Ending → Hp → Prop) (nx1 : List Value → Hp → Prop) (za0 : Addr) (zn1 : Int) (za2 : Addr) (b73 : Bool) (n74 : Int) : Hp → Prop :=
  LOOPN [.b, .i .i64] (fun ys next s => ∀ j : Tm, vc Pg W 119 rs_24 an_24 false (sub (bodyOf Try.f24) [1, 1, 1, 0, 1, 0, 0, 1, 0, 0, 1, 1, 1, 0, 0]) 4 (KLoop [2, 6] [1, 4, 5, 119] [(.pointer (some za0)), (.int .i64 zn1), (.pointer (some za2)), (.tuple #[])] next (KBlk 4 (KBlk 3 (KS Pg W 119 rs_24 an_24 false (sub (bodyOf Try.f24) [1, 1, 1, 0, 1, 0, 0, 1, 1]) 2 (KLoop [2, 4] [1, 119] [(.pointer (some za0)), (.tuple #[])] nx1 (KBlk 2 (KS Pg W 119 rs_24 an_24 false (sub (bodyOf Try.f24) [1, 1, 1, 1]) 0 (fin Pg W 119 rv_24 R)))))))) (known [2, 6] ys (known [1, 4, 5, 119] [(.pointer (some za0)), (.int .i64 zn1), (.pointer (some za2)), (.tuple #[])] j)) s) [(.bool b73), (.int .i64 n74)]
def J_ref10_Table_0 (W : World) (R : Ending → Hp → Prop) (b16 : Bool) (B9 : Nat) : Hp → Prop :=
  BR b16
    (R (.returned (.bool false)))
    (L_ref10_Table_0 W R ⟨B9, 0, none⟩ false 0)
def J_ref10_Table_1 (W : World) (R : Ending → Hp → Prop) (b15 : Bool) (B9 : Nat) : Hp → Prop :=
  BR b15
    (J_ref10_Table_0 W R true B9)
    (RDL (Addr.add ⟨B9, 0, none⟩ 3) fun x17 l18 c19 =>
      J_ref10_Table_0 W R (decide ((↑l18 : Int) > 30)) B9)
def J_ref10_Table_2 (W : World) (R : Ending → Hp → Prop) (b14 : Bool) (B9 : Nat) : Hp → Prop :=
  BR b14
    (J_ref10_Table_1 W R true B9)
    (RDL (Addr.add ⟨B9, 0, none⟩ 2) fun x20 l21 c22 =>
      RDI .i64 (Addr.add ⟨B9, 0, none⟩ 0) fun n23 =>
        J_ref10_Table_1 W R ((↑l21 : Int) != n23) B9)
def J_ref10_Table_3 (W : World) (R : Ending → Hp → Prop) (b63 : Bool) (nx1 : List Value → Hp → Prop) (za0 : Addr) (n42 : Int) (B54 : Nat) (b41 : Bool) : Hp → Prop :=
  BR b63
    (R (.returned (.bool false)))
    (L_ref10_Table_2 W R nx1 za0 n42 ⟨B54, 0, none⟩ b41 0)
def J_ref10_Table_4 (W : World) (R : Ending → Hp → Prop) (b62 : Bool) (nx1 : List Value → Hp → Prop) (za0 : Addr) (n42 : Int) (B54 : Nat) (b41 : Bool) : Hp → Prop :=
  BR b62
    (J_ref10_Table_3 W R true nx1 za0 n42 B54 b41)
    (RDI .i64 (Addr.add (Addr.add ⟨B54, 0, none⟩ 2) 1) fun n64 =>
      J_ref10_Table_3 W R (decide (n64 > 40)) nx1 za0 n42 B54 b41)
def J_ref10_Table_5 (W : World) (R : Ending → Hp → Prop) (b61 : Bool) (nx1 : List Value → Hp → Prop) (za0 : Addr) (n42 : Int) (B54 : Nat) (b41 : Bool) : Hp → Prop :=
  BR b61
    (J_ref10_Table_4 W R true nx1 za0 n42 B54 b41)
    (RDI .i64 (Addr.add (Addr.add ⟨B54, 0, none⟩ 2) 0) fun n65 =>
      RDI .i64 (Addr.add (Addr.add ⟨B54, 0, none⟩ 2) 1) fun n66 =>
        J_ref10_Table_4 W R (decide (n65 > n66)) nx1 za0 n42 B54 b41)
def J_ref10_Table_6 (W : World) (R : Ending → Hp → Prop) (b60 : Bool) (nx1 : List Value → Hp → Prop) (za0 : Addr) (n42 : Int) (B54 : Nat) (b41 : Bool) : Hp → Prop :=
  BR b60
    (J_ref10_Table_5 W R true nx1 za0 n42 B54 b41)
    (RDI .i64 (Addr.add (Addr.add ⟨B54, 0, none⟩ 2) 0) fun n67 =>
      J_ref10_Table_5 W R (decide (n67 < 0)) nx1 za0 n42 B54 b41)
def J_ref10_Table_7 (W : World) (R : Ending → Hp → Prop) (b87 : Bool) (za0 : Addr) (zn1 : Int) (za2 : Addr) (nx2 : List Value → Hp → Prop) (b73 : Bool) (n74 : Int) : Hp → Prop :=
  BR b87
    (R (.returned (.bool false)))
    (NX [(.pointer (some za0)), (.int .i64 zn1), (.pointer (some za2)), (.tuple #[])] [(.pointer (some za0)), (.int .i64 zn1), (.pointer (some za2)), (.tuple #[])] (nx2 [(.bool b73), (.int .i64 (IntKind.wrap .i64 (n74 + 1)))]))
def B_ref10_Table_0 (W : World) (R : Ending → Hp → Prop) (za0 : Addr) (b28 : Bool) (n29 : Int) (nx0 : List Value → Hp → Prop) : Hp → Prop :=
  RDL (Addr.add za0 2) fun x30 l31 c32 =>
    BR (decide (n29 < (↑l31 : Int)))
      (RDL (Addr.add za0 2) fun x33 l34 c35 =>
        IXS x33 l34 n29 1 fun a36 =>
          RDI .i64 a36 fun n37 =>
            CALL Pg W F_ref10_in [(.int .i64 n37), (.int .i64 0), (.int .i64 100)]
              (fun v38 => TYB v38 fun b40 =>
                BR (!b40)
                  (R (.returned (.bool false)))
                  (NX [(.pointer (some za0)), (.tuple #[])] [(.pointer (some za0)), (.tuple #[])] (nx0 [(.bool b28), (.int .i64 (IntKind.wrap .i64 (n29 + 1)))])))
                (fun e39 => R (.panicked e39)))
      (L_ref10_Table_1 W R za0 b28 0)
theorem B_ref10_Table_0_eq (W : World) (R : Ending → Hp → Prop) (za0 : Addr) (b28 : Bool) (n29 : Int) (nx0 : List Value → Hp → Prop) (j : Tm) : vc Pg W 119 rs_24 an_24 false (sub (bodyOf Try.f24) [1, 1, 0, 1, 0, 0]) 0 (KLoop [2, 3] [1, 119] [(.pointer (some za0)), (.tuple #[])] nx0 (KBlk 0 (KS Pg W 119 rs_24 an_24 false (sub (bodyOf Try.f24) [1, 1, 1]) 0 (fin Pg W 119 rv_24 R)))) (known [2, 3] [(.bool b28), (.int .i64 n29)] (known [1, 119] [(.pointer (some za0)), (.tuple #[])] j)) = B_ref10_Table_0 W R za0 b28 n29 nx0 := by kernel_rfl
def N_ref10_Table_0 (I : Bool → Int → Hp → Prop) (μ : Bool → Int → Hp → Nat) (b280 : Bool) (n290 : Int) (s : Hp) (vs : List Value) : Hp → Prop := fun s' => ∃ b28 n29, vs = [(.bool b28), (.int .i64 n29)] ∧ I b28 n29 s' ∧ μ b28 n29 s' < μ b280 n290 s
theorem L_ref10_Table_0_rule (W : World) (R : Ending → Hp → Prop) (za0 : Addr) (I : Bool → Int → Hp → Prop) (μ : Bool → Int → Hp → Nat) (b280 : Bool) (n290 : Int) (s : Hp) (h0 : I b280 n290 s)
    (hr : ∀ (b28 : Bool) (n29 : Int) (s : Hp), I b28 n29 s → B_ref10_Table_0 W R za0 b28 n29 (fun vs => N_ref10_Table_0 I μ b28 n29 s vs) s) : L_ref10_Table_0 W R za0 b280 n290 s := by
  refine ⟨fun vs s => ∃ b28 n29, vs = [(.bool b28), (.int .i64 n29)] ∧ I b28 n29 s, fun vs s => (match vs with | [.bool b28, .int _ n29] => μ b28 n29 s | _ => 0), ⟨⟨⟨_, rfl⟩, ⟨⟨_, rfl⟩, trivial⟩⟩, ⟨_, _, rfl, h0⟩⟩, ?_⟩
  intro b28 n29 s hI j
  obtain ⟨b28', n29', hy, hI⟩ := hI
  have hI' : I b28 n29 s := by cases hy; exact hI
  have hh := hr b28 n29 s hI'
  rw [← B_ref10_Table_0_eq W R za0 b28 n29 _ j] at hh
  refine vc_mono ?_ _ _ hh
  exact KLoop_mono (fun vs s' h => by obtain ⟨b281, n291, rfl, h1, h2⟩ := h; exact ⟨⟨⟨_, rfl⟩, ⟨⟨_, rfl⟩, trivial⟩⟩, ⟨_, _, rfl, h1⟩, h2⟩)
def B_ref10_Table_1 (W : World) (R : Ending → Hp → Prop) (za0 : Addr) (b41 : Bool) (n42 : Int) (nx1 : List Value → Hp → Prop) : Hp → Prop :=
  RDL (Addr.add za0 3) fun x43 l44 c45 =>
    BR (decide (n42 < (↑l44 : Int)))
      (RDL (Addr.add za0 3) fun x46 l47 c48 =>
        IXS x46 l47 n42 4 fun a49 =>
          RDI .i64 (Addr.add a49 0) fun n50 =>
            RDI .i64 (Addr.add a49 1) fun n51 =>
              RDI .i64 (Addr.add a49 2) fun n52 =>
                RDI .i64 (Addr.add a49 3) fun n53 =>
                  NEWZ Pg 55 fun B54 =>
                    WR (Addr.add ⟨B54, 0, none⟩ 0) (.int .i64 n50) <|
                      WR (Addr.add ⟨B54, 0, none⟩ 1) (.int .i64 n51) <|
                        WR (Addr.add ⟨B54, 0, none⟩ 2) (.int .i64 n52) <|
                          WR (Addr.add ⟨B54, 0, none⟩ 3) (.int .i64 n53) <|
                            RDI .i64 (Addr.add ⟨B54, 0, none⟩ 0) fun n55 =>
                              RDI .i64 (Addr.add za0 0) fun n56 =>
                                CALL Pg W F_ref10_in [(.int .i64 n55), (.int .i64 0), (.int .i64 (IntKind.wrap .i64 (n56 - 1)))]
                                  (fun v57 => TYB v57 fun b59 =>
                                    BR (!b59)
                                      (J_ref10_Table_6 W R true nx1 za0 n42 B54 b41)
                                      (RDI .i64 (Addr.add ⟨B54, 0, none⟩ 1) fun n68 =>
                                        RDI .i64 (Addr.add za0 1) fun n69 =>
                                          CALL Pg W F_ref10_in [(.int .i64 n68), (.int .i64 0), (.int .i64 (IntKind.wrap .i64 (n69 - 1)))]
                                            (fun v70 => TYB v70 fun b72 =>
                                              J_ref10_Table_6 W R (!b72) nx1 za0 n42 B54 b41)
                                              (fun e71 => R (.panicked e71))))
                                    (fun e58 => R (.panicked e58)))
      (R (.returned (.bool true)))
theorem B_ref10_Table_1_eq (W : World) (R : Ending → Hp → Prop) (za0 : Addr) (b41 : Bool) (n42 : Int) (nx1 : List Value → Hp → Prop) (j : Tm) : vc Pg W 119 rs_24 an_24 false (sub (bodyOf Try.f24) [1, 1, 1, 0, 1, 0, 0]) 2 (KLoop [2, 4] [1, 119] [(.pointer (some za0)), (.tuple #[])] nx1 (KBlk 2 (KS Pg W 119 rs_24 an_24 false (sub (bodyOf Try.f24) [1, 1, 1, 1]) 0 (fin Pg W 119 rv_24 R)))) (known [2, 4] [(.bool b41), (.int .i64 n42)] (known [1, 119] [(.pointer (some za0)), (.tuple #[])] j)) = B_ref10_Table_1 W R za0 b41 n42 nx1 := by kernel_rfl
def N_ref10_Table_1 (I : Bool → Int → Hp → Prop) (μ : Bool → Int → Hp → Nat) (b410 : Bool) (n420 : Int) (s : Hp) (vs : List Value) : Hp → Prop := fun s' => ∃ b41 n42, vs = [(.bool b41), (.int .i64 n42)] ∧ I b41 n42 s' ∧ μ b41 n42 s' < μ b410 n420 s
theorem L_ref10_Table_1_rule (W : World) (R : Ending → Hp → Prop) (za0 : Addr) (I : Bool → Int → Hp → Prop) (μ : Bool → Int → Hp → Nat) (b410 : Bool) (n420 : Int) (s : Hp) (h0 : I b410 n420 s)
    (hr : ∀ (b41 : Bool) (n42 : Int) (s : Hp), I b41 n42 s → B_ref10_Table_1 W R za0 b41 n42 (fun vs => N_ref10_Table_1 I μ b41 n42 s vs) s) : L_ref10_Table_1 W R za0 b410 n420 s := by
  refine ⟨fun vs s => ∃ b41 n42, vs = [(.bool b41), (.int .i64 n42)] ∧ I b41 n42 s, fun vs s => (match vs with | [.bool b41, .int _ n42] => μ b41 n42 s | _ => 0), ⟨⟨⟨_, rfl⟩, ⟨⟨_, rfl⟩, trivial⟩⟩, ⟨_, _, rfl, h0⟩⟩, ?_⟩
  intro b41 n42 s hI j
  obtain ⟨b41', n42', hy, hI⟩ := hI
  have hI' : I b41 n42 s := by cases hy; exact hI
  have hh := hr b41 n42 s hI'
  rw [← B_ref10_Table_1_eq W R za0 b41 n42 _ j] at hh
  refine vc_mono ?_ _ _ hh
  exact KLoop_mono (fun vs s' h => by obtain ⟨b411, n421, rfl, h1, h2⟩ := h; exact ⟨⟨⟨_, rfl⟩, ⟨⟨_, rfl⟩, trivial⟩⟩, ⟨_, _, rfl, h1⟩, h2⟩)
def B_ref10_Table_2 (W : World) (R : Ending → Hp → Prop) (nx1 : List Value → Hp → Prop) (za0 : Addr) (zn1 : Int) (za2 : Addr) (b73 : Bool) (n74 : Int) (nx2 : List Value → Hp → Prop) : Hp → Prop :=
  BR (decide (n74 < zn1))
    (RDL (Addr.add za0 3) fun x75 l76 c77 =>
      IXS x75 l76 n74 4 fun a78 =>
        RDI .i64 (Addr.add a78 0) fun n79 =>
          RDI .i64 (Addr.add za2 0) fun n80 =>
            BR (n79 == n80)
              (RDL (Addr.add za0 3) fun x81 l82 c83 =>
                IXS x81 l82 n74 4 fun a84 =>
                  RDI .i64 (Addr.add a84 1) fun n85 =>
                    RDI .i64 (Addr.add za2 1) fun n86 =>
                      J_ref10_Table_7 W R (n85 == n86) za0 zn1 za2 nx2 b73 n74)
              (J_ref10_Table_7 W R false za0 zn1 za2 nx2 b73 n74))
    (NX [(.pointer (some za0)), (.tuple #[])] [(.pointer (some za0)), (.tuple #[])] (nx1 [(.bool b73), (.int .i64 (IntKind.wrap .i64 (zn1 + 1)))]))
theorem B_ref10_Table_2_eq (W : World) (R : Ending → Hp → Prop) (nx1 : List Value → Hp → Prop) (za0 : Addr) (zn1 : Int) (za2 : Addr) (b73 : Bool) (n74 : Int) (nx2 : List Value → Hp → Prop) (j : Tm) : vc Pg W 119 rs_24 an_24 false (sub (bodyOf Try.f24) [1, 1, 1, 0, 1, 0, 0, 1, 0, 0, 1, 1, 1, 0, 0]) 4 (KLoop [2, 6] [1, 4, 5, 119] [(.pointer (some za0)), (.int .i64 zn1), (.pointer (some za2)), (.tuple #[])] nx2 (KBlk 4 (KBlk 3 (KS Pg W 119 rs_24 an_24 false (sub (bodyOf Try.f24) [1, 1, 1, 0, 1, 0, 0, 1, 1]) 2 (KLoop [2, 4] [1, 119] [(.pointer (some za0)), (.tuple #[])] nx1 (KBlk 2 (KS Pg W 119 rs_24 an_24 false (sub (bodyOf Try.f24) [1, 1, 1, 1]) 0 (fin Pg W 119 rv_24 R)))))))) (known [2, 6] [(.bool b73), (.int .i64 n74)] (known [1, 4, 5, 119] [(.pointer (some za0)), (.int .i64 zn1), (.pointer (some za2)), (.tuple #[])] j)) = B_ref10_Table_2 W R nx1 za0 zn1 za2 b73 n74 nx2 := by kernel_rfl
def N_ref10_Table_2 (I : Bool → Int → Hp → Prop) (μ : Bool → Int → Hp → Nat) (b730 : Bool) (n740 : Int) (s : Hp) (vs : List Value) : Hp → Prop := fun s' => ∃ b73 n74, vs = [(.bool b73), (.int .i64 n74)] ∧ I b73 n74 s' ∧ μ b73 n74 s' < μ b730 n740 s
theorem L_ref10_Table_2_rule (W : World) (R : Ending → Hp → Prop) (nx1 : List Value → Hp → Prop) (za0 : Addr) (zn1 : Int) (za2 : Addr) (I : Bool → Int → Hp → Prop) (μ : Bool → Int → Hp → Nat) (b730 : Bool) (n740 : Int) (s : Hp) (h0 : I b730 n740 s)
    (hr : ∀ (b73 : Bool) (n74 : Int) (s : Hp), I b73 n74 s → B_ref10_Table_2 W R nx1 za0 zn1 za2 b73 n74 (fun vs => N_ref10_Table_2 I μ b73 n74 s vs) s) : L_ref10_Table_2 W R nx1 za0 zn1 za2 b730 n740 s := by
  refine ⟨fun vs s => ∃ b73 n74, vs = [(.bool b73), (.int .i64 n74)] ∧ I b73 n74 s, fun vs s => (match vs with | [.bool b73, .int _ n74] => μ b73 n74 s | _ => 0), ⟨⟨⟨_, rfl⟩, ⟨⟨_, rfl⟩, trivial⟩⟩, ⟨_, _, rfl, h0⟩⟩, ?_⟩
  intro b73 n74 s hI j
  obtain ⟨b73', n74', hy, hI⟩ := hI
  have hI' : I b73 n74 s := by cases hy; exact hI
  have hh := hr b73 n74 s hI'
  rw [← B_ref10_Table_2_eq W R nx1 za0 zn1 za2 b73 n74 _ j] at hh
  refine vc_mono ?_ _ _ hh
  exact KLoop_mono (fun vs s' h => by obtain ⟨b731, n741, rfl, h1, h2⟩ := h; exact ⟨⟨⟨_, rfl⟩, ⟨⟨_, rfl⟩, trivial⟩⟩, ⟨_, _, rfl, h1⟩, h2⟩)
def T_ref10_Table (W : World) (n1 : Int) (n2 : Int) (x3 : Option Addr) (l4 : Nat) (c5 : Nat) (x6 : Option Addr) (l7 : Nat) (c8 : Nat) (R : Ending → Hp → Prop) : Hp → Prop :=
  NEW 25 [(.int .i64 n1), (.int .i64 n2), (.slice x3 l4 c5), (.slice x6 l7 c8)] fun B9 =>
    RDI .i64 (Addr.add ⟨B9, 0, none⟩ 0) fun n10 =>
      CALL Pg W F_ref10_in [(.int .i64 n10), (.int .i64 1), (.int .i64 6)]
        (fun v11 => TYB v11 fun b13 =>
          BR (!b13)
            (J_ref10_Table_2 W R true B9)
            (RDI .i64 (Addr.add ⟨B9, 0, none⟩ 1) fun n24 =>
              CALL Pg W F_ref10_in [(.int .i64 n24), (.int .i64 1), (.int .i64 5)]
                (fun v25 => TYB v25 fun b27 =>
                  J_ref10_Table_2 W R (!b27) B9)
                  (fun e26 => R (.panicked e26))))
          (fun e12 => R (.panicked e12))
theorem T_ref10_Table_eq (W : World) (n1 : Int) (n2 : Int) (x3 : Option Addr) (l4 : Nat) (c5 : Nat) (x6 : Option Addr) (l7 : Nat) (c8 : Nat) (R : Ending → Hp → Prop) : vfun Pg W an_24 Try.f24 [(.agg #[(.int .i64 n1), (.int .i64 n2), (.slice x3 l4 c5), (.slice x6 l7 c8)])] R = T_ref10_Table W n1 n2 x3 l4 c5 x6 l7 c8 R := by kernel_rfl
theorem does_ref10_Table (W : World) (n1 : Int) (n2 : Int) (x3 : Option Addr) (l4 : Nat) (c5 : Nat) (x6 : Option Addr) (l7 : Nat) (c8 : Nat) (R : Ending → Hp → Prop) (s : Hp) (h : T_ref10_Table W n1 n2 x3 l4 c5 x6 l7 c8 R s) : Does Pg W F_ref10_Table #[(.agg #[(.int .i64 n1), (.int .i64 n2), (.slice x3 l4 c5), (.slice x6 l7 c8)])] s R :=
  does_of_vfun Pg W an_24 Try.func24 rfl (by kernel_rfl) (by rw [T_ref10_Table_eq]; exact h)
def an_31 : Nat → Ann := fun b => match b with
  | 0 => { ms := [4, 5], ks := [.b, .i .i64], us := [0, 1, 26], rt := false, ex := [] }
  | _ => {}
abbrev rv_31 : List ResultVar := [.tmp 4]
abbrev rs_31 : List Nat := [26, 4]
def L_ref10_Ints_0 (W : World) (R : Ending → Hp → Prop) (zp0 : Option Addr) (zl1 : Nat) (zl2 : Nat) (zp3 : Option Addr) (zl4 : Nat) (zl5 : Nat) (b7 : Bool) (n8 : Int) : Hp → Prop :=
  LOOPN [.b, .i .i64] (fun ys next s => ∀ j : Tm, vc Pg W 26 rs_31 an_31 false (sub (bodyOf Try.f31) [1, 1, 0, 1, 0, 0]) 0 (KLoop [4, 5] [0, 1, 26] [(.slice zp0 zl1 zl2), (.slice zp3 zl4 zl5), (.tuple #[])] next (KBlk 0 (KS Pg W 26 rs_31 an_31 false (sub (bodyOf Try.f31) [1, 1, 1]) 0 (fin Pg W 26 rv_31 R)))) (known [4, 5] ys (known [0, 1, 26] [(.slice zp0 zl1 zl2), (.slice zp3 zl4 zl5), (.tuple #[])] j)) s) [(.bool b7), (.int .i64 n8)]
def B_ref10_Ints_0 (W : World) (R : Ending → Hp → Prop) (zp0 : Option Addr) (zl1 : Nat) (zl2 : Nat) (zp3 : Option Addr) (zl4 : Nat) (zl5 : Nat) (b7 : Bool) (n8 : Int) (nx0 : List Value → Hp → Prop) : Hp → Prop :=
  BR (decide (n8 < (↑zl1 : Int)))
    (IXS zp0 zl1 n8 1 fun a9 =>
      RDI .i64 a9 fun n10 =>
        IXS zp3 zl4 n8 1 fun a11 =>
          RDI .i64 a11 fun n12 =>
            BR (n10 != n12)
              (R (.returned (.bool false)))
              (NX [(.slice zp0 zl1 zl2), (.slice zp3 zl4 zl5), (.tuple #[])] [(.slice zp0 zl1 zl2), (.slice zp3 zl4 zl5), (.tuple #[])] (nx0 [(.bool b7), (.int .i64 (IntKind.wrap .i64 (n8 + 1)))])))
    (R (.returned (.bool true)))
theorem B_ref10_Ints_0_eq (W : World) (R : Ending → Hp → Prop) (zp0 : Option Addr) (zl1 : Nat) (zl2 : Nat) (zp3 : Option Addr) (zl4 : Nat) (zl5 : Nat) (b7 : Bool) (n8 : Int) (nx0 : List Value → Hp → Prop) (j : Tm) : vc Pg W 26 rs_31 an_31 false (sub (bodyOf Try.f31) [1, 1, 0, 1, 0, 0]) 0 (KLoop [4, 5] [0, 1, 26] [(.slice zp0 zl1 zl2), (.slice zp3 zl4 zl5), (.tuple #[])] nx0 (KBlk 0 (KS Pg W 26 rs_31 an_31 false (sub (bodyOf Try.f31) [1, 1, 1]) 0 (fin Pg W 26 rv_31 R)))) (known [4, 5] [(.bool b7), (.int .i64 n8)] (known [0, 1, 26] [(.slice zp0 zl1 zl2), (.slice zp3 zl4 zl5), (.tuple #[])] j)) = B_ref10_Ints_0 W R zp0 zl1 zl2 zp3 zl4 zl5 b7 n8 nx0 := by kernel_rfl
def N_ref10_Ints_0 (I : Bool → Int → Hp → Prop) (μ : Bool → Int → Hp → Nat) (b70 : Bool) (n80 : Int) (s : Hp) (vs : List Value) : Hp → Prop := fun s' => ∃ b7 n8, vs = [(.bool b7), (.int .i64 n8)] ∧ I b7 n8 s' ∧ μ b7 n8 s' < μ b70 n80 s
theorem L_ref10_Ints_0_rule (W : World) (R : Ending → Hp → Prop) (zp0 : Option Addr) (zl1 : Nat) (zl2 : Nat) (zp3 : Option Addr) (zl4 : Nat) (zl5 : Nat) (I : Bool → Int → Hp → Prop) (μ : Bool → Int → Hp → Nat) (b70 : Bool) (n80 : Int) (s : Hp) (h0 : I b70 n80 s)
    (hr : ∀ (b7 : Bool) (n8 : Int) (s : Hp), I b7 n8 s → B_ref10_Ints_0 W R zp0 zl1 zl2 zp3 zl4 zl5 b7 n8 (fun vs => N_ref10_Ints_0 I μ b7 n8 s vs) s) : L_ref10_Ints_0 W R zp0 zl1 zl2 zp3 zl4 zl5 b70 n80 s := by
  refine ⟨fun vs s => ∃ b7 n8, vs = [(.bool b7), (.int .i64 n8)] ∧ I b7 n8 s, fun vs s => (match vs with | [.bool b7, .int _ n8] => μ b7 n8 s | _ => 0), ⟨⟨⟨_, rfl⟩, ⟨⟨_, rfl⟩, trivial⟩⟩, ⟨_, _, rfl, h0⟩⟩, ?_⟩
  intro b7 n8 s hI j
  obtain ⟨b7', n8', hy, hI⟩ := hI
  have hI' : I b7 n8 s := by cases hy; exact hI
  have hh := hr b7 n8 s hI'
  rw [← B_ref10_Ints_0_eq W R zp0 zl1 zl2 zp3 zl4 zl5 b7 n8 _ j] at hh
  refine vc_mono ?_ _ _ hh
  exact KLoop_mono (fun vs s' h => by obtain ⟨b71, n81, rfl, h1, h2⟩ := h; exact ⟨⟨⟨_, rfl⟩, ⟨⟨_, rfl⟩, trivial⟩⟩, ⟨_, _, rfl, h1⟩, h2⟩)
def T_ref10_Ints (W : World) (x1 : Option Addr) (l2 : Nat) (c3 : Nat) (x4 : Option Addr) (l5 : Nat) (c6 : Nat) (R : Ending → Hp → Prop) : Hp → Prop :=
  BR ((↑l2 : Int) != (↑l5 : Int))
    (R (.returned (.bool false)))
    (L_ref10_Ints_0 W R x1 l2 c3 x4 l5 c6 false 0)
theorem T_ref10_Ints_eq (W : World) (x1 : Option Addr) (l2 : Nat) (c3 : Nat) (x4 : Option Addr) (l5 : Nat) (c6 : Nat) (R : Ending → Hp → Prop) : vfun Pg W an_31 Try.f31 [(.slice x1 l2 c3), (.slice x4 l5 c6)] R = T_ref10_Ints W x1 l2 c3 x4 l5 c6 R := by kernel_rfl
theorem does_ref10_Ints (W : World) (x1 : Option Addr) (l2 : Nat) (c3 : Nat) (x4 : Option Addr) (l5 : Nat) (c6 : Nat) (R : Ending → Hp → Prop) (s : Hp) (h : T_ref10_Ints W x1 l2 c3 x4 l5 c6 R s) : Does Pg W F_ref10_Ints #[(.slice x1 l2 c3), (.slice x4 l5 c6)] s R :=
  does_of_vfun Pg W an_31 Try.func31 rfl (by kernel_rfl) (by rw [T_ref10_Ints_eq]; exact h)
def an_37 : Nat → Ann := fun b => match b with
  | 0 => { ms := [7], ks := [.i .i64], us := [1, 2, 3, 6, 34], rt := false, ex := [] }
  | _ => {}
abbrev rv_37 : List ResultVar := [.cell 6 29]
abbrev rs_37 : List Nat := [34, 6]
def L_ref10_Points_0 (W : World) (R : Ending → Hp → Prop) (zn0 : Int) (zn1 : Int) (za2 : Addr) (za3 : Addr) (n13 : Int) : Hp → Prop :=
  LOOPN [.i .i64] (fun ys next s => ∀ j : Tm, vc Pg W 34 rs_37 an_37 false (sub (bodyOf Try.f37) [1, 0, 1, 0, 0]) 0 (KLoop [7] [1, 2, 3, 6, 34] [(.int .i64 zn0), (.int .i64 zn1), (.pointer (some za2)), (.pointer (some za3)), (.tuple #[])] next (KBlk 0 (KS Pg W 34 rs_37 an_37 false (sub (bodyOf Try.f37) [1, 1]) 0 (fin Pg W 34 rv_37 R)))) (known [7] ys (known [1, 2, 3, 6, 34] [(.int .i64 zn0), (.int .i64 zn1), (.pointer (some za2)), (.pointer (some za3)), (.tuple #[])] j)) s) [(.int .i64 n13)]
def J_ref10_Points_0 (W : World) (R : Ending → Hp → Prop) (b28 : Bool) (B25 : Nat) (za3 : Addr) (zn0 : Int) (zn1 : Int) (za2 : Addr) (nx0 : List Value → Hp → Prop) (n13 : Int) : Hp → Prop :=
  BR b28
    (RDI .i64 (Addr.add (Addr.add ⟨B25, 0, none⟩ 2) 0) fun n29 =>
      RDI .i64 (Addr.add (Addr.add ⟨B25, 0, none⟩ 2) 1) fun n30 =>
        WR (Addr.add za3 0) (.int .i64 n29) <|
          WR (Addr.add za3 1) (.int .i64 n30) <|
            RDI .i64 (Addr.add za3 0) fun n31 =>
              RDI .i64 (Addr.add za3 1) fun n32 =>
                R (.returned (.agg #[(.int .i64 n31), (.int .i64 n32)])))
    (NX [(.int .i64 zn0), (.int .i64 zn1), (.pointer (some za2)), (.pointer (some za3)), (.tuple #[])] [(.int .i64 zn0), (.int .i64 zn1), (.pointer (some za2)), (.pointer (some za3)), (.tuple #[])] (nx0 [(.int .i64 (IntKind.wrap .i64 (n13 + 1)))]))
def B_ref10_Points_0 (W : World) (R : Ending → Hp → Prop) (zn0 : Int) (zn1 : Int) (za2 : Addr) (za3 : Addr) (n13 : Int) (nx0 : List Value → Hp → Prop) : Hp → Prop :=
  RDL (Addr.add za2 3) fun x14 l15 c16 =>
    BR (decide (n13 < (↑l15 : Int)))
      (RDL (Addr.add za2 3) fun x17 l18 c19 =>
        IXS x17 l18 n13 4 fun a20 =>
          RDI .i64 (Addr.add a20 0) fun n21 =>
            RDI .i64 (Addr.add a20 1) fun n22 =>
              RDI .i64 (Addr.add a20 2) fun n23 =>
                RDI .i64 (Addr.add a20 3) fun n24 =>
                  NEWZ Pg 55 fun B25 =>
                    WR (Addr.add ⟨B25, 0, none⟩ 0) (.int .i64 n21) <|
                      WR (Addr.add ⟨B25, 0, none⟩ 1) (.int .i64 n22) <|
                        WR (Addr.add ⟨B25, 0, none⟩ 2) (.int .i64 n23) <|
                          WR (Addr.add ⟨B25, 0, none⟩ 3) (.int .i64 n24) <|
                            RDI .i64 (Addr.add ⟨B25, 0, none⟩ 0) fun n26 =>
                              BR (n26 == zn0)
                                (RDI .i64 (Addr.add ⟨B25, 0, none⟩ 1) fun n27 =>
                                  J_ref10_Points_0 W R (n27 == zn1) B25 za3 zn0 zn1 za2 nx0 n13)
                                (J_ref10_Points_0 W R false B25 za3 zn0 zn1 za2 nx0 n13))
      (WR (Addr.add za3 0) (.int .i64 0) <|
        WR (Addr.add za3 1) (.int .i64 40) <|
          RDI .i64 (Addr.add za3 0) fun n33 =>
            RDI .i64 (Addr.add za3 1) fun n34 =>
              R (.returned (.agg #[(.int .i64 n33), (.int .i64 n34)])))
theorem B_ref10_Points_0_eq (W : World) (R : Ending → Hp → Prop) (zn0 : Int) (zn1 : Int) (za2 : Addr) (za3 : Addr) (n13 : Int) (nx0 : List Value → Hp → Prop) (j : Tm) : vc Pg W 34 rs_37 an_37 false (sub (bodyOf Try.f37) [1, 0, 1, 0, 0]) 0 (KLoop [7] [1, 2, 3, 6, 34] [(.int .i64 zn0), (.int .i64 zn1), (.pointer (some za2)), (.pointer (some za3)), (.tuple #[])] nx0 (KBlk 0 (KS Pg W 34 rs_37 an_37 false (sub (bodyOf Try.f37) [1, 1]) 0 (fin Pg W 34 rv_37 R)))) (known [7] [(.int .i64 n13)] (known [1, 2, 3, 6, 34] [(.int .i64 zn0), (.int .i64 zn1), (.pointer (some za2)), (.pointer (some za3)), (.tuple #[])] j)) = B_ref10_Points_0 W R zn0 zn1 za2 za3 n13 nx0 := by kernel_rfl
def N_ref10_Points_0 (I : Int → Hp → Prop) (μ : Int → Hp → Nat) (n130 : Int) (s : Hp) (vs : List Value) : Hp → Prop := fun s' => ∃ n13, vs = [(.int .i64 n13)] ∧ I n13 s' ∧ μ n13 s' < μ n130 s
theorem L_ref10_Points_0_rule (W : World) (R : Ending → Hp → Prop) (zn0 : Int) (zn1 : Int) (za2 : Addr) (za3 : Addr) (I : Int → Hp → Prop) (μ : Int → Hp → Nat) (n130 : Int) (s : Hp) (h0 : I n130 s)
    (hr : ∀ (n13 : Int) (s : Hp), I n13 s → B_ref10_Points_0 W R zn0 zn1 za2 za3 n13 (fun vs => N_ref10_Points_0 I μ n13 s vs) s) : L_ref10_Points_0 W R zn0 zn1 za2 za3 n130 s := by
  refine ⟨fun vs s => ∃ n13, vs = [(.int .i64 n13)] ∧ I n13 s, fun vs s => (match vs with | [.int _ n13] => μ n13 s | _ => 0), ⟨⟨⟨_, rfl⟩, trivial⟩, ⟨_, rfl, h0⟩⟩, ?_⟩
  intro n13 s hI j
  obtain ⟨n13', hy, hI⟩ := hI
  have hI' : I n13 s := by cases hy; exact hI
  have hh := hr n13 s hI'
  rw [← B_ref10_Points_0_eq W R zn0 zn1 za2 za3 n13 _ j] at hh
  refine vc_mono ?_ _ _ hh
  exact KLoop_mono (fun vs s' h => by obtain ⟨n131, rfl, h1, h2⟩ := h; exact ⟨⟨⟨_, rfl⟩, trivial⟩, ⟨_, rfl, h1⟩, h2⟩)
def T_ref10_Points (W : World) (n1 : Int) (n2 : Int) (x3 : Option Addr) (l4 : Nat) (c5 : Nat) (x6 : Option Addr) (l7 : Nat) (c8 : Nat) (n9 : Int) (n10 : Int) (R : Ending → Hp → Prop) : Hp → Prop :=
  NEW 25 [(.int .i64 n1), (.int .i64 n2), (.slice x3 l4 c5), (.slice x6 l7 c8)] fun B11 =>
    NEWZ Pg 29 fun B12 =>
      L_ref10_Points_0 W R n9 n10 ⟨B11, 0, none⟩ ⟨B12, 0, none⟩ 0
theorem T_ref10_Points_eq (W : World) (n1 : Int) (n2 : Int) (x3 : Option Addr) (l4 : Nat) (c5 : Nat) (x6 : Option Addr) (l7 : Nat) (c8 : Nat) (n9 : Int) (n10 : Int) (R : Ending → Hp → Prop) : vfun Pg W an_37 Try.f37 [(.agg #[(.int .i64 n1), (.int .i64 n2), (.slice x3 l4 c5), (.slice x6 l7 c8)]), (.int .i64 n9), (.int .i64 n10)] R = T_ref10_Points W n1 n2 x3 l4 c5 x6 l7 c8 n9 n10 R := by kernel_rfl
theorem does_ref10_Points (W : World) (n1 : Int) (n2 : Int) (x3 : Option Addr) (l4 : Nat) (c5 : Nat) (x6 : Option Addr) (l7 : Nat) (c8 : Nat) (n9 : Int) (n10 : Int) (R : Ending → Hp → Prop) (s : Hp) (h : T_ref10_Points W n1 n2 x3 l4 c5 x6 l7 c8 n9 n10 R s) : Does Pg W F_ref10_Points #[(.agg #[(.int .i64 n1), (.int .i64 n2), (.slice x3 l4 c5), (.slice x6 l7 c8)]), (.int .i64 n9), (.int .i64 n10)] s R :=
  does_of_vfun Pg W an_37 Try.func37 rfl (by kernel_rfl) (by rw [T_ref10_Points_eq]; exact h)
def an_38 : Nat → Ann := fun b => match b with
  | 0 => { ms := [0, 3], ks := [.i .i64, .i .i64], us := [13], rt := false, ex := [] }
  | _ => {}
abbrev rv_38 : List ResultVar := [.tmp 2]
abbrev rs_38 : List Nat := [13, 2]
def L_ref10_Size_0 (W : World) (R : Ending → Hp → Prop) (n2 : Int) (n3 : Int) : Hp → Prop :=
  LOOPN [.i .i64, .i .i64] (fun ys next s => ∀ j : Tm, vc Pg W 13 rs_38 an_38 false (sub (bodyOf Try.f38) [1, 1, 0, 0, 0]) 0 (KLoop [0, 3] [13] [(.tuple #[])] next (KBlk 0 (KS Pg W 13 rs_38 an_38 false (sub (bodyOf Try.f38) [1, 1, 1]) 0 (fin Pg W 13 rv_38 R)))) (known [0, 3] ys (known [13] [(.tuple #[])] j)) s) [(.int .i64 n2), (.int .i64 n3)]
def B_ref10_Size_0 (W : World) (R : Ending → Hp → Prop) (n2 : Int) (n3 : Int) (nx0 : List Value → Hp → Prop) : Hp → Prop :=
  BR (decide (n2 > 0))
    (NX [(.tuple #[])] [(.tuple #[])] (nx0 [(.int .i64 (IntKind.wrap .i64 (Int.tdiv n2 2))), (.int .i64 (IntKind.wrap .i64 (n3 + (Int.tmod n2 2))))]))
    (R (.returned (.int .i64 n3)))
theorem B_ref10_Size_0_eq (W : World) (R : Ending → Hp → Prop) (n2 : Int) (n3 : Int) (nx0 : List Value → Hp → Prop) (j : Tm) : vc Pg W 13 rs_38 an_38 false (sub (bodyOf Try.f38) [1, 1, 0, 0, 0]) 0 (KLoop [0, 3] [13] [(.tuple #[])] nx0 (KBlk 0 (KS Pg W 13 rs_38 an_38 false (sub (bodyOf Try.f38) [1, 1, 1]) 0 (fin Pg W 13 rv_38 R)))) (known [0, 3] [(.int .i64 n2), (.int .i64 n3)] (known [13] [(.tuple #[])] j)) = B_ref10_Size_0 W R n2 n3 nx0 := by kernel_rfl
def N_ref10_Size_0 (I : Int → Int → Hp → Prop) (μ : Int → Int → Hp → Nat) (n20 : Int) (n30 : Int) (s : Hp) (vs : List Value) : Hp → Prop := fun s' => ∃ n2 n3, vs = [(.int .i64 n2), (.int .i64 n3)] ∧ I n2 n3 s' ∧ μ n2 n3 s' < μ n20 n30 s
theorem L_ref10_Size_0_rule (W : World) (R : Ending → Hp → Prop) (I : Int → Int → Hp → Prop) (μ : Int → Int → Hp → Nat) (n20 : Int) (n30 : Int) (s : Hp) (h0 : I n20 n30 s)
    (hr : ∀ (n2 : Int) (n3 : Int) (s : Hp), I n2 n3 s → B_ref10_Size_0 W R n2 n3 (fun vs => N_ref10_Size_0 I μ n2 n3 s vs) s) : L_ref10_Size_0 W R n20 n30 s := by
  refine ⟨fun vs s => ∃ n2 n3, vs = [(.int .i64 n2), (.int .i64 n3)] ∧ I n2 n3 s, fun vs s => (match vs with | [.int _ n2, .int _ n3] => μ n2 n3 s | _ => 0), ⟨⟨⟨_, rfl⟩, ⟨⟨_, rfl⟩, trivial⟩⟩, ⟨_, _, rfl, h0⟩⟩, ?_⟩
  intro n2 n3 s hI j
  obtain ⟨n2', n3', hy, hI⟩ := hI
  have hI' : I n2 n3 s := by cases hy; exact hI
  have hh := hr n2 n3 s hI'
  rw [← B_ref10_Size_0_eq W R n2 n3 _ j] at hh
  refine vc_mono ?_ _ _ hh
  exact KLoop_mono (fun vs s' h => by obtain ⟨n21, n31, rfl, h1, h2⟩ := h; exact ⟨⟨⟨_, rfl⟩, ⟨⟨_, rfl⟩, trivial⟩⟩, ⟨_, _, rfl, h1⟩, h2⟩)
def T_ref10_Size (W : World) (n1 : Int) (R : Ending → Hp → Prop) : Hp → Prop :=
  L_ref10_Size_0 W R n1 0
theorem T_ref10_Size_eq (W : World) (n1 : Int) (R : Ending → Hp → Prop) : vfun Pg W an_38 Try.f38 [(.int .i64 n1)] R = T_ref10_Size W n1 R := by kernel_rfl
theorem does_ref10_Size (W : World) (n1 : Int) (R : Ending → Hp → Prop) (s : Hp) (h : T_ref10_Size W n1 R s) : Does Pg W F_ref10_Size #[(.int .i64 n1)] s R :=
  does_of_vfun Pg W an_38 Try.func38 rfl (by kernel_rfl) (by rw [T_ref10_Size_eq]; exact h)
def an_40 : Nat → Ann := fun b => match b with
  | 0 => { ms := [10], ks := [.i .i64], us := [1, 2, 3, 4, 8, 9, 60], rt := false, ex := [] }
  | _ => {}
abbrev rv_40 : List ResultVar := [.cell 8 25]
abbrev rs_40 : List Nat := [60, 8]
def L_ref10_With_0 (W : World) (R : Ending → Hp → Prop) (zn0 : Int) (zn1 : Int) (zn2 : Int) (za3 : Addr) (za4 : Addr) (za5 : Addr) (n23 : Int) : Hp → Prop :=
  LOOPN [.i .i64] (fun ys next s => ∀ j : Tm, vc Pg W 60 rs_40 an_40 false (sub (bodyOf Try.f40) [1, 1, 1, 0, 1, 0, 0]) 0 (KLoop [10] [1, 2, 3, 4, 8, 9, 60] [(.int .i64 zn0), (.int .i64 zn1), (.int .i64 zn2), (.pointer (some za3)), (.pointer (some za4)), (.pointer (some za5)), (.tuple #[])] next (KBlk 0 (KS Pg W 60 rs_40 an_40 false (sub (bodyOf Try.f40) [1, 1, 1, 1]) 0 (fin Pg W 60 rv_40 R)))) (known [10] ys (known [1, 2, 3, 4, 8, 9, 60] [(.int .i64 zn0), (.int .i64 zn1), (.int .i64 zn2), (.pointer (some za3)), (.pointer (some za4)), (.pointer (some za5)), (.tuple #[])] j)) s) [(.int .i64 n23)]
def J_ref10_With_0 (W : World) (R : Ending → Hp → Prop) (zn0 : Int) (zn1 : Int) (zn2 : Int) (za3 : Addr) (za4 : Addr) (za5 : Addr) (nx0 : List Value → Hp → Prop) (n23 : Int) : Hp → Prop :=
  NX [(.int .i64 zn0), (.int .i64 zn1), (.int .i64 zn2), (.pointer (some za3)), (.pointer (some za4)), (.pointer (some za5)), (.tuple #[])] [(.int .i64 zn0), (.int .i64 zn1), (.int .i64 zn2), (.pointer (some za3)), (.pointer (some za4)), (.pointer (some za5)), (.tuple #[])] (nx0 [(.int .i64 (IntKind.wrap .i64 (n23 + 1)))])
def J_ref10_With_1 (W : World) (R : Ending → Hp → Prop) (b32 : Bool) (za5 : Addr) (za3 : Addr) (n23 : Int) (zn0 : Int) (zn1 : Int) (zn2 : Int) (za4 : Addr) (nx0 : List Value → Hp → Prop) : Hp → Prop :=
  BR b32
    (RDL (Addr.add za5 3) fun x33 l34 c35 =>
      RDL (Addr.add za3 3) fun x36 l37 c38 =>
        IXS x36 l37 n23 4 fun a39 =>
          RDI .i64 (Addr.add a39 0) fun n40 =>
            RDI .i64 (Addr.add a39 1) fun n41 =>
              RDI .i64 (Addr.add a39 2) fun n42 =>
                RDI .i64 (Addr.add a39 3) fun n43 =>
                  NEW 55 [(.int .i64 n40), (.int .i64 n41), (.int .i64 n42), (.int .i64 n43)] fun B44 =>
                    ANDS (RDL (Addr.add za5 3) fun x45 l46 c47 =>
                      fun _ => ((.slice x45 l46 c47) : Value) = (.slice x33 l34 c35)) <|
                      APP Pg 55 4 x33 l34 c35 (some ⟨B44, 0, none⟩) 1 fun x48 l49 c50 =>
                        WR (Addr.add (Addr.add za5 3) 0) (.slice x48 l49 c50) <|
                          J_ref10_With_0 W R zn0 zn1 zn2 za3 za4 za5 nx0 n23)
    (J_ref10_With_0 W R zn0 zn1 zn2 za3 za4 za5 nx0 n23)
def B_ref10_With_0 (W : World) (R : Ending → Hp → Prop) (zn0 : Int) (zn1 : Int) (zn2 : Int) (za3 : Addr) (za4 : Addr) (za5 : Addr) (n23 : Int) (nx0 : List Value → Hp → Prop) : Hp → Prop :=
  RDL (Addr.add za3 3) fun x24 l25 c26 =>
    BR (decide (n23 < (↑l25 : Int)))
      (RDL (Addr.add za3 3) fun x27 l28 c29 =>
        IXS x27 l28 n23 4 fun a30 =>
          RDI .i64 (Addr.add a30 0) fun n31 =>
            BR (n31 != zn0)
              (J_ref10_With_1 W R true za5 za3 n23 zn0 zn1 zn2 za4 nx0)
              (RDL (Addr.add za3 3) fun x51 l52 c53 =>
                IXS x51 l52 n23 4 fun a54 =>
                  RDI .i64 (Addr.add a54 1) fun n55 =>
                    J_ref10_With_1 W R (n55 != zn1) za5 za3 n23 zn0 zn1 zn2 za4 nx0))
      (RDL (Addr.add za5 3) fun x56 l57 c58 =>
        NEW 55 [(.int .i64 zn0), (.int .i64 zn1), (.int .i64 zn2), (.int .i64 zn2)] fun B59 =>
          APP Pg 55 4 x56 l57 c58 (some ⟨B59, 0, none⟩) 1 fun x60 l61 c62 =>
            WR (Addr.add (Addr.add za5 3) 0) (.slice x60 l61 c62) <|
              RDI .i64 (Addr.add za5 0) fun n63 =>
                RDI .i64 (Addr.add za5 1) fun n64 =>
                  RDL (Addr.add za5 2) fun x65 l66 c67 =>
                    RDL (Addr.add za5 3) fun x68 l69 c70 =>
                      WR (Addr.add za4 0) (.int .i64 n63) <|
                        WR (Addr.add za4 1) (.int .i64 n64) <|
                          WR (Addr.add za4 2) (.slice x65 l66 c67) <|
                            WR (Addr.add za4 3) (.slice x68 l69 c70) <|
                              RDI .i64 (Addr.add za4 0) fun n71 =>
                                RDI .i64 (Addr.add za4 1) fun n72 =>
                                  RDL (Addr.add za4 2) fun x73 l74 c75 =>
                                    RDL (Addr.add za4 3) fun x76 l77 c78 =>
                                      R (.returned (.agg #[(.int .i64 n71), (.int .i64 n72), (.slice x73 l74 c75), (.slice x76 l77 c78)])))
theorem B_ref10_With_0_eq (W : World) (R : Ending → Hp → Prop) (zn0 : Int) (zn1 : Int) (zn2 : Int) (za3 : Addr) (za4 : Addr) (za5 : Addr) (n23 : Int) (nx0 : List Value → Hp → Prop) (j : Tm) : vc Pg W 60 rs_40 an_40 false (sub (bodyOf Try.f40) [1, 1, 1, 0, 1, 0, 0]) 0 (KLoop [10] [1, 2, 3, 4, 8, 9, 60] [(.int .i64 zn0), (.int .i64 zn1), (.int .i64 zn2), (.pointer (some za3)), (.pointer (some za4)), (.pointer (some za5)), (.tuple #[])] nx0 (KBlk 0 (KS Pg W 60 rs_40 an_40 false (sub (bodyOf Try.f40) [1, 1, 1, 1]) 0 (fin Pg W 60 rv_40 R)))) (known [10] [(.int .i64 n23)] (known [1, 2, 3, 4, 8, 9, 60] [(.int .i64 zn0), (.int .i64 zn1), (.int .i64 zn2), (.pointer (some za3)), (.pointer (some za4)), (.pointer (some za5)), (.tuple #[])] j)) = B_ref10_With_0 W R zn0 zn1 zn2 za3 za4 za5 n23 nx0 := by kernel_rfl
def N_ref10_With_0 (I : Int → Hp → Prop) (μ : Int → Hp → Nat) (n230 : Int) (s : Hp) (vs : List Value) : Hp → Prop := fun s' => ∃ n23, vs = [(.int .i64 n23)] ∧ I n23 s' ∧ μ n23 s' < μ n230 s
theorem L_ref10_With_0_rule (W : World) (R : Ending → Hp → Prop) (zn0 : Int) (zn1 : Int) (zn2 : Int) (za3 : Addr) (za4 : Addr) (za5 : Addr) (I : Int → Hp → Prop) (μ : Int → Hp → Nat) (n230 : Int) (s : Hp) (h0 : I n230 s)
    (hr : ∀ (n23 : Int) (s : Hp), I n23 s → B_ref10_With_0 W R zn0 zn1 zn2 za3 za4 za5 n23 (fun vs => N_ref10_With_0 I μ n23 s vs) s) : L_ref10_With_0 W R zn0 zn1 zn2 za3 za4 za5 n230 s := by
  refine ⟨fun vs s => ∃ n23, vs = [(.int .i64 n23)] ∧ I n23 s, fun vs s => (match vs with | [.int _ n23] => μ n23 s | _ => 0), ⟨⟨⟨_, rfl⟩, trivial⟩, ⟨_, rfl, h0⟩⟩, ?_⟩
  intro n23 s hI j
  obtain ⟨n23', hy, hI⟩ := hI
  have hI' : I n23 s := by cases hy; exact hI
  have hh := hr n23 s hI'
  rw [← B_ref10_With_0_eq W R zn0 zn1 zn2 za3 za4 za5 n23 _ j] at hh
  refine vc_mono ?_ _ _ hh
  exact KLoop_mono (fun vs s' h => by obtain ⟨n231, rfl, h1, h2⟩ := h; exact ⟨⟨⟨_, rfl⟩, trivial⟩, ⟨_, rfl, h1⟩, h2⟩)
def T_ref10_With (W : World) (n1 : Int) (n2 : Int) (x3 : Option Addr) (l4 : Nat) (c5 : Nat) (x6 : Option Addr) (l7 : Nat) (c8 : Nat) (n9 : Int) (n10 : Int) (n11 : Int) (R : Ending → Hp → Prop) : Hp → Prop :=
  NEW 25 [(.int .i64 n1), (.int .i64 n2), (.slice x3 l4 c5), (.slice x6 l7 c8)] fun B12 =>
    NEWZ Pg 25 fun B13 =>
      RDI .i64 (Addr.add ⟨B12, 0, none⟩ 0) fun n14 =>
        RDI .i64 (Addr.add ⟨B12, 0, none⟩ 1) fun n15 =>
          RDL (Addr.add ⟨B12, 0, none⟩ 2) fun x16 l17 c18 =>
            RDL (Addr.add ⟨B12, 0, none⟩ 3) fun x19 l20 c21 =>
              NEWZ Pg 25 fun B22 =>
                WR (Addr.add ⟨B22, 0, none⟩ 0) (.int .i64 n14) <|
                  WR (Addr.add ⟨B22, 0, none⟩ 1) (.int .i64 n15) <|
                    WR (Addr.add ⟨B22, 0, none⟩ 2) (.slice x16 l17 c18) <|
                      WR (Addr.add ⟨B22, 0, none⟩ 3) (.slice x19 l20 c21) <|
                        WR (Addr.add (Addr.add ⟨B22, 0, none⟩ 3) 0) (.slice none 0 0) <|
                          L_ref10_With_0 W R n9 n10 n11 ⟨B12, 0, none⟩ ⟨B13, 0, none⟩ ⟨B22, 0, none⟩ 0
theorem T_ref10_With_eq (W : World) (n1 : Int) (n2 : Int) (x3 : Option Addr) (l4 : Nat) (c5 : Nat) (x6 : Option Addr) (l7 : Nat) (c8 : Nat) (n9 : Int) (n10 : Int) (n11 : Int) (R : Ending → Hp → Prop) : vfun Pg W an_40 Try.f40 [(.agg #[(.int .i64 n1), (.int .i64 n2), (.slice x3 l4 c5), (.slice x6 l7 c8)]), (.int .i64 n9), (.int .i64 n10), (.int .i64 n11)] R = T_ref10_With W n1 n2 x3 l4 c5 x6 l7 c8 n9 n10 n11 R := by kernel_rfl
theorem does_ref10_With (W : World) (n1 : Int) (n2 : Int) (x3 : Option Addr) (l4 : Nat) (c5 : Nat) (x6 : Option Addr) (l7 : Nat) (c8 : Nat) (n9 : Int) (n10 : Int) (n11 : Int) (R : Ending → Hp → Prop) (s : Hp) (h : T_ref10_With W n1 n2 x3 l4 c5 x6 l7 c8 n9 n10 n11 R s) : Does Pg W F_ref10_With #[(.agg #[(.int .i64 n1), (.int .i64 n2), (.slice x3 l4 c5), (.slice x6 l7 c8)]), (.int .i64 n9), (.int .i64 n10), (.int .i64 n11)] s R :=
  does_of_vfun Pg W an_40 Try.func40 rfl (by kernel_rfl) (by rw [T_ref10_With_eq]; exact h)
def an_61 : Nat → Ann := fun b => match b with
  | 0 => { ms := [3, 4], ks := [.i .i64, .i .i64], us := [0, 13], rt := false, ex := [] }
  | _ => {}
abbrev rv_61 : List ResultVar := [.tmp 2]
abbrev rs_61 : List Nat := [13, 2]
def L_ref10_power_0 (W : World) (R : Ending → Hp → Prop) (zn0 : Int) (n2 : Int) (n3 : Int) : Hp → Prop :=
  LOOPN [.i .i64, .i .i64] (fun ys next s => ∀ j : Tm, vc Pg W 13 rs_61 an_61 false (sub (bodyOf Try.f61) [1, 1, 0, 1, 0, 0]) 0 (KLoop [3, 4] [0, 13] [(.int .i64 zn0), (.tuple #[])] next (KBlk 0 (KS Pg W 13 rs_61 an_61 false (sub (bodyOf Try.f61) [1, 1, 1]) 0 (fin Pg W 13 rv_61 R)))) (known [3, 4] ys (known [0, 13] [(.int .i64 zn0), (.tuple #[])] j)) s) [(.int .i64 n2), (.int .i64 n3)]
def B_ref10_power_0 (W : World) (R : Ending → Hp → Prop) (zn0 : Int) (n2 : Int) (n3 : Int) (nx0 : List Value → Hp → Prop) : Hp → Prop :=
  BR (decide (n3 < zn0))
    (NX [(.int .i64 zn0), (.tuple #[])] [(.int .i64 zn0), (.tuple #[])] (nx0 [(.int .i64 (IntKind.wrap .i64 (2 * n2))), (.int .i64 (IntKind.wrap .i64 (n3 + 1)))]))
    (R (.returned (.int .i64 n2)))
theorem B_ref10_power_0_eq (W : World) (R : Ending → Hp → Prop) (zn0 : Int) (n2 : Int) (n3 : Int) (nx0 : List Value → Hp → Prop) (j : Tm) : vc Pg W 13 rs_61 an_61 false (sub (bodyOf Try.f61) [1, 1, 0, 1, 0, 0]) 0 (KLoop [3, 4] [0, 13] [(.int .i64 zn0), (.tuple #[])] nx0 (KBlk 0 (KS Pg W 13 rs_61 an_61 false (sub (bodyOf Try.f61) [1, 1, 1]) 0 (fin Pg W 13 rv_61 R)))) (known [3, 4] [(.int .i64 n2), (.int .i64 n3)] (known [0, 13] [(.int .i64 zn0), (.tuple #[])] j)) = B_ref10_power_0 W R zn0 n2 n3 nx0 := by kernel_rfl
def N_ref10_power_0 (I : Int → Int → Hp → Prop) (μ : Int → Int → Hp → Nat) (n20 : Int) (n30 : Int) (s : Hp) (vs : List Value) : Hp → Prop := fun s' => ∃ n2 n3, vs = [(.int .i64 n2), (.int .i64 n3)] ∧ I n2 n3 s' ∧ μ n2 n3 s' < μ n20 n30 s
theorem L_ref10_power_0_rule (W : World) (R : Ending → Hp → Prop) (zn0 : Int) (I : Int → Int → Hp → Prop) (μ : Int → Int → Hp → Nat) (n20 : Int) (n30 : Int) (s : Hp) (h0 : I n20 n30 s)
    (hr : ∀ (n2 : Int) (n3 : Int) (s : Hp), I n2 n3 s → B_ref10_power_0 W R zn0 n2 n3 (fun vs => N_ref10_power_0 I μ n2 n3 s vs) s) : L_ref10_power_0 W R zn0 n20 n30 s := by
  refine ⟨fun vs s => ∃ n2 n3, vs = [(.int .i64 n2), (.int .i64 n3)] ∧ I n2 n3 s, fun vs s => (match vs with | [.int _ n2, .int _ n3] => μ n2 n3 s | _ => 0), ⟨⟨⟨_, rfl⟩, ⟨⟨_, rfl⟩, trivial⟩⟩, ⟨_, _, rfl, h0⟩⟩, ?_⟩
  intro n2 n3 s hI j
  obtain ⟨n2', n3', hy, hI⟩ := hI
  have hI' : I n2 n3 s := by cases hy; exact hI
  have hh := hr n2 n3 s hI'
  rw [← B_ref10_power_0_eq W R zn0 n2 n3 _ j] at hh
  refine vc_mono ?_ _ _ hh
  exact KLoop_mono (fun vs s' h => by obtain ⟨n21, n31, rfl, h1, h2⟩ := h; exact ⟨⟨⟨_, rfl⟩, ⟨⟨_, rfl⟩, trivial⟩⟩, ⟨_, _, rfl, h1⟩, h2⟩)
def T_ref10_power (W : World) (n1 : Int) (R : Ending → Hp → Prop) : Hp → Prop :=
  L_ref10_power_0 W R n1 1 0
theorem T_ref10_power_eq (W : World) (n1 : Int) (R : Ending → Hp → Prop) : vfun Pg W an_61 Try.f61 [(.int .i64 n1)] R = T_ref10_power W n1 R := by kernel_rfl
theorem does_ref10_power (W : World) (n1 : Int) (R : Ending → Hp → Prop) (s : Hp) (h : T_ref10_power W n1 R s) : Does Pg W F_ref10_power #[(.int .i64 n1)] s R :=
  does_of_vfun Pg W an_61 Try.func61 rfl (by kernel_rfl) (by rw [T_ref10_power_eq]; exact h)
def an_63 : Nat → Ann := fun b => match b with
  | _ => {}
abbrev rv_63 : List ResultVar := [.tmp 6]
abbrev rs_63 : List Nat := [15, 6]
def T_ref10_in (W : World) (n1 : Int) (n2 : Int) (n3 : Int) (R : Ending → Hp → Prop) : Hp → Prop :=
  BR (decide (n2 ≤ n1))
    (R (.returned (.bool (decide (n1 ≤ n3)))))
    (R (.returned (.bool false)))
theorem T_ref10_in_eq (W : World) (n1 : Int) (n2 : Int) (n3 : Int) (R : Ending → Hp → Prop) : vfun Pg W an_63 Try.f63 [(.int .i64 n1), (.int .i64 n2), (.int .i64 n3)] R = T_ref10_in W n1 n2 n3 R := by kernel_rfl
theorem does_ref10_in (W : World) (n1 : Int) (n2 : Int) (n3 : Int) (R : Ending → Hp → Prop) (s : Hp) (h : T_ref10_in W n1 n2 n3 R s) : Does Pg W F_ref10_in #[(.int .i64 n1), (.int .i64 n2), (.int .i64 n3)] s R :=
  does_of_vfun Pg W an_63 Try.func63 rfl (by kernel_rfl) (by rw [T_ref10_in_eq]; exact h)
def an_70 : Nat → Ann := fun b => match b with
  | _ => {}
abbrev rv_70 : List ResultVar := [.tmp 4]
abbrev rs_70 : List Nat := [11, 4]
def T_ref10_Has (W : World) (n1 : Int) (n2 : Int) (R : Ending → Hp → Prop) : Hp → Prop :=
  CALL Pg W F_ref10_power [(.int .i64 n2)]
    (fun v3 => TYI .i64 v3 fun n5 =>
      NZI n5 <|
        R (.returned (.bool ((Int.tmod (IntKind.wrap .i64 (Int.tdiv n1 n5)) 2) == 1))))
      (fun e4 => R (.panicked e4))
theorem T_ref10_Has_eq (W : World) (n1 : Int) (n2 : Int) (R : Ending → Hp → Prop) : vfun Pg W an_70 Try.f70 [(.int .i64 n1), (.int .i64 n2)] R = T_ref10_Has W n1 n2 R := by kernel_rfl
theorem does_ref10_Has (W : World) (n1 : Int) (n2 : Int) (R : Ending → Hp → Prop) (s : Hp) (h : T_ref10_Has W n1 n2 R s) : Does Pg W F_ref10_Has #[(.int .i64 n1), (.int .i64 n2)] s R :=
  does_of_vfun Pg W an_70 Try.func70 rfl (by kernel_rfl) (by rw [T_ref10_Has_eq]; exact h)
end Go.Proofs.Ytkgcbfbbcaajpaa.G

/- More of the functions' shallow texts, by gen.py. -/
set_option linter.unusedVariables false
set_option maxRecDepth 100000
namespace Go.Proofs.Ytkgcbfbbcaajpaa.G
open Go.V
def an_13 : Nat → Ann := fun b => match b with
  | _ => {}
abbrev rv_13 : List ResultVar := [.tmp 0]
abbrev rs_13 : List Nat := [128, 0]
def J_law10_awake_0 (W : World) (R : Ending → Hp → Prop) (b346 : Bool) (x238 : Option Addr) (l239 : Nat) (c240 : Nat) (n243 : Int) : Hp → Prop :=
  BR b346
    (NEW 3 [(.int .i64 0), (.int .i64 1), (.int .i64 2)] fun B347 =>
      CALL Pg W F_ref10_Ints [(.slice x238 l239 c240), (.slice (some ⟨B347, 0, none⟩) 3 3)]
        (fun v348 => TYB v348 fun b350 =>
          BR b350
            (R (.returned (.bool (n243 == 0))))
            (R (.returned (.bool false))))
          (fun e349 => R (.panicked e349)))
    (R (.returned (.bool false)))
def J_law10_awake_1 (W : World) (R : Ending → Hp → Prop) (b340 : Bool) (n213 : Int) (x238 : Option Addr) (l239 : Nat) (c240 : Nat) (n243 : Int) : Hp → Prop :=
  BR b340
    (J_law10_awake_0 W R (n213 == 0) x238 l239 c240 n243)
    (J_law10_awake_0 W R false x238 l239 c240 n243)
def J_law10_awake_2 (W : World) (R : Ending → Hp → Prop) (b334 : Bool) (n210 : Int) (n213 : Int) (x238 : Option Addr) (l239 : Nat) (c240 : Nat) (n243 : Int) : Hp → Prop :=
  BR b334
    (J_law10_awake_1 W R (n210 == 17) n213 x238 l239 c240 n243)
    (J_law10_awake_1 W R false n213 x238 l239 c240 n243)
def J_law10_awake_3 (W : World) (R : Ending → Hp → Prop) (b328 : Bool) (n185 : Int) (n210 : Int) (n213 : Int) (x238 : Option Addr) (l239 : Nat) (c240 : Nat) (n243 : Int) : Hp → Prop :=
  BR b328
    (J_law10_awake_2 W R (n185 == 0) n210 n213 x238 l239 c240 n243)
    (J_law10_awake_2 W R false n210 n213 x238 l239 c240 n243)
def J_law10_awake_4 (W : World) (R : Ending → Hp → Prop) (b322 : Bool) (n182 : Int) (n185 : Int) (n210 : Int) (n213 : Int) (x238 : Option Addr) (l239 : Nat) (c240 : Nat) (n243 : Int) : Hp → Prop :=
  BR b322
    (J_law10_awake_3 W R (n182 == 8) n185 n210 n213 x238 l239 c240 n243)
    (J_law10_awake_3 W R false n185 n210 n213 x238 l239 c240 n243)
def J_law10_awake_5 (W : World) (R : Ending → Hp → Prop) (b316 : Bool) (n157 : Int) (n182 : Int) (n185 : Int) (n210 : Int) (n213 : Int) (x238 : Option Addr) (l239 : Nat) (c240 : Nat) (n243 : Int) : Hp → Prop :=
  BR b316
    (J_law10_awake_4 W R (n157 == 0) n182 n185 n210 n213 x238 l239 c240 n243)
    (J_law10_awake_4 W R false n182 n185 n210 n213 x238 l239 c240 n243)
def J_law10_awake_6 (W : World) (R : Ending → Hp → Prop) (b310 : Bool) (b154 : Bool) (n157 : Int) (n182 : Int) (n185 : Int) (n210 : Int) (n213 : Int) (x238 : Option Addr) (l239 : Nat) (c240 : Nat) (n243 : Int) : Hp → Prop :=
  BR b310
    (J_law10_awake_5 W R (!b154) n157 n182 n185 n210 n213 x238 l239 c240 n243)
    (J_law10_awake_5 W R false n157 n182 n185 n210 n213 x238 l239 c240 n243)
def J_law10_awake_7 (W : World) (R : Ending → Hp → Prop) (b304 : Bool) (n129 : Int) (b154 : Bool) (n157 : Int) (n182 : Int) (n185 : Int) (n210 : Int) (n213 : Int) (x238 : Option Addr) (l239 : Nat) (c240 : Nat) (n243 : Int) : Hp → Prop :=
  BR b304
    (J_law10_awake_6 W R (n129 == 0) b154 n157 n182 n185 n210 n213 x238 l239 c240 n243)
    (J_law10_awake_6 W R false b154 n157 n182 n185 n210 n213 x238 l239 c240 n243)
def J_law10_awake_8 (W : World) (R : Ending → Hp → Prop) (b298 : Bool) (n126 : Int) (n129 : Int) (b154 : Bool) (n157 : Int) (n182 : Int) (n185 : Int) (n210 : Int) (n213 : Int) (x238 : Option Addr) (l239 : Nat) (c240 : Nat) (n243 : Int) : Hp → Prop :=
  BR b298
    (J_law10_awake_7 W R (n126 == 7) n129 b154 n157 n182 n185 n210 n213 x238 l239 c240 n243)
    (J_law10_awake_7 W R false n129 b154 n157 n182 n185 n210 n213 x238 l239 c240 n243)
def J_law10_awake_9 (W : World) (R : Ending → Hp → Prop) (b292 : Bool) (n123 : Int) (n126 : Int) (n129 : Int) (b154 : Bool) (n157 : Int) (n182 : Int) (n185 : Int) (n210 : Int) (n213 : Int) (x238 : Option Addr) (l239 : Nat) (c240 : Nat) (n243 : Int) : Hp → Prop :=
  BR b292
    (J_law10_awake_8 W R (n123 == 0) n126 n129 b154 n157 n182 n185 n210 n213 x238 l239 c240 n243)
    (J_law10_awake_8 W R false n126 n129 b154 n157 n182 n185 n210 n213 x238 l239 c240 n243)
def J_law10_awake_10 (W : World) (R : Ending → Hp → Prop) (b286 : Bool) (n97 : Int) (n123 : Int) (n126 : Int) (n129 : Int) (b154 : Bool) (n157 : Int) (n182 : Int) (n185 : Int) (n210 : Int) (n213 : Int) (x238 : Option Addr) (l239 : Nat) (c240 : Nat) (n243 : Int) : Hp → Prop :=
  BR b286
    (J_law10_awake_9 W R (n97 == 0) n123 n126 n129 b154 n157 n182 n185 n210 n213 x238 l239 c240 n243)
    (J_law10_awake_9 W R false n123 n126 n129 b154 n157 n182 n185 n210 n213 x238 l239 c240 n243)
def J_law10_awake_11 (W : World) (R : Ending → Hp → Prop) (b265 : Bool) (B98 : Nat) (n97 : Int) (n123 : Int) (n126 : Int) (n129 : Int) (b154 : Bool) (n157 : Int) (n182 : Int) (n185 : Int) (n210 : Int) (n213 : Int) (x238 : Option Addr) (l239 : Nat) (c240 : Nat) (n243 : Int) : Hp → Prop :=
  BR b265
    (RDI .i64 (Addr.add ⟨B98, 0, none⟩ 0) fun n266 =>
      RDI .i64 (Addr.add ⟨B98, 0, none⟩ 1) fun n267 =>
        CALL Pg W F_law10_span [(.int .i64 1), (.int .i64 3)]
          (fun v268 => AGG v268 fun q270 => HD q270 fun v271 r272 => TYI .i64 v271 fun n273 =>
            HD r272 fun v274 r275 => TYI .i64 v274 fun n276 =>
              NL r275 <|
                ANDS (RDI .i64 (Addr.add ⟨B98, 0, none⟩ 0) fun n279 =>
                  RDI .i64 (Addr.add ⟨B98, 0, none⟩ 1) fun n280 =>
                    fun _ => ((.agg #[(.int .i64 n279), (.int .i64 n280)]) : Value) = (.agg #[(.int .i64 n266), (.int .i64 n267)])) <|
                  J_law10_awake_10 W R ((n266 == n273) && (n267 == n276)) n97 n123 n126 n129 b154 n157 n182 n185 n210 n213 x238 l239 c240 n243)
            (fun e269 => R (.panicked e269)))
    (J_law10_awake_10 W R false n97 n123 n126 n129 b154 n157 n182 n185 n210 n213 x238 l239 c240 n243)
def J_law10_awake_12 (W : World) (R : Ending → Hp → Prop) (b262 : Bool) (n63 : Int) (B98 : Nat) (n97 : Int) (n123 : Int) (n126 : Int) (n129 : Int) (b154 : Bool) (n157 : Int) (n182 : Int) (n185 : Int) (n210 : Int) (n213 : Int) (x238 : Option Addr) (l239 : Nat) (c240 : Nat) (n243 : Int) : Hp → Prop :=
  BR b262
    (J_law10_awake_11 W R (n63 == 0) B98 n97 n123 n126 n129 b154 n157 n182 n185 n210 n213 x238 l239 c240 n243)
    (J_law10_awake_11 W R false B98 n97 n123 n126 n129 b154 n157 n182 n185 n210 n213 x238 l239 c240 n243)
def J_law10_awake_13 (W : World) (R : Ending → Hp → Prop) (b259 : Bool) (n60 : Int) (n63 : Int) (B98 : Nat) (n97 : Int) (n123 : Int) (n126 : Int) (n129 : Int) (b154 : Bool) (n157 : Int) (n182 : Int) (n185 : Int) (n210 : Int) (n213 : Int) (x238 : Option Addr) (l239 : Nat) (c240 : Nat) (n243 : Int) : Hp → Prop :=
  BR b259
    (J_law10_awake_12 W R (n60 == 1) n63 B98 n97 n123 n126 n129 b154 n157 n182 n185 n210 n213 x238 l239 c240 n243)
    (J_law10_awake_12 W R false n63 B98 n97 n123 n126 n129 b154 n157 n182 n185 n210 n213 x238 l239 c240 n243)
def T_law10_awake (W : World) (R : Ending → Hp → Prop) : Hp → Prop :=
  CALL Pg W F_law10_sample []
    (fun v1 => AGG v1 fun q3 => HD q3 fun v4 r5 => TYI .i64 v4 fun n6 =>
      HD r5 fun v7 r8 => TYI .i64 v7 fun n9 =>
        HD r8 fun v10 r11 => TYL v10 fun x12 l13 c14 =>
          HD r11 fun v15 r16 => TYL v15 fun x17 l18 c19 =>
            NL r16 <|
              CALL Pg W F_rank_Sum [(.agg #[(.int .i64 n6), (.int .i64 n9), (.slice x12 l13 c14), (.slice x17 l18 c19)]), (.int .i64 1)]
                (fun v20 => TUP v20 fun q22 => HD q22 fun v23 r24 => AGG v23 fun q25 => HD q25 fun v26 r27 => TYI .i64 v26 fun n28 =>
                  HD r27 fun v29 r30 => TYI .i64 v29 fun n31 =>
                    NL r30 <|
                      HD r24 fun v32 r33 => TYI .i64 v32 fun n34 =>
                        NL r33 <|
                          NEWZ Pg 29 fun B35 =>
                            WR (Addr.add ⟨B35, 0, none⟩ 0) (.int .i64 n28) <|
                              WR (Addr.add ⟨B35, 0, none⟩ 1) (.int .i64 n31) <|
                                CALL Pg W F_law10_sample []
                                  (fun v36 => AGG v36 fun q38 => HD q38 fun v39 r40 => TYI .i64 v39 fun n41 =>
                                    HD r40 fun v42 r43 => TYI .i64 v42 fun n44 =>
                                      HD r43 fun v45 r46 => TYL v45 fun x47 l48 c49 =>
                                        HD r46 fun v50 r51 => TYL v50 fun x52 l53 c54 =>
                                          NL r51 <|
                                            CALL Pg W F_rank_Before [(.agg #[(.int .i64 n41), (.int .i64 n44), (.slice x47 l48 c49), (.slice x52 l53 c54)]), (.int .i64 0), (.int .i64 2)]
                                              (fun v55 => TUP v55 fun q57 => HD q57 fun v58 r59 => TYI .i64 v58 fun n60 =>
                                                HD r59 fun v61 r62 => TYI .i64 v61 fun n63 =>
                                                  NL r62 <|
                                                    CALL Pg W F_law10_sample []
                                                      (fun v64 => AGG v64 fun q66 => HD q66 fun v67 r68 => TYI .i64 v67 fun n69 =>
                                                        HD r68 fun v70 r71 => TYI .i64 v70 fun n72 =>
                                                          HD r71 fun v73 r74 => TYL v73 fun x75 l76 c77 =>
                                                            HD r74 fun v78 r79 => TYL v78 fun x80 l81 c82 =>
                                                              NL r79 <|
                                                                CALL Pg W F_rank_Place [(.agg #[(.int .i64 n69), (.int .i64 n72), (.slice x75 l76 c77), (.slice x80 l81 c82)]), (.int .i64 0)]
                                                                  (fun v83 => TUP v83 fun q85 => HD q85 fun v86 r87 => AGG v86 fun q88 => HD q88 fun v89 r90 => TYI .i64 v89 fun n91 =>
                                                                    HD r90 fun v92 r93 => TYI .i64 v92 fun n94 =>
                                                                      NL r93 <|
                                                                        HD r87 fun v95 r96 => TYI .i64 v95 fun n97 =>
                                                                          NL r96 <|
                                                                            NEWZ Pg 29 fun B98 =>
                                                                              WR (Addr.add ⟨B98, 0, none⟩ 0) (.int .i64 n91) <|
                                                                                WR (Addr.add ⟨B98, 0, none⟩ 1) (.int .i64 n94) <|
                                                                                  CALL Pg W F_law10_sample []
                                                                                    (fun v99 => AGG v99 fun q101 => HD q101 fun v102 r103 => TYI .i64 v102 fun n104 =>
                                                                                      HD r103 fun v105 r106 => TYI .i64 v105 fun n107 =>
                                                                                        HD r106 fun v108 r109 => TYL v108 fun x110 l111 c112 =>
                                                                                          HD r109 fun v113 r114 => TYL v113 fun x115 l116 c117 =>
                                                                                            NL r114 <|
                                                                                              CALL Pg W F_rank_Winners [(.agg #[(.int .i64 n104), (.int .i64 n107), (.slice x110 l111 c112), (.slice x115 l116 c117)])]
                                                                                                (fun v118 => TUP v118 fun q120 => HD q120 fun v121 r122 => TYI .i64 v121 fun n123 =>
                                                                                                  HD r122 fun v124 r125 => TYI .i64 v124 fun n126 =>
                                                                                                    HD r125 fun v127 r128 => TYI .i64 v127 fun n129 =>
                                                                                                      NL r128 <|
                                                                                                        CALL Pg W F_law10_sample []
                                                                                                          (fun v130 => AGG v130 fun q132 => HD q132 fun v133 r134 => TYI .i64 v133 fun n135 =>
                                                                                                            HD r134 fun v136 r137 => TYI .i64 v136 fun n138 =>
                                                                                                              HD r137 fun v139 r140 => TYL v139 fun x141 l142 c143 =>
                                                                                                                HD r140 fun v144 r145 => TYL v144 fun x146 l147 c148 =>
                                                                                                                  NL r145 <|
                                                                                                                    CALL Pg W F_rank_Equal [(.agg #[(.int .i64 n135), (.int .i64 n138), (.slice x141 l142 c143), (.slice x146 l147 c148)]), (.int .i64 0), (.int .i64 2)]
                                                                                                                      (fun v149 => TUP v149 fun q151 => HD q151 fun v152 r153 => TYB v152 fun b154 =>
                                                                                                                        HD r153 fun v155 r156 => TYI .i64 v155 fun n157 =>
                                                                                                                          NL r156 <|
                                                                                                                            CALL Pg W F_law10_sample []
                                                                                                                              (fun v158 => AGG v158 fun q160 => HD q160 fun v161 r162 => TYI .i64 v161 fun n163 =>
                                                                                                                                HD r162 fun v164 r165 => TYI .i64 v164 fun n166 =>
                                                                                                                                  HD r165 fun v167 r168 => TYL v167 fun x169 l170 c171 =>
                                                                                                                                    HD r168 fun v172 r173 => TYL v172 fun x174 l175 c176 =>
                                                                                                                                      NL r173 <|
                                                                                                                                        CALL Pg W F_rank_Could [(.agg #[(.int .i64 n163), (.int .i64 n166), (.slice x169 l170 c171), (.slice x174 l175 c176)]), (.int .i64 2), (.int .i64 1)]
                                                                                                                                          (fun v177 => TUP v177 fun q179 => HD q179 fun v180 r181 => TYI .i64 v180 fun n182 =>
                                                                                                                                            HD r181 fun v183 r184 => TYI .i64 v183 fun n185 =>
                                                                                                                                              NL r184 <|
                                                                                                                                                CALL Pg W F_law10_sample []
                                                                                                                                                  (fun v186 => AGG v186 fun q188 => HD q188 fun v189 r190 => TYI .i64 v189 fun n191 =>
                                                                                                                                                    HD r190 fun v192 r193 => TYI .i64 v192 fun n194 =>
                                                                                                                                                      HD r193 fun v195 r196 => TYL v195 fun x197 l198 c199 =>
                                                                                                                                                        HD r196 fun v200 r201 => TYL v200 fun x202 l203 c204 =>
                                                                                                                                                          NL r201 <|
                                                                                                                                                            CALL Pg W F_rank_Need [(.agg #[(.int .i64 n191), (.int .i64 n194), (.slice x197 l198 c199), (.slice x202 l203 c204)]), (.int .i64 1), (.int .i64 1), (.int .i64 1)]
                                                                                                                                                              (fun v205 => TUP v205 fun q207 => HD q207 fun v208 r209 => TYI .i64 v208 fun n210 =>
                                                                                                                                                                HD r209 fun v211 r212 => TYI .i64 v211 fun n213 =>
                                                                                                                                                                  NL r212 <|
                                                                                                                                                                    CALL Pg W F_law10_sample []
                                                                                                                                                                      (fun v214 => AGG v214 fun q216 => HD q216 fun v217 r218 => TYI .i64 v217 fun n219 =>
                                                                                                                                                                        HD r218 fun v220 r221 => TYI .i64 v220 fun n222 =>
                                                                                                                                                                          HD r221 fun v223 r224 => TYL v223 fun x225 l226 c227 =>
                                                                                                                                                                            HD r224 fun v228 r229 => TYL v228 fun x230 l231 c232 =>
                                                                                                                                                                              NL r229 <|
                                                                                                                                                                                CALL Pg W F_rank_Order [(.agg #[(.int .i64 n219), (.int .i64 n222), (.slice x225 l226 c227), (.slice x230 l231 c232)])]
                                                                                                                                                                                  (fun v233 => TUP v233 fun q235 => HD q235 fun v236 r237 => TYL v236 fun x238 l239 c240 =>
                                                                                                                                                                                    HD r237 fun v241 r242 => TYI .i64 v241 fun n243 =>
                                                                                                                                                                                      NL r242 <|
                                                                                                                                                                                        RDI .i64 (Addr.add ⟨B35, 0, none⟩ 0) fun n244 =>
                                                                                                                                                                                          RDI .i64 (Addr.add ⟨B35, 0, none⟩ 1) fun n245 =>
                                                                                                                                                                                            CALL Pg W F_law10_span [(.int .i64 30), (.int .i64 38)]
                                                                                                                                                                                              (fun v246 => AGG v246 fun q248 => HD q248 fun v249 r250 => TYI .i64 v249 fun n251 =>
                                                                                                                                                                                                HD r250 fun v252 r253 => TYI .i64 v252 fun n254 =>
                                                                                                                                                                                                  NL r253 <|
                                                                                                                                                                                                    ANDS (RDI .i64 (Addr.add ⟨B35, 0, none⟩ 0) fun n255 =>
                                                                                                                                                                                                      RDI .i64 (Addr.add ⟨B35, 0, none⟩ 1) fun n256 =>
                                                                                                                                                                                                        fun _ => ((.agg #[(.int .i64 n255), (.int .i64 n256)]) : Value) = (.agg #[(.int .i64 n244), (.int .i64 n245)])) <|
                                                                                                                                                                                                      BR ((n244 == n251) && (n245 == n254))
                                                                                                                                                                                                        (J_law10_awake_13 W R (n34 == 0) n60 n63 B98 n97 n123 n126 n129 b154 n157 n182 n185 n210 n213 x238 l239 c240 n243)
                                                                                                                                                                                                        (J_law10_awake_13 W R false n60 n63 B98 n97 n123 n126 n129 b154 n157 n182 n185 n210 n213 x238 l239 c240 n243))
                                                                                                                                                                                                (fun e247 => R (.panicked e247)))
                                                                                                                                                                                    (fun e234 => R (.panicked e234)))
                                                                                                                                                                        (fun e215 => R (.panicked e215)))
                                                                                                                                                                (fun e206 => R (.panicked e206)))
                                                                                                                                                    (fun e187 => R (.panicked e187)))
                                                                                                                                            (fun e178 => R (.panicked e178)))
                                                                                                                                (fun e159 => R (.panicked e159)))
                                                                                                                        (fun e150 => R (.panicked e150)))
                                                                                                            (fun e131 => R (.panicked e131)))
                                                                                                  (fun e119 => R (.panicked e119)))
                                                                                      (fun e100 => R (.panicked e100)))
                                                                    (fun e84 => R (.panicked e84)))
                                                        (fun e65 => R (.panicked e65)))
                                                (fun e56 => R (.panicked e56)))
                                    (fun e37 => R (.panicked e37)))
                  (fun e21 => R (.panicked e21)))
      (fun e2 => R (.panicked e2))
theorem T_law10_awake_eq (W : World) (R : Ending → Hp → Prop) : vfun Pg W an_13 Try.f13 [] R = T_law10_awake W R := by kernel_rfl
theorem does_law10_awake (W : World) (R : Ending → Hp → Prop) (s : Hp) (h : T_law10_awake W R s) : Does Pg W F_law10_awake #[] s R :=
  does_of_vfun Pg W an_13 Try.func13 rfl (by kernel_rfl) (by rw [T_law10_awake_eq]; exact h)
end Go.Proofs.Ytkgcbfbbcaajpaa.G
