import Derived.Test.YtknpmijgdfeliaaC2
/- Lemmas: contracts over the visible heap, and that they are sound; no condition. -/
/- Clock: what tells minutes. -/
set_option linter.unusedSimpArgs false
set_option linter.unusedVariables false
set_option maxRecDepth 20000
namespace Go.Proofs.Ytknpmijgdfeliaa.G
open Go.V
/-- Bounds that are in use. -/
structure OkM (n : Int) (l : List Pr) : Prop where
  key : ∀ i j v, get l (i, j) = some v → (-1 ≤ i ∧ i < n) ∧ (-1 ≤ j ∧ j < n) ∧ i ≠ j
  bnd : Bnd 3000 (get l)
structure PutR (n : Int) (l l' : List Pr) (a b v : Int) : Prop where
  ok : OkM n l'
  le : Le (get l) (get l')
  has : ∃ w, get l' (a, b) = some w ∧ w ≤ v
  sat : ∀ m, Sat (get l') m ↔ Sat (get l) m ∧ m b - m a ≤ v
structure TieR (n : Int) (l l' : List Pr) (a b lo hi : Int) : Prop where
  ok : OkM n l'
  le : Le (get l) (get l')
  has1 : ∃ w, get l' (a, b) = some w ∧ w ≤ hi
  has2 : ∃ w, get l' (b, a) = some w ∧ w ≤ -lo
  sat : ∀ m, Sat (get l') m ↔ Sat (get l) m ∧ lo ≤ m b - m a ∧ m b - m a ≤ hi
section
variable {W : World} {K : VK} {E : List PanicEntry → Hp → Prop} {s : Hp} {r : Nat} {l : List Pr} {n : Int}
theorem c_putR {a b v : Int} (hm : MapL s r l) (ho : OkM n l) (ha : -1 ≤ a ∧ a < n) (hb : -1 ≤ b ∧ b < n) (hne : a ≠ b) (hv : -3000 ≤ v ∧ v ≤ 3000)
    (h : ∀ s' l' x, Kp (· = r) s s' → MapL s' r l' → PutR n l l' a b v → K (.bool x) s') : CALL Pg W F_clock_bounds_put [.map (some r), .agg #[.int .i64 a, .int .i64 b], .int .i64 v] K E s := by
  refine c_put (k := (a, b)) hm (fun s' old hg hle e => ?_) (fun s' hg k m _ => ?_)
  · refine h s' l false e.kp (hm.ext e) ⟨ho, Le.refl _, ⟨old, hg, hle⟩, fun m => ⟨fun hs => ⟨hs, ?_⟩, fun hs => hs.1⟩⟩
    have := hs a b old hg
    omega
  · have hkk := hm.keys
    refine h s' _ true k m ⟨⟨fun i j w hw => ?_, fun q w hw => ?_⟩, ?_, ?_, fun m => ?_⟩
    · rw [get_put hkk] at hw
      split at hw
      · rename_i e; cases e; exact ⟨ha, hb, hne⟩
      · exact ho.key i j w hw
    · rw [get_put hkk] at hw
      split at hw
      · cases hw; exact hv
      · exact ho.bnd q w hw
    · rw [get_updF hkk]; exact Le.upd fun w hw => Int.le_of_lt (hg w hw)
    · exact ⟨v, by rw [get_put hkk, if_pos rfl], Int.le_refl _⟩
    · constructor
      · intro hs
        refine ⟨fun i j w hw => ?_, hs a b v (by rw [get_put hkk, if_pos rfl])⟩
        by_cases e : (i, j) = (a, b)
        · have h1 := hs a b v (by rw [get_put hkk, if_pos rfl])
          cases e
          have := hg w hw
          omega
        · exact hs i j w (by rw [get_put hkk, if_neg e]; exact hw)
      · rintro ⟨hs, h1⟩ i j w hw
        rw [get_put hkk] at hw
        split at hw
        · rename_i e; cases e; cases hw; exact h1
        · exact hs i j w hw
theorem c_tie {a b lo hi : Int} (hm : MapL s r l) (ho : OkM n l) (ha : -1 ≤ a ∧ a < n) (hb : -1 ≤ b ∧ b < n) (hne : a ≠ b) (hlo : -3000 ≤ lo ∧ lo ≤ 3000) (hhi : -3000 ≤ hi ∧ hi ≤ 3000)
    (h : ∀ s' l', Kp (· = r) s s' → MapL s' r l' → TieR n l l' a b lo hi → K (.tuple #[]) s') : CALL Pg W F_clock_bounds_tie [.map (some r), .int .i64 a, .int .i64 b, .agg #[.int .i64 lo, .int .i64 hi]] K E s := by
  refine does_clock_bounds_tie W (some r) a b lo hi _ s ?_
  unfold T_clock_bounds_tie
  refine ne2 fun s1 e1 z1 o1 o2 => ?_
  refine ⟨_, o2.cell, ?_⟩
  have hr1 : s.size ≠ r := by have := hm.lt; omega
  refine c_putR (hm.ext e1) ho ha hb hne hhi fun s2 l2 x k2 m2 p2 => ?_
  try simp only [TUP_mk, AGG_mk, HD_mk, NL_mk, TYI_mk, TYB_mk, TYP_mk, TYL_mk, TYS_mk, TYM_mk, SO_mk, NX_mk, endK_mk, endK_mk', add_0]
  refine ⟨_, (k2.own hr1 o1).cell, ?_⟩
  dsimp only
  rw [wrap_i64 (by omega) (by omega), Int.zero_sub]
  refine c_putR m2 p2.ok hb ha (Ne.symm hne) (by omega) fun s3 l3 x k3 m3 p3 => ?_
  try simp only [TUP_mk, AGG_mk, HD_mk, NL_mk, TYI_mk, TYB_mk, TYP_mk, TYL_mk, TYS_mk, TYM_mk, SO_mk, NX_mk, endK_mk, endK_mk', add_0]
  refine h s3 l3 ((e1.kp.trans k2).trans k3) m3 ⟨p3.ok, p2.le.trans p3.le, ?_, p3.has, fun m => ?_⟩
  · obtain ⟨w, h1, h2⟩ := p2.has
    obtain ⟨w', h3, h4⟩ := p3.le _ _ h1
    exact ⟨w', h3, by omega⟩
  · rw [p3.sat, p2.sat]
    constructor
    · rintro ⟨⟨h1, h2⟩, h3⟩; exact ⟨h1, by omega, h2⟩
    · rintro ⟨h1, h2, h3⟩; exact ⟨⟨h1, h3⟩, by omega⟩
def chV (g : List Go') : Value := .agg #[.int .i64 (g.getD 0 (0, 0)).1, .int .i64 (g.getD 0 (0, 0)).2, .int .i64 (g.getD 1 (0, 0)).1, .int .i64 (g.getD 1 (0, 0)).2]
theorem c_up {g : Go'} {a : Addr} {k : Int} (hc : cellAt s (a.add 1) = some (.int .i64 g.2)) (hr : 900 ≤ g.2 ∧ g.2 ≤ 1100) (hk : 0 ≤ k ∧ k ≤ 3000) (h : K (.int .i64 (upP g k)) s) : CALLV Pg W (.func (.func 104) #[] #[.pointer (some a)]) [.int .i64 k] K E s := by
  refine CALLV_func ?_
  refine does_clock_going_minutes_c1 W k a _ s ?_
  unfold T_clock_going_minutes_c1
  refine ⟨_, hc, _, hc, NZI_pos (by omega) ?_⟩
  have e : IntKind.i64.wrap (Int.tdiv (IntKind.i64.wrap (IntKind.i64.wrap (IntKind.i64.wrap (k * 1000) + g.2) - 1)) g.2) = upP g k := by
    rw [wrap_i64 (n := k * 1000) (by omega) (by omega), wrap_i64 (n := k * 1000 + g.2) (by omega) (by omega), wrap_i64 (n := k * 1000 + g.2 - 1) (by omega) (by omega)]
    rw [Int.tdiv_eq_ediv_of_nonneg (by omega)]
    have h1 : 0 ≤ (k * 1000 + g.2 - 1) / g.2 := Int.ediv_nonneg (by omega) (by omega)
    have h2 : (k * 1000 + g.2 - 1) / g.2 ≤ k * 1000 + g.2 - 1 := Int.ediv_le_self _ (by omega)
    exact wrap_i64 (by omega) (by omega)
  rw [e]
  exact h
theorem wrB {b : Nat} {y0 y1 v0 v1 : Value} {K : Hp → Prop} (o0 : Own s ⟨b, 0, none⟩ y0) (o1 : Own s ⟨b, 1, none⟩ y1) (h0 : oneCell v0 = true) (h1 : oneCell v1 = true) (h : ∀ s', Kp (· = b) s s' → s'.size = s.size → Own s' ⟨b, 0, none⟩ v0 → Own s' ⟨b, 1, none⟩ v1 → K s') :
    WR (Addr.add ⟨b, 0, none⟩ 0) v0 (WR (Addr.add ⟨b, 0, none⟩ 1) v1 K) s := by
  show wrN [v0, v1] ⟨b, 0, none⟩ 0 K s
  refine wrN_rule _ _ 0 K s (fun i hi => ?_) ?_ ?_
  · match i, hi with
    | 0, _ => exact ⟨_, o0⟩
    | 1, _ => exact ⟨_, o1⟩
  · intro w hw
    simp at hw
    rcases hw with rfl | rfl <;> assumption
  · intro s' k z ho _
    exact h s' k z (ho 0 (by simp)) (ho 1 (by simp))
theorem c_minutes {g : Go'} {sh : Int} (hz : 0 ≤ g.1 ∧ g.1 ≤ 1000) (hr : 900 ≤ g.2 ∧ g.2 ≤ 1100) (hs : 0 ≤ sh ∧ sh ≤ 2000) (h : ∀ s', Ext s s' → K (.agg #[.int .i64 (minP g sh).1, .int .i64 (minP g sh).2]) s') : CALL Pg W F_clock_going_minutes [.agg #[.int .i64 g.1, .int .i64 g.2], .int .i64 sh] K E s := by
  refine does_clock_going_minutes W g.1 g.2 sh _ s ?_
  unfold T_clock_going_minutes
  refine ne2 fun s1 e1 z1 o1 o2 => ?_
  refine nz2 zc_34 fun s2 e2 z2 p1 p2 => ?_
  refine ⟨_, (e2.own o1).cell, ?_⟩
  dsimp only
  rw [wrap_i64 (n := sh - g.1) (by omega) (by omega)]
  refine BR_dec (fun hlt => ?_) (fun hge => ?_)
  · refine wrB p1 p2 rfl rfl fun s3 k3 z3 q1 q2 => ⟨_, q1.cell, ⟨_, q2.cell, ?_⟩⟩
    have hh := h s3 (ext_kp (e1.trans e2) (by omega) k3)
    unfold minP at hh
    rw [if_pos hlt] at hh
    exact hh
  · refine c_up (g := g) (a := ⟨s.size, 0, none⟩) (e2.own o2).cell hr (by omega) ?_
    try simp only [TUP_mk, AGG_mk, HD_mk, NL_mk, TYI_mk, TYB_mk, TYP_mk, TYL_mk, TYS_mk, TYM_mk, SO_mk, NX_mk, endK_mk, endK_mk', add_0]
    rw [wrap_i64 (n := sh - g.1 + 1) (by omega) (by omega)]
    refine c_up (g := g) (a := ⟨s.size, 0, none⟩) (e2.own o2).cell hr (by omega) ?_
    try simp only [TUP_mk, AGG_mk, HD_mk, NL_mk, TYI_mk, TYB_mk, TYP_mk, TYL_mk, TYS_mk, TYM_mk, SO_mk, NX_mk, endK_mk, endK_mk', add_0]
    have h2 : upP g (sh - g.1 + 1) ≤ 3000 := (up_le (by omega)).2 (by omega)
    have h3 : 0 ≤ upP g (sh - g.1 + 1) := by unfold upP; exact Int.ediv_nonneg (by omega) (by omega)
    rw [wrap_i64 (n := upP g (sh - g.1 + 1) - 1) (by omega) (by omega)]
    refine wrB p1 p2 rfl rfl fun s3 k3 z3 q1 q2 => ⟨_, q1.cell, ⟨_, q2.cell, ?_⟩⟩
    have hh := h s3 (ext_kp (e1.trans e2) (by omega) k3)
    unfold minP at hh
    rw [if_neg hge] at hh
    exact hh
theorem c_day {e : Int} {g : List Go'} (hm : MapL s r l) (ho : OkM n l) (he : 0 ≤ e ∧ e < n) (h : ∀ s' l', Kp (· = r) s s' → MapL s' r l' → TieR n l l' (-1) e 0 600 → K (.bool true) s') :
    CALL Pg W F_clock_day_tell [.agg #[.int .i64 e], .map (some r), chV g] K E s := by
  unfold chV
  refine does_clock_day_tell W e (some r) _ _ _ _ _ s ?_
  unfold T_clock_day_tell
  refine ne1 fun s1 e1 z1 o1 => ?_
  refine ne4 fun s2 e2 z2 o21 o22 o23 o24 => ?_
  refine ⟨_, (e2.own o1).cell, ?_⟩
  refine c_tie ((hm.ext e1).ext e2) ho (by omega) (by omega) (by omega) (by omega) (by omega) fun s3 l3 k3 m3 t3 => ?_
  try simp only [TUP_mk, AGG_mk, HD_mk, NL_mk, TYI_mk, TYB_mk, TYP_mk, TYL_mk, TYS_mk, TYM_mk, SO_mk, NX_mk, endK_mk, endK_mk', add_0]
  exact h s3 l3 ((e1.trans e2).kp.trans k3) m3 t3
theorem c_link {a b lo hi : Int} {g : List Go'} (hm : MapL s r l) (ho : OkM n l) (ha : 0 ≤ a ∧ a < n) (hb : 0 ≤ b ∧ b < n) (hne : a ≠ b) (hl : -600 ≤ lo ∧ lo ≤ hi ∧ hi ≤ 600) (h : ∀ s' l', Kp (· = r) s s' → MapL s' r l' → TieR n l l' a b lo hi → K (.bool true) s') :
    CALL Pg W F_clock_link_tell [.agg #[.int .i64 a, .int .i64 b, .int .i64 lo, .int .i64 hi], .map (some r), chV g] K E s := by
  unfold chV
  refine does_clock_link_tell W a b lo hi (some r) _ _ _ _ _ s ?_
  unfold T_clock_link_tell
  refine ne4 fun s1 e1 z1 o1 o2 o3 o4 => ?_
  refine ne4 fun s2 e2 z2 o21 o22 o23 o24 => ?_
  refine ⟨_, (e2.own o1).cell, ⟨_, (e2.own o2).cell, ⟨_, (e2.own o3).cell, ⟨_, (e2.own o4).cell, ?_⟩⟩⟩⟩
  refine c_tie ((hm.ext e1).ext e2) ho (by omega) (by omega) hne (by omega) (by omega) fun s3 l3 k3 m3 t3 => ?_
  try simp only [TUP_mk, AGG_mk, HD_mk, NL_mk, TYI_mk, TYB_mk, TYP_mk, TYL_mk, TYS_mk, TYM_mk, SO_mk, NX_mk, endK_mk, endK_mk', add_0]
  exact h s3 l3 ((e1.trans e2).kp.trans k3) m3 t3
theorem c_reading {e wa sh : Int} {g : List Go'} (hm : MapL s r l) (ho : OkM n l) (he : 0 ≤ e ∧ e < n) (hwa : 0 ≤ wa ∧ wa < 2) (hsh : 0 ≤ sh ∧ sh ≤ 2000) (hz : 0 ≤ (g.getD wa.toNat (0, 0)).1 ∧ (g.getD wa.toNat (0, 0)).1 ≤ 1000) (hr : 900 ≤ (g.getD wa.toNat (0, 0)).2 ∧ (g.getD wa.toNat (0, 0)).2 ≤ 1100)
    (h0 : ∀ s', Ext s s' → (minP (g.getD wa.toNat (0, 0)) sh).2 < (minP (g.getD wa.toNat (0, 0)) sh).1 → K (.bool false) s')
    (h : ∀ s' l1 l', Kp (· = r) s s' → MapL s' r l' → TieR n l l1 (-1) e (minP (g.getD wa.toNat (0, 0)) sh).1 (minP (g.getD wa.toNat (0, 0)) sh).2 → TieR n l1 l' (-1) e 0 600 → K (.bool true) s') :
    CALL Pg W F_clock_reading_tell [.agg #[.int .i64 e, .int .i64 wa, .int .i64 sh], .map (some r), chV g] K E s := by
  unfold chV
  refine does_clock_reading_tell W e wa sh (some r) _ _ _ _ _ s ?_
  unfold T_clock_reading_tell
  refine NEW_rule fun s1 e1 z1 n1 _ => ?_
  refine ne4 fun s2 e2 z2 o1 o2 o3 o4 => ?_
  have p1 : Own s2 ⟨s.size, 0, none⟩ (.int .i64 e) := e2.own (n1 0 _ rfl)
  have p2 : Own s2 ⟨s.size, 1, none⟩ (.int .i64 wa) := e2.own (n1 1 _ rfl)
  have p3 : Own s2 ⟨s.size, 2, none⟩ (.int .i64 sh) := e2.own (n1 2 _ rfl)
  refine ⟨_, p2.cell, ?_⟩
  have hgw : ∃ a : Addr, a.block = s1.size ∧ (Addr.add ⟨s1.size, 0, none⟩ (wa.toNat * 2)) = a ∧ Own s2 (a.add 0) (.int .i64 (g.getD wa.toNat (0, 0)).1) ∧ Own s2 (a.add 1) (.int .i64 (g.getD wa.toNat (0, 0)).2) := by
    have : wa = 0 ∨ wa = 1 := by omega
    rcases this with rfl | rfl
    · exact ⟨⟨s1.size, 0, none⟩, rfl, rfl, o1, o2⟩
    · exact ⟨⟨s1.size, 2, none⟩, rfl, rfl, o3, o4⟩
  obtain ⟨a, hab, haa, q1, q2⟩ := hgw
  refine ⟨⟨hwa.1, hwa.2⟩, ?_⟩
  rw [haa]
  generalize hgg : g.getD wa.toNat (0, 0) = gw at *
  refine ⟨_, q1.cell, ⟨_, q2.cell, ⟨_, p3.cell, ?_⟩⟩⟩
  have hr2 : r < s.size := hm.lt
  have hJ : ∀ s3, Ext s2 s3 → ∀ B, s2.size ≤ B → Own s3 ⟨B, 0, none⟩ (.int .i64 (minP gw sh).1) → Own s3 ⟨B, 1, none⟩ (.int .i64 (minP gw sh).2) → J_clock_reading_tell_0 W (endK K E) (some ⟨B, 0, none⟩) s.size (some r) s1.size s3 := by
    intro s3 e3 B hB w1 w2
    have ee := (e1.trans e2).trans e3
    unfold J_clock_reading_tell_0
    refine ⟨_, w1.cell, ⟨_, w2.cell, ?_⟩⟩
    refine BR_dec (fun hgt => h0 s3 ee hgt) (fun hle => ?_)
    refine ⟨_, (e3.own p1).cell, ⟨_, w1.cell, ⟨_, w2.cell, ?_⟩⟩⟩
    have hb := min_bnd hz.1 hr hsh.2 (Int.not_lt.1 hle)
    refine c_tie (hm.ext ee) ho (by omega) (by omega) (by omega) (by omega) (by omega) fun s4 l4 k4 m4 t4 => ?_
    try simp only [TUP_mk, AGG_mk, HD_mk, NL_mk, TYI_mk, TYB_mk, TYP_mk, TYL_mk, TYS_mk, TYM_mk, SO_mk, NX_mk, endK_mk, endK_mk', add_0]
    have hne1 : s.size ≠ r := by omega
    have hne2 : s1.size ≠ r := by omega
    refine ⟨_, (k4.own hne1 (e3.own p1)).cell, ⟨_, (k4.own hne2 (e3.own o1)).cell, ⟨_, (k4.own hne2 (e3.own o2)).cell, ⟨_, (k4.own hne2 (e3.own o3)).cell, ⟨_, (k4.own hne2 (e3.own o4)).cell, ?_⟩⟩⟩⟩⟩
    refine c_day (g := g) m4 t4.ok he fun s5 l5 k5 m5 t5 => ?_
    try simp only [TUP_mk, AGG_mk, HD_mk, NL_mk, TYI_mk, TYB_mk, TYP_mk, TYL_mk, TYS_mk, TYM_mk, SO_mk, NX_mk, endK_mk, endK_mk', add_0]
    exact h s5 l4 l5 ((ee.kp.trans k4).trans k5) m5 t4 t5
  refine CONJ_two ?_ ?_
  · refine c_minutes (g := gw) hz hr hsh fun s3 e3 => ?_
    try simp only [TUP_mk, AGG_mk, HD_mk, NL_mk, TYI_mk, TYB_mk, TYP_mk, TYL_mk, TYS_mk, TYM_mk, SO_mk, NX_mk, endK_mk, endK_mk', add_0]
    refine nz2 zc_34 fun s4 e4 z4 w1 w2 => ?_
    have ee := e3.trans e4
    refine ANDS_i ⟨_, (ee.own p3).cell, rfl⟩ (ANDS_i ⟨_, (ee.own q1).cell, ⟨_, (ee.own q2).cell, rfl⟩⟩ (ANDS_i ⟨_, (ee.own p2).cell, rfl⟩ ?_))
    refine wrB w1 w2 rfl rfl fun s5 k5 z5 v1 v2 => ?_
    exact hJ s5 (ext_kp ee e3.1 k5) s3.size e3.1 v1 v2
  · refine nz2 zc_34 fun s4 e4 z4 w1 w2 => ?_
    refine ANDS_i ⟨_, (e4.own p3).cell, rfl⟩ (ANDS_i ⟨_, (e4.own q1).cell, ⟨_, (e4.own q2).cell, rfl⟩⟩ (ANDS_i ⟨_, (e4.own p2).cell, rfl⟩ ?_))
    refine c_minutes (g := gw) hz hr hsh fun s3 e3 => ?_
    try simp only [TUP_mk, AGG_mk, HD_mk, NL_mk, TYI_mk, TYB_mk, TYP_mk, TYL_mk, TYS_mk, TYM_mk, SO_mk, NX_mk, endK_mk, endK_mk', add_0]
    refine wrB (e3.own w1) (e3.own w2) rfl rfl fun s5 k5 z5 v1 v2 => ?_
    exact hJ s5 (ext_kp (e4.trans e3) (Nat.le_refl _) k5) s2.size (Nat.le_refl _) v1 v2
end
end Go.Proofs.Ytknpmijgdfeliaa.G

/- Clock: how clocks lie; all ways in which watches can go. -/
set_option linter.unusedSimpArgs false
set_option linter.unusedVariables false
set_option maxRecDepth 20000
namespace Go.Proofs.Ytknpmijgdfeliaa.G
open Go.V
def WtAt (s : Hp) (y : Option Addr) (l : List Wt) : Prop := ∀ i, (h : i < l.length) → ∃ a, y = some a ∧ cellAt s ((a.add (i * 4)).add 0) = some (.int .i64 l[i].zlo) ∧ cellAt s ((a.add (i * 4)).add 1) = some (.int .i64 l[i].zhi) ∧ cellAt s ((a.add (i * 4)).add 2) = some (.int .i64 l[i].rlo) ∧ cellAt s ((a.add (i * 4)).add 3) = some (.int .i64 l[i].rhi)
def RdAt (s : Hp) (y : Option Addr) (l : List Rd) : Prop := ∀ i, (h : i < l.length) → ∃ a, y = some a ∧ cellAt s ((a.add (i * 3)).add 0) = some (.int .i64 l[i].ev) ∧ cellAt s ((a.add (i * 3)).add 1) = some (.int .i64 l[i].wa) ∧ cellAt s ((a.add (i * 3)).add 2) = some (.int .i64 l[i].sh)
def LkAt (s : Hp) (y : Option Addr) (l : List Lk) : Prop := ∀ i, (h : i < l.length) → ∃ a, y = some a ∧ cellAt s ((a.add (i * 4)).add 0) = some (.int .i64 l[i].a) ∧ cellAt s ((a.add (i * 4)).add 1) = some (.int .i64 l[i].b) ∧ cellAt s ((a.add (i * 4)).add 2) = some (.int .i64 l[i].lo) ∧ cellAt s ((a.add (i * 4)).add 3) = some (.int .i64 l[i].hi)
/-- Cells stay. -/
def CE (s s' : Hp) : Prop := ∀ a v, cellAt s a = some v → cellAt s' a = some v
theorem CE.ext {s s' : Hp} (e : Ext s s') : CE s s' := fun a v h => e.cell h
theorem CE.blind {s : Hp} {l : Nat} {o : Obj} (hl : s[l]? = some o) : CE (s.setIfInBounds l junk) s := fun a v h => cell_blind hl h
section
variable {s s' : Hp} {y : Option Addr}
theorem WtAt.ce {l : List Wt} (e : CE s s') (h : WtAt s y l) : WtAt s' y l := fun i hi => by
  obtain ⟨a, h0, h1, h2, h3, h4⟩ := h i hi
  exact ⟨a, h0, e _ _ h1, e _ _ h2, e _ _ h3, e _ _ h4⟩
theorem RdAt.ce {l : List Rd} (e : CE s s') (h : RdAt s y l) : RdAt s' y l := fun i hi => by
  obtain ⟨a, h0, h1, h2, h3⟩ := h i hi
  exact ⟨a, h0, e _ _ h1, e _ _ h2, e _ _ h3⟩
theorem LkAt.ce {l : List Lk} (e : CE s s') (h : LkAt s y l) : LkAt s' y l := fun i hi => by
  obtain ⟨a, h0, h1, h2, h3, h4⟩ := h i hi
  exact ⟨a, h0, e _ _ h1, e _ _ h2, e _ _ h3, e _ _ h4⟩
end
/-- A clock as it lies at an address. -/
structure ClA (s : Hp) (p : Addr) (c : Clk) : Prop where
  ws : ∃ x cap, cellAt s (p.add 0) = some (.slice x c.ws.length cap) ∧ WtAt s x c.ws
  n : cellAt s (p.add 1) = some (.int .i64 c.n)
  rs : ∃ x cap, cellAt s (p.add 2) = some (.slice x c.rs.length cap) ∧ RdAt s x c.rs
  ls : ∃ x cap, cellAt s (p.add 3) = some (.slice x c.ls.length cap) ∧ LkAt s x c.ls
/-- A clock that is looked at. -/
structure ClO (s : Hp) (p : Addr) (c : Clk) : Prop extends ClA s p c where
  ok : VdC c
theorem ClA.ce {s s' : Hp} {p : Addr} {c : Clk} (e : CE s s') (h : ClA s p c) : ClA s' p c where
  ws := by obtain ⟨x, cap, h1, h2⟩ := h.ws; exact ⟨x, cap, e _ _ h1, h2.ce e⟩
  n := e _ _ h.n
  rs := by obtain ⟨x, cap, h1, h2⟩ := h.rs; exact ⟨x, cap, e _ _ h1, h2.ce e⟩
  ls := by obtain ⟨x, cap, h1, h2⟩ := h.ls; exact ⟨x, cap, e _ _ h1, h2.ce e⟩
theorem ClO.ce {s s' : Hp} {p : Addr} {c : Clk} (e : CE s s') (h : ClO s p c) : ClO s' p c := ⟨h.toClA.ce e, h.ok⟩
theorem ClO.ext {s s' : Hp} {p : Addr} {c : Clk} (e : Ext s s') (h : ClO s p c) : ClO s' p c := h.ce (CE.ext e)
/-! ### Where a way stands -/
theorem flat_len {α β : Type} {f : α → List β} {M : Nat} : ∀ (l : List α), (∀ x ∈ l, (f x).length = M) → (l.flatMap f).length = l.length * M
  | [], _ => by simp
  | x :: l, h => by
    rw [List.flatMap_cons, List.length_append, h x (by simp), flat_len l (fun y hy => h y (by simp [hy])), List.length_cons, Nat.add_mul]
    omega
theorem flat_get {α β : Type} {f : α → List β} {M : Nat} : ∀ (l : List α), (∀ x ∈ l, (f x).length = M) → ∀ (i : Nat) (hi : i < l.length) (t : Nat), t < M → (l.flatMap f)[i * M + t]? = (f l[i])[t]?
  | [], _, i, hi, _, _ => by simp at hi
  | x :: l, h, 0, _, t, ht => by
    have hx := h x (by simp)
    rw [List.flatMap_cons, Nat.zero_mul, Nat.zero_add, List.getElem?_append_left (by omega)]
    rfl
  | x :: l, h, i + 1, hi, t, ht => by
    have hx := h x (by simp)
    have e : (i + 1) * M + t = M + (i * M + t) := by rw [Nat.add_mul]; omega
    rw [List.flatMap_cons, List.getElem?_append_right (by omega), hx, e, Nat.add_sub_cancel_left, flat_get l (fun y hy => h y (by simp [hy])) i (by simpa using hi) t ht]
    rfl
theorem zs_len {lo hi : Int} : (zs lo hi).length = (hi + 1 - lo).toNat := by unfold zs; simp
theorem zs_get {lo hi : Int} {i : Nat} (h : i < (zs lo hi).length) : (zs lo hi)[i] = lo + (i : Int) := by
  have h' := h
  rw [zs_len] at h'
  rw [List.getElem_eq_iff]
  unfold zs
  rw [List.getElem?_map, List.getElem?_range h']
  rfl
def nr (w : Wt) : Nat := (w.rhi + 1 - w.rlo).toNat
def nz (w : Wt) : Nat := (w.zhi + 1 - w.zlo).toNat
theorem ch_inner {w : Wt} {ws : List Wt} {z : Int} : ((zs w.rlo w.rhi).flatMap fun r => (chL ws).map fun g => (z, r) :: g).length = nr w * (chL ws).length := by
  rw [flat_len (M := (chL ws).length) _ (fun x _ => by simp), zs_len]; rfl
theorem ch_len {w : Wt} {ws : List Wt} : (chL (w :: ws)).length = nz w * (nr w * (chL ws).length) := by
  show (List.flatMap _ _).length = _
  rw [flat_len (M := nr w * (chL ws).length) _ (fun x _ => ch_inner), zs_len]; rfl
theorem ch_get {w : Wt} {ws : List Wt} {i j t : Nat} {g : List Go'} (hi : i < nz w) (hj : j < nr w) (hg : (chL ws)[t]? = some g) : (chL (w :: ws))[i * (nr w * (chL ws).length) + (j * (chL ws).length + t)]? = some ((w.zlo + (i : Int), w.rlo + (j : Int)) :: g) := by
  have ht := (List.getElem?_eq_some_iff.1 hg).1
  have hz : i < (zs w.zlo w.zhi).length := by rw [zs_len]; exact hi
  have hr : j < (zs w.rlo w.rhi).length := by rw [zs_len]; exact hj
  have hlt : j * (chL ws).length + t < nr w * (chL ws).length := by
    have : (j + 1) * (chL ws).length ≤ nr w * (chL ws).length := Nat.mul_le_mul_right _ hj
    rw [Nat.add_mul] at this
    omega
  show (List.flatMap _ _)[_]? = _
  rw [flat_get (M := nr w * (chL ws).length) _ (fun x _ => ch_inner) i hz _ hlt]
  rw [flat_get (M := (chL ws).length) _ (fun x _ => by simp) j hr _ ht]
  rw [List.getElem?_map, hg, zs_get, zs_get]
  rfl
end Go.Proofs.Ytknpmijgdfeliaa.G

/- Clock: the ways in which watches can go, one after the other. -/
set_option linter.unusedSimpArgs false
set_option linter.unusedVariables false
set_option maxRecDepth 20000
namespace Go.Proofs.Ytknpmijgdfeliaa.G
open Go.V
theorem zc_66 : zc Pg 66 = [.int .i64 0, .int .i64 0, .int .i64 0, .int .i64 0] := by kernel_rfl
theorem zc_140 : zc Pg 140 = [.nilFunc] := by kernel_rfl
def ChR (p : Addr) (c : Clk) (a : Addr) (s : Hp) : Prop := ClO s p c ∧ cellAt s a = some (.pointer (some p))
def ChY (c : Clk) (k : Nat) (x : List Value) (s : Hp) : Prop := ∃ g, (chL c.ws)[k]? = some g ∧ x = [chV g]
/-- Nothing of one's own is changed. -/
def Frm (b0 : Nat) (s s' : Hp) : Prop := s.size ≤ s'.size ∧ ∀ b, b0 ≤ b → b < s.size → s'[b]? = s[b]?
theorem Frm.own {b0 : Nat} {s s' : Hp} (h : Frm b0 s s') {a : Addr} {v : Value} (hb : b0 ≤ a.block) (ho : Own s a v) : Own s' a v := ⟨by rw [cell_of_block (h.2 _ hb ho.lt)]; exact ho.1, by rw [frozen_of_block (h.2 _ hb ho.lt)]; exact ho.2⟩
theorem Frm.trans {b0 : Nat} {s s' s'' : Hp} (h : Frm b0 s s') (h' : Frm b0 s' s'') : Frm b0 s s'' := ⟨Nat.le_trans h.1 h'.1, fun b h0 h1 => (h'.2 b h0 (Nat.lt_of_lt_of_le h1 h.1)).trans (h.2 b h0 h1)⟩
theorem Frm.ext {b0 : Nat} {s s' : Hp} (e : Ext s s') : Frm b0 s s' := ⟨e.1, fun b _ h1 => e.2 b h1⟩
section
variable {W : World} {K : VK} {E : List PanicEntry → Hp → Prop} {s : Hp} {p : Addr} {c : Clk}
theorem c_choices (h : ∀ s', Ext s s' → s'.size = s.size + 1 → cellAt s' ⟨s.size, 0, none⟩ = some (.pointer (some p)) → K (.func (.func 82) #[] #[.pointer (some ⟨s.size, 0, none⟩)]) s') : CALL Pg W F_clock_clock_choices [.pointer (some p)] K E s := by
  refine does_clock_clock_choices W (some p) _ s ?_
  unfold T_clock_clock_choices
  refine ne1 fun s1 e1 z1 o1 => ?_
  exact h s1 e1 z1 o1.cell
/-- What the function that lets the watches from one on go does. -/
def OnP (W : World) (c : Clk) (a : Addr) (y : Value) (I : Nat → Hp → Prop) (J : Hp → Prop) (b0 b3 b4 : Nat) (rest : List Wt) : Prop :=
  ∀ (k : Nat) (pre : List Go') (j : Nat) (s1 : Hp), c.ws.drop k = rest → k ≤ c.ws.length → pre.length = k → I j s1 → Own s1 ⟨b3, 0, none⟩ y → Own s1 ⟨b4, 0, none⟩ (.func (.func 83) #[] #[.pointer (some a), .pointer (some ⟨b3, 0, none⟩), .pointer (some ⟨b4, 0, none⟩)]) →
      (∀ t g, (chL rest)[t]? = some g → (chL c.ws)[j + t]? = some (pre ++ g)) →
      ∀ (K : VK) (E : List PanicEntry → Hp → Prop), (∀ s2, Frm b0 s1 s2 → I (j + (chL rest).length) s2 → K (.bool true) s2) → (∀ s2, Frm b0 s1 s2 → J s2 → K (.bool false) s2) →
        CALL Pg W F_clock_clock_choices_c1_c1 [chV pre, .int .i64 (k : Nat), .pointer (some a), .pointer (some ⟨b3, 0, none⟩), .pointer (some ⟨b4, 0, none⟩)] K E s1
theorem on_step {a : Addr} {y : Value} {I : Nat → Hp → Prop} {J : Hp → Prop} {b0 b3 b4 : Nat} {rest : List Wt} (hR : ∀ k s, I k s → ChR p c a s) (hI : ∀ k s1 s2, I k s1 → s1.size ≤ s2.size → (∀ b, b < s1.size → ¬ b0 ≤ b → s2[b]? = s1[b]?) → I k s2)
    (hJ : ∀ s1 s2, J s1 → s1.size ≤ s2.size → (∀ b, b < s1.size → ¬ b0 ≤ b → s2[b]? = s1[b]?) → J s2) (h3 : b0 ≤ b3) (h4 : b0 ≤ b4)
    (hy : ∀ k g s1, (chL c.ws)[k]? = some g → I k s1 → DoesV Pg W y #[chV g] s1 fun e s2 => (∀ b, b0 ≤ b → b < s1.size → s2[b]? = s1[b]?) ∧ ((e = .returned (.bool true) ∧ I (k + 1) s2) ∨ (e = .returned (.bool false) ∧ J s2)))
    (ih : ∀ rest', rest'.length < rest.length → OnP W c a y I J b0 b3 b4 rest') : OnP W c a y I J b0 b3 b4 rest := by
    intro k pre j s1 hd hk hp h1 o3 o4 hg K E kt kf
    have hI' : ∀ {k s1 s2}, I k s1 → Frm b0 s1 s2 → (∀ b, b < s1.size → ¬ b0 ≤ b → s2[b]? = s1[b]?) → I k s2 := fun h f hh => hI _ _ _ h f.1 hh
    have hs0 : b0 < s1.size := by have : b3 < s1.size := o3.lt; omega
    unfold chV
    refine does_clock_clock_choices_c1_c1 W _ _ _ _ _ a _ _ _ s1 ?_
    unfold T_clock_clock_choices_c1_c1
    refine ne4 fun s2 e2 z2 q1 q2 q3 q4 => ?_
    have i2 := hI j s1 s2 h1 e2.1 (fun b hb _ => e2.2 b hb)
    obtain ⟨cl, ha⟩ := hR _ _ i2
    have hv := cl.ok
    have hw2 := hv.w2
    obtain ⟨xw, cw, w1, w2⟩ := cl.ws
    refine ⟨_, ha, _, _, _, w1, ?_⟩
    refine BR_eq (fun hkl => ?_) (fun hkl => ?_)
    · -- all watches go: it is yielded
      have hkl' : k = c.ws.length := by omega
      have hrest : rest = [] := by rw [← hd, hkl', List.drop_length]
      subst hrest
      refine ⟨_, (e2.own o3).cell, ⟨_, q1.cell, ⟨_, q2.cell, ⟨_, q3.cell, ⟨_, q4.cell, ?_⟩⟩⟩⟩⟩
      have hgg := hg 0 [] rfl
      rw [List.append_nil, Nat.add_zero] at hgg
      refine DoesV.mono (hy j pre s2 hgg i2) ?_
      rintro e s3 ⟨hf, hh⟩
      have hf3 : Frm b0 s1 s3 := by
        refine ⟨?_, fun b hb0 hb1 => (hf b hb0 (Nat.lt_of_lt_of_le hb1 e2.1)).trans (e2.2 b hb1)⟩
        have := hf (s1.size - 1) (by omega) (by omega)
        have h5 : s2[s1.size - 1]? = some s2[s1.size - 1] := Array.getElem?_eq_getElem (by omega)
        rw [h5] at this
        have := (Array.getElem?_eq_some_iff.1 this).1
        omega
      rcases hh with ⟨rfl, hh⟩ | ⟨rfl, hh⟩
      · exact kt s3 hf3 hh
      · exact kf s3 hf3 hh
    · have hklt : k < c.ws.length := by omega
      have hcons : rest = c.ws[k] :: c.ws.drop (k + 1) := by rw [← hd]; exact List.drop_eq_getElem_cons hklt
      generalize hwk : c.ws[k] = w at hcons
      have hwv := hv.wt w (hwk ▸ List.getElem_mem hklt)
      obtain ⟨aw, hx, g1, g2, g3, g4⟩ := w2 k hklt
      rw [hwk] at g1 g2 g3 g4
      subst hx
      refine ⟨_, ha, _, _, _, w1, IXS_nat hklt ⟨_, g1, ⟨_, g2, ⟨_, g3, ⟨_, g4, ?_⟩⟩⟩⟩⟩
      refine nw4 zc_66 rfl rfl rfl rfl fun s3 e3 z3 p1 p2 p3 p4 => ?_
      refine ⟨_, p1.cell, ?_⟩
      have e13 := e2.trans e3
      have i3 := hI j s1 s3 h1 e13.1 (fun b hb _ => e13.2 b hb)
      -- the cells of the way
      let xs : List Go' → Hp → Prop := fun g s => Own s ⟨s1.size, 0, none⟩ (.int .i64 (g.getD 0 (0, 0)).1) ∧ Own s ⟨s1.size, 1, none⟩ (.int .i64 (g.getD 0 (0, 0)).2) ∧ Own s ⟨s1.size, 2, none⟩ (.int .i64 (g.getD 1 (0, 0)).1) ∧ Own s ⟨s1.size, 3, none⟩ (.int .i64 (g.getD 1 (0, 0)).2)
      let base : Hp → Prop := fun s => Frm b0 s1 s ∧ s2.size < s.size ∧ Own s ⟨s2.size, 0, none⟩ (.int .i64 w.zlo) ∧ Own s ⟨s2.size, 1, none⟩ (.int .i64 w.zhi) ∧ Own s ⟨s2.size, 2, none⟩ (.int .i64 w.rlo) ∧ Own s ⟨s2.size, 3, none⟩ (.int .i64 w.rhi) ∧ ∃ q, xs (pre ++ q) s ∧ q.length ≤ 1
      have hb3 : base s3 := ⟨Frm.ext e13, by omega, p1, p2, p3, p4, [], by rw [List.append_nil]; exact ⟨e3.own q1, e3.own q2, e3.own q3, e3.own q4⟩, by simp⟩
      let M := (chL (c.ws.drop (k + 1))).length
      refine L_clock_clock_choices_c1_c1_0_rule W _ (k : Nat) ⟨b4, 0, none⟩ ⟨s1.size, 0, none⟩ ⟨s2.size, 0, none⟩ (fun _ z u => ∃ i : Nat, i ≤ nz w ∧ z = w.zlo + (i : Int) ∧ base u ∧ I (j + i * (nr w * M)) u) (fun _ z _ => (w.zhi + 1 - z).toNat) false w.zlo s3
        ⟨0, Nat.zero_le _, by omega, hb3, by simpa using i3⟩ ?_
      rintro b35 z u ⟨i, hi, rfl, bu, iu⟩
      unfold B_clock_clock_choices_c1_c1_0
      refine ⟨_, bu.2.2.2.1.cell, ?_⟩
      refine BR_dec (fun hz => ?_) (fun hz => ?_)
      rotate_left
      · have hin : i = nz w := by unfold nz at hi ⊢; omega
        subst hin
        refine kt u bu.1 ?_
        rw [hcons, ch_len]; exact iu
      have hin : i < nz w := by unfold nz; omega
      refine ⟨_, bu.2.2.2.2.1.cell, ?_⟩
      generalize hnx0 : (fun vs => N_clock_clock_choices_c1_c1_0 _ _ b35 (w.zlo + (i : Int)) u vs) = nx0
      refine L_clock_clock_choices_c1_c1_1_rule W _ nx0 (k : Nat) ⟨b4, 0, none⟩ ⟨s1.size, 0, none⟩ ⟨s2.size, 0, none⟩ (w.zlo + (i : Int)) (fun _ r t => ∃ l : Nat, l ≤ nr w ∧ r = w.rlo + (l : Int) ∧ base t ∧ I (j + (i * (nr w * M) + l * M)) t) (fun _ r _ => (w.rhi + 1 - r).toNat) b35 w.rlo u
        ⟨0, Nat.zero_le _, by omega, bu, by simpa using iu⟩ ?_
      rintro b39 r t ⟨l, hl, rfl, bt, it⟩
      unfold B_clock_clock_choices_c1_c1_1
      obtain ⟨bt1, bt2, bz1, bz2, br1, br2, q, hxs, hq⟩ := bt
      refine ⟨_, br2.cell, ?_⟩
      refine BR_dec (fun hr => ?_) (fun hr => ?_)
      rotate_left
      · have hln : l = nr w := by unfold nr at hl ⊢; omega
        subst hln
        try simp only [TUP_mk, AGG_mk, HD_mk, NL_mk, TYI_mk, TYB_mk, TYP_mk, TYL_mk, TYS_mk, TYM_mk, SO_mk, NX_mk, endK_mk, endK_mk', add_0]
        subst hnx0
        refine ⟨_, _, rfl, ⟨i + 1, hin, ?_, ⟨bt1, bt2, bz1, bz2, br1, br2, q, hxs, hq⟩, ?_⟩, ?_⟩
        · rw [wrap_i64 (by omega) (by omega)]; omega
        · have : (i + 1) * (nr w * M) = i * (nr w * M) + nr w * M := by rw [Nat.add_mul]; omega
          rw [this]; exact it
        · rw [wrap_i64 (by omega) (by omega)]
          show (w.zhi + 1 - (w.zlo + (i : Int) + 1)).toNat < (w.zhi + 1 - (w.zlo + (i : Int))).toNat
          omega
      have hln : l < nr w := by unfold nr; omega
      -- the watch is set
      refine ⟨⟨by omega, by omega⟩, ?_⟩
      rw [toNat_nat]
      have hk01 : k = 0 ∨ k = 1 := by omega
      have hwr : ∀ (K : Hp → Prop), (∀ t', Kp (· = s1.size) t t' → t'.size = t.size → xs (pre ++ [(w.zlo + (i : Int), w.rlo + (l : Int))]) t' → K t') →
          WR (Addr.add (Addr.add ⟨s1.size, 0, none⟩ (k * 2)) 0) (.int .i64 (w.zlo + (i : Int))) (WR (Addr.add (Addr.add ⟨s1.size, 0, none⟩ (k * 2)) 1) (.int .i64 (w.rlo + (l : Int))) K) t := by
        intro K hK
        have hown : ∀ d, d < 2 → ∃ y, Own t (Addr.add ⟨s1.size, k * 2, none⟩ d) y := by
          intro d hd2
          obtain ⟨x1, x2, x3, x4⟩ := hxs
          rcases hk01 with e | e <;> subst e
          · match d, hd2 with
            | 0, _ => exact ⟨_, x1⟩
            | 1, _ => exact ⟨_, x2⟩
          · match d, hd2 with
            | 0, _ => exact ⟨_, x3⟩
            | 1, _ => exact ⟨_, x4⟩
        have hadd : (Addr.add ⟨s1.size, 0, none⟩ (k * 2)) = ⟨s1.size, k * 2, none⟩ := by rw [add_nil, Nat.zero_add]
        rw [hadd]
        show wrN [_, _] ⟨s1.size, k * 2, none⟩ 0 K t
        refine wrN_rule _ _ 0 K t (fun d hd2 => by rw [Nat.zero_add]; exact hown d hd2) ?_ ?_
        · intro v hv
          simp at hv
          rcases hv with rfl | rfl <;> rfl
        · intro t' kp z ho hot
          refine hK t' kp z ?_
          obtain ⟨x1, x2, x3, x4⟩ := hxs
          have w0 := ho 0 (by simp)
          have w1 := ho 1 (by simp)
          rcases hk01 with e | e <;> subst e
          · have hpre : pre = [] := List.length_eq_zero_iff.1 hp
            subst hpre
            have hq1 : ([] ++ q).getD 1 ((0 : Int), (0 : Int)) = (0, 0) := by
              match q, hq with
              | [], _ => rfl
              | [x], _ => rfl
            rw [hq1] at x3 x4
            exact ⟨w0, w1, hot _ _ (.inr (by show 0 * 2 + 0 + 2 ≤ 2; omega)) x3, hot _ _ (.inr (by show 0 * 2 + 0 + 2 ≤ 3; omega)) x4⟩
          · match pre, hp with
            | [g0], _ => exact ⟨hot _ _ (.inl (by show 0 < 1 * 2 + 0; omega)) x1, hot _ _ (.inl (by show 1 < 1 * 2 + 0; omega)) x2, w0, w1⟩
      refine hwr _ fun t' kp zt hxs' => ?_
      have hb4 : b4 < s1.size := o4.lt
      have hb3' : b3 < s1.size := o3.lt
      have hfr : Frm b0 s1 t' := ⟨by have := bt1.1; omega, fun b hb0 hb1 => (kp.2 b (Nat.lt_of_lt_of_le hb1 bt1.1) (by omega)).trans (bt1.2 b hb0 hb1)⟩
      have o4' : Own t' ⟨b4, 0, none⟩ _ := hfr.own (a := ⟨b4, 0, none⟩) h4 o4
      have o3' : Own t' ⟨b3, 0, none⟩ _ := hfr.own (a := ⟨b3, 0, none⟩) h3 o3
      obtain ⟨x1, x2, x3, x4⟩ := hxs'
      refine ⟨_, o4'.cell, ⟨_, x1.cell, ⟨_, x2.cell, ⟨_, x3.cell, ⟨_, x4.cell, ?_⟩⟩⟩⟩⟩
      refine CALLV_func ?_
      rw [wrap_succ (by omega)]
      have it' := hI _ _ _ it (by omega) (fun b hb hnb => kp.2 b hb (by omega))
      have hmk : ∀ u', Frm b0 t' u' → base u' := fun u' f => ⟨hfr.trans f, Nat.lt_of_lt_of_le (by omega) f.1, f.own (a := ⟨s2.size, 0, none⟩) (by show b0 ≤ s2.size; omega) (kp.own (by show ¬ s2.size = s1.size; omega) bz1), f.own (a := ⟨s2.size, 1, none⟩) (by show b0 ≤ s2.size; omega) (kp.own (by show ¬ s2.size = s1.size; omega) bz2), f.own (a := ⟨s2.size, 2, none⟩) (by show b0 ≤ s2.size; omega) (kp.own (by show ¬ s2.size = s1.size; omega) br1), f.own (a := ⟨s2.size, 3, none⟩) (by show b0 ≤ s2.size; omega) (kp.own (by show ¬ s2.size = s1.size; omega) br2),
        [(w.zlo + (i : Int), w.rlo + (l : Int))], ⟨f.own (a := ⟨s1.size, 0, none⟩) (by show b0 ≤ s1.size; omega) x1, f.own (a := ⟨s1.size, 1, none⟩) (by show b0 ≤ s1.size; omega) x2, f.own (a := ⟨s1.size, 2, none⟩) (by show b0 ≤ s1.size; omega) x3, f.own (a := ⟨s1.size, 3, none⟩) (by show b0 ≤ s1.size; omega) x4⟩, by simp⟩
      refine ih (c.ws.drop (k + 1)) (by rw [hcons]; simp) (k + 1) (pre ++ [(w.zlo + (i : Int), w.rlo + (l : Int))]) (j + (i * (nr w * M) + l * M)) t' rfl hklt (by simp [hp]) it' o3' o4' ?_ _ _ ?_ ?_
      · intro tt g hgt
        rw [List.append_assoc]
        refine (congrArg _ ?_).trans (hg (i * (nr w * M) + (l * M + tt)) ((w.zlo + (i : Int), w.rlo + (l : Int)) :: g) (by rw [hcons]; exact ch_get hin hln hgt))
        omega
      · intro u2 f2 iu2
        try simp only [TUP_mk, AGG_mk, HD_mk, NL_mk, TYI_mk, TYB_mk, TYP_mk, TYL_mk, TYS_mk, TYM_mk, SO_mk, NX_mk, endK_mk, endK_mk', add_0]
        rw [Bool.not_true, BR_f]
        try simp only [TUP_mk, AGG_mk, HD_mk, NL_mk, TYI_mk, TYB_mk, TYP_mk, TYL_mk, TYS_mk, TYM_mk, SO_mk, NX_mk, endK_mk, endK_mk', add_0]
        refine ⟨_, _, rfl, ⟨l + 1, hln, ?_, hmk u2 f2, ?_⟩, ?_⟩
        · rw [wrap_i64 (by omega) (by omega)]; omega
        · have : j + (i * (nr w * M) + (l + 1) * M) = j + (i * (nr w * M) + l * M) + M := by rw [Nat.add_mul]; omega
          rw [this]; exact iu2
        · rw [wrap_i64 (by omega) (by omega)]
          show (w.rhi + 1 - (w.rlo + (l : Int) + 1)).toNat < (w.rhi + 1 - (w.rlo + (l : Int))).toNat
          omega
      · intro u2 f2 ju2
        try simp only [TUP_mk, AGG_mk, HD_mk, NL_mk, TYI_mk, TYB_mk, TYP_mk, TYL_mk, TYS_mk, TYM_mk, SO_mk, NX_mk, endK_mk, endK_mk', add_0]
        rw [Bool.not_false, BR_t]
        exact kf u2 (hfr.trans f2) ju2
theorem on_ok {a : Addr} {y : Value} {I : Nat → Hp → Prop} {J : Hp → Prop} {b0 b3 b4 : Nat} (hR : ∀ k s, I k s → ChR p c a s) (hI : ∀ k s1 s2, I k s1 → s1.size ≤ s2.size → (∀ b, b < s1.size → ¬ b0 ≤ b → s2[b]? = s1[b]?) → I k s2)
    (hJ : ∀ s1 s2, J s1 → s1.size ≤ s2.size → (∀ b, b < s1.size → ¬ b0 ≤ b → s2[b]? = s1[b]?) → J s2) (h3 : b0 ≤ b3) (h4 : b0 ≤ b4)
    (hy : ∀ k g s1, (chL c.ws)[k]? = some g → I k s1 → DoesV Pg W y #[chV g] s1 fun e s2 => (∀ b, b0 ≤ b → b < s1.size → s2[b]? = s1[b]?) ∧ ((e = .returned (.bool true) ∧ I (k + 1) s2) ∨ (e = .returned (.bool false) ∧ J s2))) :
    ∀ (n : Nat) (rest : List Wt), rest.length ≤ n → OnP W c a y I J b0 b3 b4 rest
  | 0, rest, hn => on_step hR hI hJ h3 h4 hy fun r hr => absurd hr (by omega)
  | n + 1, rest, hn => on_step hR hI hJ h3 h4 hy fun r hr => on_ok hR hI hJ h3 h4 hy n r (by omega)
theorem it_choices {a : Addr} : IterG Pg W (.func (.func 82) #[] #[.pointer (some a)]) (chL c.ws).length (ChY c) (ChR p c a) true := by
  refine ⟨⟨_, _, _, rfl⟩, fun y I J s hone hR hI hJ hy h0 => ?_⟩
  refine does_clock_clock_choices_c1 W y a _ s ?_
  unfold T_clock_clock_choices_c1
  unfold ONE
  rw [hone]
  refine ne1 fun s1 e1 z1 o1 => ?_
  refine nz1 zc_140 fun s0 e0 z0 o0 => ?_
  refine wr1 (a := ⟨s1.size, 0, none⟩) o0 rfl fun s2 k2 z2 o2 => ?_
  have e2 : Ext s1 s2 := ext_kp e0 (Nat.le_refl _) k2
  refine ⟨_, o2.cell, CALLV_func ?_⟩
  have hI' : ∀ k s1 s2, I k s1 → s1.size ≤ s2.size → (∀ b, b < s1.size → ¬ s.size ≤ b → s2[b]? = s1[b]?) → I k s2 := fun k s1 s2 h h1 h2 => hI k s1 s2 h h1 fun b hb hn => h2 b hb fun hh => hn ⟨rfl, hh⟩
  have e12 := e1.trans e2
  refine on_ok (p := p) (a := a) (y := y) (b0 := s.size) (b3 := s.size) (b4 := s1.size) hR hI' (hJ rfl) (Nat.le_refl _) (by omega) (fun k g s3 hg hi => ?_) _ c.ws (Nat.le_refl _) 0 [] 0 s2 rfl (Nat.zero_le _) rfl (hI' 0 s s2 h0 e12.1 fun b hb _ => e12.2 b hb) (e2.own o1) o2 (fun t g hg => by rw [Nat.zero_add, List.nil_append]; exact hg) _ _ (fun s3 f hi => ?_) (fun s3 f hj => ?_)
  · exact hy k [chV g] s3 (List.getElem?_eq_some_iff.1 hg).1 hi ⟨g, hg, rfl⟩
  · rw [Nat.zero_add] at hi
    exact ⟨⟨_, rfl⟩, .inl hi⟩
  · exact ⟨⟨_, rfl⟩, .inr hj⟩
end
end Go.Proofs.Ytknpmijgdfeliaa.G

/- Clock: all that tells minutes. -/
set_option linter.unusedSimpArgs false
set_option linter.unusedVariables false
set_option maxRecDepth 20000
namespace Go.Proofs.Ytknpmijgdfeliaa.G
open Go.V
def telV : Tel → Value
  | .day e => .iface 135 (.agg #[.int .i64 e])
  | .rd e wa sh => .iface 137 (.agg #[.int .i64 e, .int .i64 wa, .int .i64 sh])
  | .lk a b lo hi => .iface 138 (.agg #[.int .i64 a, .int .i64 b, .int .i64 lo, .int .i64 hi])
def telsV (l : List Tel) : List Value := l.map telV
theorem telV_one (t : Tel) : oneCell (telV t) = true := by cases t <;> rfl
theorem zc_128 : zc Pg 128 = [.nilIface] := by kernel_rfl
theorem zc_61 : zc Pg 61 = [.int .i64 0, .int .i64 0, .int .i64 0] := by kernel_rfl
theorem zc_63 : zc Pg 63 = [.int .i64 0, .int .i64 0, .int .i64 0, .int .i64 0] := by kernel_rfl
theorem bit_is : ∀ S : Nat, S < 256 → ∀ i : Nat, i < 8 → (andv .u64 (shrv .u64 (S : Int) (i : Int)) 1 == 1) = S.testBit i := by
  have h : ((List.range 256).all fun (S : Nat) => (List.range 8).all fun (i : Nat) => decide ((andv .u64 (shrv .u64 (S : Int) (i : Int)) 1 == 1) = S.testBit i)) = true := by decide +kernel
  intro x hx i hi
  have h1 := List.all_eq_true.1 h x (by simpa using hx)
  have h2 := List.all_eq_true.1 h1 i (by simpa using hi)
  exact of_decide_eq_true h2
theorem days_succ (k : Nat) : daysL (k + 1) = daysL k ++ [.day (k : Int)] := by
  unfold daysL
  rw [List.range_succ, List.map_append]; rfl
theorem rds_app {S : Nat} {r : Rd} : ∀ (l : List Rd) (j : Nat), rdsL S (l ++ [r]) j = rdsL S l j ++ (if S.testBit (j + l.length) then [.rd r.ev r.wa r.sh] else [])
  | [], j => by
    show (if S.testBit j then _ else _) = _
    simp [rdsL]
  | x :: l, j => by
    have ih := rds_app (S := S) (r := r) l (j + 1)
    show (if S.testBit j then Tel.rd x.ev x.wa x.sh :: rdsL S (l ++ [r]) (j + 1) else rdsL S (l ++ [r]) (j + 1)) = (if S.testBit j then Tel.rd x.ev x.wa x.sh :: rdsL S l (j + 1) else rdsL S l (j + 1)) ++ _
    rw [ih, show j + 1 + l.length = j + (x :: l).length by simp; omega]
    split <;> rfl
theorem rds_len {S : Nat} : ∀ (l : List Rd) (j : Nat), (rdsL S l j).length ≤ l.length
  | [], _ => Nat.le_refl _
  | x :: l, j => by
    have := rds_len (S := S) l (j + 1)
    unfold rdsL
    split <;> simp <;> omega
theorem take_succ' {α : Type} {l : List α} {k : Nat} (h : k < l.length) : l.take (k + 1) = l.take k ++ [l[k]] := by
  rw [List.take_add_one, List.getElem?_eq_getElem h]; rfl
section
variable {W : World} {K : VK} {E : List PanicEntry → Hp → Prop} {s : Hp} {p : Addr} {c : Clk}
theorem c_tellers {S : Nat} (hc : ClO s p c) (hS : S < 256) (h : ∀ s' x cap, Ext s s' → RowAt s' x (telsV (telsL c S)) → (∀ a, x = some a → s.size ≤ a.block) → (telsL c S).length ≤ 20 → K (.slice x (telsL c S).length cap) s') : CALL Pg W F_clock_clock_tellers [.pointer (some p), .int .u64 (S : Nat)] K E s := by
  refine does_clock_clock_tellers W (some p) S _ s ?_
  unfold T_clock_clock_tellers
  have hv := hc.ok
  have n0 := hv.n0
  have n5 := hv.n5
  have r8 := hv.r8
  have l5 := hv.l5
  refine ⟨_, hc.n, ?_⟩
  have ap : ∀ {t t' : Hp} {x : Option Addr} {l c : Nat} {vs : List Value}, Ext s t → Fr s.size t x l c 1 vs → Kp (fun b => ∃ a, x = some a ∧ a.block = b) t t' → Ext s t' := fun et f k => kp_nil et (fun b hb => by obtain ⟨y, hy, rfl⟩ := hb; exact f.fr y hy) k
  refine L_clock_clock_tellers_0_rule W _ (some p) (S : Nat) c.n (fun x l cp n t => Ext s t ∧ ∃ k : Nat, (k : Int) ≤ c.n ∧ n = k ∧ Fr s.size t x l cp 1 (telsV (daysL k))) (fun _ _ _ n _ => (c.n - n).toNat) none 0 0 0 s ⟨Ext.refl _, 0, by omega, rfl, Fr.nil _ _ _⟩ ?_
  rintro x0 l0 c0 n0' t ⟨et, k, hk, rfl, f0⟩
  have len0 : l0 = k := by have := f0.len; unfold telsV daysL at this; simp at this; omega
  unfold B_clock_clock_tellers_0
  refine BR_dec (fun hlt => ?_) (fun hge => ?_)
  · refine ne1 fun t1 e1 z1 o1 => ?_
    refine APP_fr (lo := s.size) (f0.ext e1) (et.trans e1).1 (ws := [telV (.day (k : Int))]) (fun i hi => ⟨⟨t.size, 0, none⟩, rfl, ?_⟩) rfl zc_128 rfl (by omega) (by simp [telV_one]) (by omega) fun t2 x2 c2 k2 hx2 g2 => ?_
    · have hi0 : i = 0 := by simp at hi; omega
      subst hi0; exact o1.cell
    · try simp only [TUP_mk, AGG_mk, HD_mk, NL_mk, TYI_mk, TYB_mk, TYP_mk, TYL_mk, TYS_mk, TYM_mk, SO_mk, NX_mk, endK_mk, endK_mk', add_0]
      refine ⟨_, _, _, _, rfl, ⟨ap (et.trans e1) (f0.ext e1) k2, k + 1, by omega, wrap_succ (by omega), ?_⟩, ?_⟩
      · rw [days_succ]; unfold telsV; rw [List.map_append]; exact g2
      · rw [wrap_succ (by omega)]
        show (c.n - ((k + 1 : Nat) : Int)).toNat < (c.n - (k : Int)).toNat
        omega
  have hkn : k = c.n.toNat := by omega
  subst hkn
  obtain ⟨xr, cr, r1, r2⟩ := hc.rs
  refine ⟨_, _, _, et.cell r1, ?_⟩
  refine L_clock_clock_tellers_1_rule W _ (some p) (S : Nat) xr _ cr _ (fun x l cp n u => Ext s u ∧ ∃ k : Nat, k ≤ c.rs.length ∧ n = k ∧ Fr s.size u x l cp 1 (telsV (daysL c.n.toNat ++ rdsL S (c.rs.take k) 0))) (fun _ _ _ n _ => ((c.rs.length : Int) - n).toNat) x0 l0 c0 0 t ⟨et, 0, by omega, rfl, by simpa [rdsL] using f0⟩ ?_
  rintro x1 l1 cp1 n1 u ⟨eu, k, hk, rfl, f1⟩
  have len1 : l1 ≤ 13 := by
    have h1 := f1.len
    have h2 := rds_len (S := S) (c.rs.take k) 0
    unfold telsV daysL at h1
    simp at h1 h2
    omega
  unfold B_clock_clock_tellers_1
  refine BR_dec (fun hlt => ?_) (fun hge => ?_)
  · have hkl : k < c.rs.length := by omega
    obtain ⟨a, hx, g1, g2, g3⟩ := r2.ce (CE.ext eu) k hkl
    subst hx
    refine IXS_nat hkl ⟨_, g1, ⟨_, g2, ⟨_, g3, ?_⟩⟩⟩
    refine nw3 zc_61 rfl rfl rfl fun u1 e1 z1 o1 o2 o3 => ?_
    refine NNI_of (by omega) ?_
    rw [bit_is S hS k (by omega)]
    have hnx : ∀ {u' x' l' c'}, Ext s u' → Fr s.size u' x' l' c' 1 (telsV (daysL c.n.toNat ++ rdsL S (c.rs.take (k + 1)) 0)) → N_clock_clock_tellers_1 (fun x l cp n u => Ext s u ∧ ∃ k : Nat, k ≤ c.rs.length ∧ n = k ∧ Fr s.size u x l cp 1 (telsV (daysL c.n.toNat ++ rdsL S (c.rs.take k) 0))) (fun _ _ _ n _ => ((c.rs.length : Int) - n).toNat) x1 l1 cp1 (k : Nat) u [(.slice x' l' c'), (.int .i64 (IntKind.wrap .i64 ((k : Int) + 1)))] u'   := fun a f => by
      refine ⟨_, _, _, _, rfl, ⟨a, k + 1, by omega, wrap_succ (by omega), f⟩, ?_⟩
      rw [wrap_succ (by omega)]
      show ((c.rs.length : Int) - ((k + 1 : Nat) : Int)).toNat < ((c.rs.length : Int) - (k : Int)).toNat
      omega
    have htk : rdsL S (c.rs.take (k + 1)) 0 = rdsL S (c.rs.take k) 0 ++ (if S.testBit k then [.rd c.rs[k].ev c.rs[k].wa c.rs[k].sh] else []) := by
      rw [take_succ' hkl, rds_app]
      simp [Nat.min_eq_left (Nat.le_of_lt hkl)]
    refine BR_bool (fun hb => ?_) (fun hb => ?_)
    · refine ⟨_, o1.cell, ⟨_, o2.cell, ⟨_, o3.cell, ?_⟩⟩⟩
      refine ne1 fun u2 e2 z2 q1 => ?_
      have e12 := e1.trans e2
      refine APP_fr (lo := s.size) (f1.ext e12) (eu.trans e12).1 (ws := [telV (.rd c.rs[k].ev c.rs[k].wa c.rs[k].sh)]) (fun i hi => ⟨⟨u1.size, 0, none⟩, rfl, ?_⟩) rfl zc_128 rfl (by omega) (by simp [telV_one]) (by omega) fun t2 x2 c2 k2 hx2 g2 => ?_
      · have hi0 : i = 0 := by simp at hi; omega
        subst hi0; exact q1.cell
      · try simp only [TUP_mk, AGG_mk, HD_mk, NL_mk, TYI_mk, TYB_mk, TYP_mk, TYL_mk, TYS_mk, TYM_mk, SO_mk, NX_mk, endK_mk, endK_mk', add_0]
        refine hnx (ap (eu.trans e12) (f1.ext e12) k2) ?_
        rw [htk, if_pos hb, ← List.append_assoc]
        unfold telsV at g2 ⊢
        rw [List.map_append]; exact g2
    · try simp only [TUP_mk, AGG_mk, HD_mk, NL_mk, TYI_mk, TYB_mk, TYP_mk, TYL_mk, TYS_mk, TYM_mk, SO_mk, NX_mk, endK_mk, endK_mk', add_0]
      refine hnx (eu.trans e1) ?_
      rw [htk, if_neg (by rw [hb]; simp), List.append_nil]
      exact f1.ext e1
  have hkn : k = c.rs.length := by omega
  subst hkn
  rw [List.take_length] at f1
  obtain ⟨xl, cl, q1, q2⟩ := hc.ls
  refine ⟨_, _, _, eu.cell q1, ?_⟩
  refine L_clock_clock_tellers_2_rule W _ xl _ cl _ (fun x l cp n v => Ext s v ∧ ∃ k : Nat, k ≤ c.ls.length ∧ n = k ∧ Fr s.size v x l cp 1 (telsV (daysL c.n.toNat ++ rdsL S c.rs 0 ++ lksL (c.ls.take k)))) (fun _ _ _ n _ => ((c.ls.length : Int) - n).toNat) x1 l1 cp1 0 u ⟨eu, 0, by omega, rfl, by simpa [lksL] using f1⟩ ?_
  rintro x2 l2 cp2 n2 v ⟨ev, k, hk2, rfl, f2⟩
  have len2 : l2 ≤ 18 ∧ l2 = (daysL c.n.toNat ++ rdsL S c.rs 0 ++ lksL (c.ls.take k)).length := by
    have h1 := f2.len
    have h2 := rds_len (S := S) c.rs 0
    unfold telsV daysL lksL at h1
    unfold daysL lksL
    simp at h1 ⊢
    omega
  unfold B_clock_clock_tellers_2
  refine BR_dec (fun hlt => ?_) (fun hge => ?_)
  · have hkl : k < c.ls.length := by omega
    obtain ⟨a, hx, g1, g2, g3, g4⟩ := q2.ce (CE.ext ev) k hkl
    subst hx
    refine IXS_nat hkl ⟨_, g1, ⟨_, g2, ⟨_, g3, ⟨_, g4, ?_⟩⟩⟩⟩
    refine nw4 zc_63 rfl rfl rfl rfl fun u1 e1 z1 o1 o2 o3 o4 => ?_
    refine ⟨_, o1.cell, ⟨_, o2.cell, ⟨_, o3.cell, ⟨_, o4.cell, ?_⟩⟩⟩⟩
    refine ne1 fun u2 e2 z2 w1 => ?_
    have e12 := e1.trans e2
    refine APP_fr (lo := s.size) (f2.ext e12) (ev.trans e12).1 (ws := [telV (.lk c.ls[k].a c.ls[k].b c.ls[k].lo c.ls[k].hi)]) (fun i hi => ⟨⟨u1.size, 0, none⟩, rfl, ?_⟩) rfl zc_128 rfl (by omega) (by simp [telV_one]) (by omega) fun t2 x3 c3 k2 hx2 g5 => ?_
    · have hi0 : i = 0 := by simp at hi; omega
      subst hi0; exact w1.cell
    · try simp only [TUP_mk, AGG_mk, HD_mk, NL_mk, TYI_mk, TYB_mk, TYP_mk, TYL_mk, TYS_mk, TYM_mk, SO_mk, NX_mk, endK_mk, endK_mk', add_0]
      refine ⟨_, _, _, _, rfl, ⟨ap (ev.trans e12) (f2.ext e12) k2, k + 1, by omega, wrap_succ (by omega), ?_⟩, ?_⟩
      · have : lksL (c.ls.take (k + 1)) = lksL (c.ls.take k) ++ [.lk c.ls[k].a c.ls[k].b c.ls[k].lo c.ls[k].hi] := by
          rw [take_succ' hkl]; unfold lksL; rw [List.map_append]; rfl
        rw [this, ← List.append_assoc]
        unfold telsV at g5 ⊢
        rw [List.map_append]; exact g5
      · rw [wrap_succ (by omega)]
        show ((c.ls.length : Int) - ((k + 1 : Nat) : Int)).toNat < ((c.ls.length : Int) - (k : Int)).toNat
        omega
  · have hkn : k = c.ls.length := by omega
    subst hkn
    rw [List.take_length] at f2 len2
    have hh := h v x2 cp2 ev f2.row f2.fr (by unfold telsL; omega)
    unfold telsL at hh
    rw [← len2.2] at hh
    exact hh
end
end Go.Proofs.Ytknpmijgdfeliaa.G

/- Clock: all truths, one way after the other. -/
set_option linter.unusedSimpArgs false
set_option linter.unusedVariables false
set_option maxRecDepth 20000
namespace Go.Proofs.Ytknpmijgdfeliaa.G
open Go.V
theorem mth_135 : mth Pg 135 "furrowworks/clock.tell" = some 100 := by kernel_rfl
theorem mth_137 : mth Pg 137 "furrowworks/clock.tell" = some 102 := by kernel_rfl
theorem mth_138 : mth Pg 138 "furrowworks/clock.tell" = some 105 := by kernel_rfl
theorem zc_91 : zc Pg 91 = [.int .i64 0, .int .i64 0, .int .i64 0, .int .i64 0] := by kernel_rfl
theorem zc_122 : zc Pg 122 = [.slice none 0 0] := by kernel_rfl
def TelOk (c : Clk) : Tel → Prop
  | .day e => 0 ≤ e ∧ e < c.n
  | .rd e wa sh => (0 ≤ e ∧ e < c.n) ∧ (0 ≤ wa ∧ wa < c.ws.length) ∧ 0 ≤ sh ∧ sh ≤ 2000
  | .lk a b lo hi => (0 ≤ a ∧ a < c.n) ∧ (0 ≤ b ∧ b < c.n) ∧ a ≠ b ∧ -600 ≤ lo ∧ lo ≤ hi ∧ hi ≤ 600
theorem rds_mem {S : Nat} {t : Tel} : ∀ (l : List Rd) (j : Nat), t ∈ rdsL S l j → ∃ r ∈ l, t = .rd r.ev r.wa r.sh
  | [], j, h => by cases h
  | x :: l, j, h => by
    unfold rdsL at h
    split at h
    · rcases List.mem_cons.1 h with rfl | h
      · exact ⟨x, by simp, rfl⟩
      · obtain ⟨r, hr, e⟩ := rds_mem l _ h; exact ⟨r, by simp [hr], e⟩
    · obtain ⟨r, hr, e⟩ := rds_mem l _ h; exact ⟨r, by simp [hr], e⟩
theorem tels_ok {c : Clk} {S : Nat} (hv : VdC c) : ∀ t ∈ telsL c S, TelOk c t := fun t ht => by
  unfold telsL at ht
  rcases List.mem_append.1 ht with ht | ht
  · rcases List.mem_append.1 ht with ht | ht
    · unfold daysL at ht
      obtain ⟨k, hk, rfl⟩ := List.mem_map.1 ht
      rw [List.mem_range] at hk
      have := hv.n0
      exact ⟨by omega, by omega⟩
    · obtain ⟨r, hr, rfl⟩ := rds_mem _ _ ht
      have := hv.rd r hr
      exact ⟨⟨this.1, this.2.1⟩, ⟨this.2.2.1, this.2.2.2.1⟩, this.2.2.2.2⟩
  · unfold lksL at ht
    obtain ⟨l, hl, rfl⟩ := List.mem_map.1 ht
    have := hv.lk l hl
    exact ⟨⟨this.1, this.2.1⟩, ⟨this.2.2.1, this.2.2.2.1⟩, this.2.2.2.2⟩
def HasDay (e : Int) (D : BF) : Prop := (∃ v, D (-1, e) = some v ∧ v ≤ 600) ∧ (∃ v, D (e, -1) = some v ∧ v ≤ 0)
theorem HasDay.le {e : Int} {D D' : BF} (h : HasDay e D) (hl : Le D D') : HasDay e D' := by
  obtain ⟨⟨v, a, b⟩, ⟨w, c, d⟩⟩ := h
  obtain ⟨v', a', b'⟩ := hl _ _ a
  obtain ⟨w', c', d'⟩ := hl _ _ c
  exact ⟨⟨v', a', by omega⟩, ⟨w', c', by omega⟩⟩
structure TelR (n : Int) (g : List Go') (t : Tel) (l l' : List Pr) : Prop where
  ok : OkM n l'
  le : Le (get l) (get l')
  sat : ∀ m, m (-1) = 0 → (Sat (get l') m ↔ Sat (get l) m ∧ t.says g m)
  day : ∀ e, t = .day e → HasDay e (get l')
/-- A way in which watches can go is within bounds. -/
theorem go_bnd {c : Clk} {g : List Go'} (hv : VdC c) (hg : GoesOk c.ws g) {w : Int} (h0 : 0 ≤ w) (h1 : w < c.ws.length) : (0 ≤ (g.getD w.toNat (0, 0)).1 ∧ (g.getD w.toNat (0, 0)).1 ≤ 1000) ∧ (900 ≤ (g.getD w.toNat (0, 0)).2 ∧ (g.getD w.toNat (0, 0)).2 ≤ 1100) := by
  have hw : w.toNat < c.ws.length := by omega
  have h2 := hg.get w.toNat hw
  have h3 := hv.wt _ (List.getElem_mem hw)
  unfold GoOk at h2
  omega
section
variable {W : World} {K : VK} {E : List PanicEntry → Hp → Prop} {s : Hp} {r : Nat} {l : List Pr} {c : Clk}
theorem c_tell {t : Tel} {g : List Go'} (hv : VdC c) (hg : GoesOk c.ws g) (ht : TelOk c t) (hm : MapL s r l) (ho : OkM c.n l) (h0 : ∀ s', Ext s s' → (∀ m, m (-1) = 0 → ¬ t.says g m) → K (.bool false) s') (h : ∀ s' l', Kp (· = r) s s' → MapL s' r l' → TelR c.n g t l l' → K (.bool true) s') :
    INV Pg W (telV t) "furrowworks/clock.tell" [.map (some r), chV g] K E s := by
  cases t with
  | day e =>
    simp only [telV, INV, mth_135]
    refine c_day hm ho ht fun s' l' k m t => h s' l' k m ⟨t.ok, t.le, fun m hm0 => ?_, fun e' he => ?_⟩
    · rw [t.sat, hm0]
      show _ ↔ _ ∧ (0 ≤ m e ∧ m e ≤ 600)
      rw [Int.sub_zero]
    · cases he
      obtain ⟨w, h1, h2⟩ := t.has1
      obtain ⟨w', h3, h4⟩ := t.has2
      exact ⟨⟨w, h1, h2⟩, ⟨w', h3, by omega⟩⟩
  | lk a b lo hi =>
    simp only [telV, INV, mth_138]
    exact c_link hm ho ht.1 ht.2.1 ht.2.2.1 ht.2.2.2 fun s' l' k m t => h s' l' k m ⟨t.ok, t.le, fun m hm0 => t.sat m, fun e' he => by cases he⟩
  | rd e wa sh =>
    simp only [telV, INV, mth_137]
    obtain ⟨he, hw, hs⟩ := ht
    obtain ⟨b1, b2⟩ := go_bnd hv hg hw.1 hw.2
    have hw2 := hv.w2
    refine c_reading hm ho he ⟨hw.1, by omega⟩ hs b1 b2 (fun s' e' hlt => h0 s' e' fun m hm0 hsay => ?_) fun s' l1 l' k m t1 t2 => h s' l' k m ⟨t2.ok, t1.le.trans t2.le, fun m hm0 => ?_, fun e' he => by cases he⟩
    · obtain ⟨hd, hsh⟩ := hsay
      have := (min_iff (by omega) hd.1).1 hsh
      omega
    · rw [t2.sat, t1.sat, hm0]
      show _ ↔ _ ∧ (0 ≤ m e ∧ m e ≤ 600) ∧ showP (g.getD wa.toNat (0, 0)) (m e) = sh
      rw [Int.sub_zero]
      constructor
      · rintro ⟨⟨h1, h2, h3⟩, h4, h5⟩
        exact ⟨h1, ⟨h4, h5⟩, (min_iff (by omega) h4).2 ⟨h2, h3⟩⟩
      · rintro ⟨h1, ⟨h4, h5⟩, h6⟩
        have := (min_iff (by omega) h4).1 h6
        exact ⟨⟨h1, this⟩, h4, h5⟩
end
/-- Some minutes are right, if watches go so. -/
def CanG (c : Clk) (S : Nat) (g : List Go') : Prop := ∃ m : Int → Int, m (-1) = 0 ∧ ∀ t ∈ telsL c S, t.says g m
noncomputable def goodB (c : Clk) (S : Nat) (g : List Go') : Bool := by classical exact decide (CanG c S g)
theorem good_iff {c : Clk} {S : Nat} {g : List Go'} : goodB c S g = true ↔ CanG c S g := by unfold goodB; simp
noncomputable def goodL (c : Clk) (S : Nat) : List (List Go') := (chL c.ws).filter (goodB c S)
noncomputable def goodN (c : Clk) (S : Nat) (k : Nat) : Nat := (((chL c.ws).take k).filter (goodB c S)).length
theorem goodN_succ {c : Clk} {S k : Nat} {g : List Go'} (h : (chL c.ws)[k]? = some g) : goodN c S (k + 1) = goodN c S k + if goodB c S g then 1 else 0 := by
  unfold goodN
  rw [List.take_add_one, h, List.filter_append, List.length_append]
  congr 1
  show (List.filter (goodB c S) [g]).length = _
  rw [List.filter_cons]
  split <;> rfl
theorem goodN_get {c : Clk} {S k : Nat} {g : List Go'} (h : (chL c.ws)[k]? = some g) (hg : goodB c S g = true) : (goodL c S)[goodN c S k]? = some g := by
  obtain ⟨hk, h'⟩ := List.getElem?_eq_some_iff.1 h
  unfold goodL goodN
  have e : chL c.ws = (chL c.ws).take k ++ (g :: (chL c.ws).drop (k + 1)) := by
    rw [← h', ← List.drop_eq_getElem_cons hk, List.take_append_drop]
  generalize (chL c.ws).take k = A at *
  rw [e, List.filter_append, List.filter_cons, if_pos hg, List.getElem?_append_right (Nat.le_refl _), Nat.sub_self]
  rfl
theorem goodN_all {c : Clk} {S : Nat} : goodN c S (chL c.ws).length = (goodL c S).length := by unfold goodN goodL; rw [List.take_length]
/-- The bounds that go with a way. -/
structure Bd (c : Clk) (S : Nat) (g : List Go') (D : BF) : Prop where
  goes : GoesOk c.ws g
  tight : ∃ D0, Tight c.n D0 D ∧ ∀ m, m (-1) = 0 → (Sat D0 m ↔ ∀ t ∈ telsL c S, t.says g m)
def TrY (c : Clk) (S : Nat) (k : Nat) (x : List Value) (s : Hp) : Prop := ∃ g r l, (goodL c S)[k]? = some g ∧ x = [chV g, .map (some r)] ∧ MapL s r l ∧ Bd c S g (get l)
def TrR (p : Addr) (c : Clk) (S : Nat) (a b : Addr) (s : Hp) : Prop := ClO s p c ∧ cellAt s a = some (.pointer (some p)) ∧ cellAt s b = some (.int .u64 (S : Nat))
end Go.Proofs.Ytknpmijgdfeliaa.G

/- Clock: the iterator over all truths. -/
set_option linter.unusedSimpArgs false
set_option linter.unusedVariables false
set_option maxRecDepth 20000
namespace Go.Proofs.Ytknpmijgdfeliaa.G
open Go.V
theorem Frm.cell {b0 : Nat} {s s' : Hp} (h : Frm b0 s s') {a : Addr} {v : Value} (hb : b0 ≤ a.block) (ho : cellAt s a = some v) : cellAt s' a = some v := by rw [cell_of_block (h.2 _ hb (cell_lt ho))]; exact ho
theorem get_nil (k : Ky) : get [] k = none := rfl
section
variable {W : World} {K : VK} {E : List PanicEntry → Hp → Prop} {s : Hp} {p : Addr} {c : Clk}
theorem c_truths {S : Nat} (h : ∀ s', Ext s s' → s'.size = s.size + 2 → cellAt s' ⟨s.size, 0, none⟩ = some (.pointer (some p)) → cellAt s' ⟨s.size + 1, 0, none⟩ = some (.int .u64 (S : Nat)) → K (.func (.func 75) #[] #[.pointer (some ⟨s.size, 0, none⟩), .pointer (some ⟨s.size + 1, 0, none⟩)]) s') :
    CALL Pg W F_clock_clock_truths [.pointer (some p), .int .u64 (S : Nat)] K E s := by
  refine does_clock_clock_truths W (some p) S _ s ?_
  unfold T_clock_clock_truths
  refine ne1 fun s1 e1 z1 o1 => ?_
  refine ne1 fun s2 e2 z2 o2 => ?_
  rw [z1] at o2 ⊢
  exact h s2 (e1.trans e2) (by omega) (e2.own o1).cell o2.cell
theorem it_truths {S : Nat} {a b : Addr} (hS : S < 256) : IterG Pg W (.func (.func 75) #[] #[.pointer (some a), .pointer (some b)]) (goodL c S).length (TrY c S) (TrR p c S a b) true := by
  refine ⟨⟨_, _, _, rfl⟩, fun y I J s hone hR hI0 hJ0 hy h0 => ?_⟩
  refine does_clock_clock_truths_c1 W y a b _ s ?_
  have hI : ∀ k s1 s2, I k s1 → s1.size ≤ s2.size → (∀ b, b < s1.size → ¬ s.size ≤ b → s2[b]? = s1[b]?) → I k s2 := fun k s1 s2 h h1 h2 => hI0 k s1 s2 h h1 fun b hb hn => h2 b hb fun hh => hn ⟨rfl, hh⟩
  have hJ := hJ0 rfl
  have iext : ∀ {k s1 s2}, I k s1 → Ext s1 s2 → I k s2 := fun h e => hI _ _ _ h e.1 fun b hb _ => e.2 b hb
  unfold T_clock_clock_truths_c1
  unfold ONE
  rw [hone]
  refine ne1 fun s1 e1 z1 o1 => ?_
  obtain ⟨cl, ca, cb⟩ := hR _ _ h0
  have hv := cl.ok
  refine ⟨_, e1.cell ca, ⟨_, e1.cell cb, ?_⟩⟩
  refine c_tellers (cl.ext e1) hS fun s2 x cap e2 row hfr htl => ?_
  try simp only [TUP_mk, AGG_mk, HD_mk, NL_mk, TYI_mk, TYB_mk, TYP_mk, TYL_mk, TYS_mk, TYM_mk, SO_mk, NX_mk, endK_mk, endK_mk', add_0]
  refine nz1 zc_122 fun s3' e3' z3' o3' => ?_
  refine wr1 (a := ⟨s2.size, 0, none⟩) o3' rfl fun s3 k3 z3 o3 => ?_
  have e3 : Ext s2 s3 := ext_kp e3' (Nat.le_refl _) k3
  have e13 := (e1.trans e2).trans e3
  refine ⟨_, e13.cell ca, ?_⟩
  refine c_choices fun s4 e4 z4 a4 => ?_
  try simp only [TUP_mk, AGG_mk, HD_mk, NL_mk, TYI_mk, TYB_mk, TYP_mk, TYL_mk, TYS_mk, TYM_mk, SO_mk, NX_mk, endK_mk, endK_mk', add_0]
  have e14 := e13.trans e4
  have hz2 : s.size < s2.size := by have := e2.1; omega
  have hz3 : s2.size < s3.size := by have := e3'.1; omega
  -- what one has of one's own
  have own4 : Own s4 ⟨s.size, 0, none⟩ y := ((e2.trans e3).trans e4).own o1
  have row4 : RowAt s4 x (telsV (telsL c S)) := row.ext (e3.trans e4)
  have sl4 : cellAt s4 ⟨s2.size, 0, none⟩ = some (.slice x (telsL c S).length cap) := e4.cell o3.cell
  refine ⟨(chL c.ws).length, ChY c, ChR p c ⟨s3.size, 0, none⟩, true, fun j u => I (goodN c S j) u ∧ Frm s.size s4 u, fun cd u => cd = .ret ∧ J u, it_choices, ?_, ?_, ?_, ?_, ?_, ?_, ?_, ?_, ?_⟩
  · intro u q o hq ho h
    exact ⟨h.1.ce (CE.blind hq), cell_blind hq h.2⟩
  · intro k x u q o _ _ h; exact h
  · rintro k u ⟨i, f⟩
    exact ⟨(hR _ _ i).1, f.cell (by show s.size ≤ s3.size; omega) a4⟩
  · rintro k u1 u2 ⟨i, f⟩ hz hb
    refine ⟨hI _ _ _ i hz fun b hb1 hn => hb b hb1 fun hh => hn (by have := e14.1; omega), Nat.le_trans f.1 hz, fun b hb0 hb1 => ?_⟩
    rw [hb b (Nat.lt_of_lt_of_le hb1 f.1) (fun hh => by omega)]
    exact f.2 b hb0 hb1
  · rintro - cd u1 u2 ⟨hc, j⟩ hz hb
    exact ⟨hc, hJ _ _ j hz fun b hb1 hn => hb b hb1 fun hh => hn (by have := e14.1; omega)⟩
  · have ep : Ext s4 ((s4.push junk).push junk) := Ext.push (Ext.push (Ext.refl _))
    exact ⟨iext (iext h0 e14) ep, Frm.ext ep⟩
  · rintro j xs u hj ⟨iu, fu⟩ ⟨g, hg, rfl⟩
    refine ⟨rfl, ?_⟩
    have hgo : GoesOk c.ws g := (mem_chL _ _).1 (List.mem_of_getElem? hg)
    unfold chV
    try simp only [TUP_mk, AGG_mk, HD_mk, NL_mk, TYI_mk, TYB_mk, TYP_mk, TYL_mk, TYS_mk, TYM_mk, SO_mk, NX_mk, endK_mk, endK_mk', add_0]
    refine nw4 zc_91 rfl rfl rfl rfl fun u1 f1 y1 p1 p2 p3 p4 => ?_
    refine MKM_map fun u2 f2 y2 m2 => ?_
    have f12 := f1.trans f2
    have hu0 : s.size < u.size := by have := fu.1; have := e14.1; omega
    have fr2 : Frm s.size s4 u2 := fu.trans (Frm.ext f12)
    refine ⟨_, _, _, fr2.cell (by show s.size ≤ s2.size; omega) sl4, ?_⟩
    have iu2 : I (goodN c S j) u2 := iext iu f12
    have hbad : ∀ t, u.size ≤ t.size → (∀ b, b < u.size → t[b]? = u[b]?) → ¬ CanG c S g →
        FRM true (∀ b, s4.size + 2 ≤ b → b < u.size → t[b]? = u[b]?) (I (goodN c S (j + 1)) t ∧ Frm s.size s4 t) := fun t hz hb hn => by
      refine ⟨fun b _ hb1 => hb b hb1, ?_, fu.trans ⟨hz, fun b _ hb1 => hb b hb1⟩⟩
      rw [goodN_succ hg, if_neg (fun hh => hn (good_iff.1 hh)), Nat.add_zero]
      exact iext iu ⟨hz, hb⟩
    generalize hfin : (fun (j_1 : Option Code) (s2 : Hp) => FRM true _ _) = fin
    have hfn : ∀ t, FRM true (∀ b, s4.size + 2 ≤ b → b < u.size → t[b]? = u[b]?) (I (goodN c S (j + 1)) t ∧ Frm s.size s4 t) → fin none t := fun t h => by rw [← hfin]; exact h
    have hfr' : ∀ t, FRM true (∀ b, s4.size + 2 ≤ b → b < u.size → t[b]? = u[b]?) (Code.ret = Code.ret ∧ J t) → fin (some .ret) t := fun t h => by rw [← hfin]; exact h
    clear hfin
    refine L_clock_clock_truths_c1_0_rule W _ fin a ⟨s.size, 0, none⟩ ⟨u.size, 0, none⟩ (some u1.size) x _ cap _ (fun n t => ∃ (k : Nat) (l : List Pr), n = k ∧ k ≤ (telsL c S).length ∧ Kp (· = u1.size) u2 t ∧ MapL t u1.size l ∧ OkM c.n l ∧ (∀ m, m (-1) = 0 → (Sat (get l) m ↔ ∀ q ∈ (telsL c S).take k, q.says g m)) ∧ ∀ e, Tel.day e ∈ (telsL c S).take k → HasDay e (get l)) (fun n _ => (((telsL c S).length : Int) - n).toNat) 0 u2
      ⟨0, [], rfl, Nat.zero_le _, Kp.refl _, m2, ⟨fun i j v h => (by cases h), fun k v h => (by cases h)⟩, fun m _ => ⟨fun _ q hq => (by simp at hq), fun _ i j v h => (by cases h)⟩, fun e h => (by simp at h)⟩ ?_
    rintro n t ⟨k, l, rfl, hk, kt, mt, ok, sat, hday⟩
    have hu12 : u.size < u1.size := by omega
    have hz2' : u1.size < u2.size := by omega
    have gt : ∀ t', Kp (· = u1.size) u2 t' → u.size ≤ t'.size ∧ ∀ b, b < u.size → t'[b]? = u[b]? := fun t' k' => ⟨by have := k'.1; have := f12.1; omega, fun b hb => (k'.2 b (by omega) (by omega)).trans (f12.2 b hb)⟩
    have q1 : ∀ t', Kp (· = u1.size) u2 t' → Own t' ⟨u.size, 0, none⟩ (.int .i64 (g.getD 0 (0, 0)).1) ∧ Own t' ⟨u.size, 1, none⟩ (.int .i64 (g.getD 0 (0, 0)).2) ∧ Own t' ⟨u.size, 2, none⟩ (.int .i64 (g.getD 1 (0, 0)).1) ∧ Own t' ⟨u.size, 3, none⟩ (.int .i64 (g.getD 1 (0, 0)).2) := fun t' k' => by
      have hne : ¬ (u.size = u1.size) := by omega
      exact ⟨k'.own hne (f2.own p1), k'.own hne (f2.own p2), k'.own hne (f2.own p3), k'.own hne (f2.own p4)⟩
    have frt : ∀ t', Kp (· = u1.size) u2 t' → Frm s.size s4 t' := fun t' k' => fu.trans ⟨(gt t' k').1, fun b _ hb => (gt t' k').2 b hb⟩
    unfold B_clock_clock_truths_c1_0
    obtain ⟨w1, w2, w3, w4⟩ := q1 t kt
    refine BR_dec (fun hlt => ?_) (fun hge => ?_)
    · have hkl : k < (telsL c S).length := by omega
      have hkv : k < (telsV (telsL c S)).length := by unfold telsV; simpa using hkl
      obtain ⟨ax, hx, hcell⟩ := row4 k hkv
      have hxb : s.size ≤ ax.block := by have := hfr ax hx; omega
      subst hx
      refine IXS_nat hkl ?_
      have hval : (telsV (telsL c S))[k] = telV (telsL c S)[k] := by simp [telsV]
      rw [hval] at hcell
      refine ⟨_, (frt t kt).cell (by rw [add_blk]; exact hxb) hcell, ?_⟩
      refine ⟨_, w1.cell, ⟨_, w2.cell, ⟨_, w3.cell, ⟨_, w4.cell, ?_⟩⟩⟩⟩
      have htk : (telsL c S).take (k + 1) = (telsL c S).take k ++ [(telsL c S)[k]] := take_succ' hkl
      refine c_tell (g := g) hv hgo (tels_ok hv _ (List.getElem_mem hkl)) mt ok (fun t1 et hno => ?_) (fun t1 l1 kt1 mt1 tr => ?_)
      · try simp only [TUP_mk, AGG_mk, HD_mk, NL_mk, TYI_mk, TYB_mk, TYP_mk, TYL_mk, TYS_mk, TYM_mk, SO_mk, NX_mk, endK_mk, endK_mk', add_0]
        rw [Bool.not_false, BR_t]
        have k1 : Kp (· = u1.size) u2 t1 := kt.ext et
        refine hfn t1 (hbad t1 (gt t1 k1).1 (gt t1 k1).2 fun ⟨m, hm0, hm⟩ => hno m hm0 (hm _ (List.getElem_mem hkl)))
      · try simp only [TUP_mk, AGG_mk, HD_mk, NL_mk, TYI_mk, TYB_mk, TYP_mk, TYL_mk, TYS_mk, TYM_mk, SO_mk, NX_mk, endK_mk, endK_mk', add_0]
        rw [Bool.not_true, BR_f]
        try simp only [TUP_mk, AGG_mk, HD_mk, NL_mk, TYI_mk, TYB_mk, TYP_mk, TYL_mk, TYS_mk, TYM_mk, SO_mk, NX_mk, endK_mk, endK_mk', add_0]
        refine ⟨_, rfl, ⟨k + 1, l1, wrap_succ (by omega), hkl, kt.trans kt1, mt1, tr.ok, fun m hm0 => ?_, fun e he => ?_⟩, ms_succ hkl (by omega)⟩
        · rw [tr.sat m hm0, sat m hm0, htk]
          simp only [List.mem_append, List.mem_singleton]
          constructor
          · rintro ⟨h1, h2⟩ q (hq | rfl)
            · exact h1 q hq
            · exact h2
          · intro h1
            exact ⟨fun q hq => h1 q (.inl hq), h1 _ (.inr rfl)⟩
        · rw [htk] at he
          rcases List.mem_append.1 he with he | he
          · exact (hday e he).le tr.le
          · exact tr.day e (List.mem_singleton.1 he).symm
    · have hkn : k = (telsL c S).length := by omega
      subst hkn
      rw [List.take_length] at sat hday
      have it : I (goodN c S j) t := iext iu ⟨(gt t kt).1, (gt t kt).2⟩
      obtain ⟨clt, cat, cbt⟩ := hR _ _ it
      refine ⟨_, cat, ⟨_, clt.n, ?_⟩⟩
      have hbase : Base c.n (get l) := fun e h0 h1 => hday e (by
        unfold telsL daysL
        refine List.mem_append_left _ (List.mem_append_left _ (List.mem_map.2 ⟨e.toNat, by rw [List.mem_range]; omega, by rw [Int.toNat_of_nonneg h0]⟩)))
      refine c_tight mt hv.n0 hv.n5 ok.key hbase ok.bnd (fun t1 kt1 hno => ?_) (fun t1 l1 kt1 mt1 tg => ?_)
      · try simp only [TUP_mk, AGG_mk, HD_mk, NL_mk, TYI_mk, TYB_mk, TYP_mk, TYL_mk, TYS_mk, TYM_mk, SO_mk, NX_mk, endK_mk, endK_mk', add_0]
        rw [Bool.not_false, BR_t]
        have k1 := kt.trans kt1
        exact hfn t1 (hbad t1 (gt t1 k1).1 (gt t1 k1).2 fun ⟨m, hm0, hm⟩ => hno ⟨m, (sat m hm0).2 hm⟩)
      · try simp only [TUP_mk, AGG_mk, HD_mk, NL_mk, TYI_mk, TYB_mk, TYP_mk, TYL_mk, TYS_mk, TYM_mk, SO_mk, NX_mk, endK_mk, endK_mk', add_0]
        rw [Bool.not_true, BR_f]
        have k1 := kt.trans kt1
        obtain ⟨w1, w2, w3, w4⟩ := q1 t1 k1
        have own1 : Own t1 ⟨s.size, 0, none⟩ y := (frt t1 k1).own (a := ⟨s.size, 0, none⟩) (Nat.le_refl _) own4
        refine ⟨_, own1.cell, ⟨_, w1.cell, ⟨_, w2.cell, ⟨_, w3.cell, ⟨_, w4.cell, ?_⟩⟩⟩⟩⟩
        obtain ⟨m, hm, hm0⟩ := tg.some hv.n0
        have hgood : goodB c S g = true := good_iff.2 ⟨m, hm0, (sat m hm0).1 hm⟩
        have hget := goodN_get hg hgood
        have it1 : I (goodN c S j) t1 := iext iu ⟨(gt t1 k1).1, (gt t1 k1).2⟩
        refine DoesV.mono (hy (goodN c S j) _ t1 (List.getElem?_eq_some_iff.1 hget).1 it1 ⟨g, u1.size, l1, hget, rfl, mt1, hgo, _, tg, sat⟩) ?_
        rintro e t2 ⟨hf, hh⟩
        have hsz : t1.size ≤ t2.size := by
          have hpos : t1.size - 1 < t1.size := by have := (gt t1 k1).1; omega
          have h5 := Array.getElem?_eq_getElem hpos
          have := hf (t1.size - 1) (by have := (gt t1 k1).1; omega) (by have := (gt t1 k1).1; omega)
          rw [h5] at this
          have := (Array.getElem?_eq_some_iff.1 this).1
          omega
        have hfr2 : ∀ b, s4.size + 2 ≤ b → b < u.size → t2[b]? = u[b]? := fun b hb0 hb1 => (hf b (by have := e14.1; omega) (by have := (gt t1 k1).1; omega)).trans ((gt t1 k1).2 b hb1)
        rcases hh with ⟨rfl, hh⟩ | ⟨rfl, hh⟩
        · try simp only [TUP_mk, AGG_mk, HD_mk, NL_mk, TYI_mk, TYB_mk, TYP_mk, TYL_mk, TYS_mk, TYM_mk, SO_mk, NX_mk, endK_mk, endK_mk', add_0]
          rw [Bool.not_true, BR_f]
          refine hfn t2 ⟨hfr2, ?_, (frt t1 k1).trans ⟨hsz, hf⟩⟩
          rw [goodN_succ hg, if_pos hgood]
          exact hh
        · try simp only [TUP_mk, AGG_mk, HD_mk, NL_mk, TYI_mk, TYB_mk, TYP_mk, TYL_mk, TYS_mk, TYM_mk, SO_mk, NX_mk, endK_mk, endK_mk', add_0]
          rw [Bool.not_false, BR_t]
          exact hfr' t2 ⟨hfr2, rfl, hh⟩
  · rintro u ⟨iu, fu⟩
    rw [goodN_all] at iu
    exact ⟨⟨_, rfl⟩, .inl iu⟩
  · rintro cd u ⟨rfl, ju⟩
    exact ⟨⟨_, rfl⟩, .inr ju⟩
end
end Go.Proofs.Ytknpmijgdfeliaa.G

/- Clock: whether there is a truth; the ends of what is so in all of them. -/
set_option linter.unusedSimpArgs false
set_option linter.unusedVariables false
set_option maxRecDepth 20000
namespace Go.Proofs.Ytknpmijgdfeliaa.G
open Go.V
theorem kp_more {D : Nat → Prop} {s0 u1 u2 : Hp} {m : Nat} (hm : s0.size ≤ m) (k : Kp D s0 u1) (hz : u1.size ≤ u2.size) (hb : ∀ b, b < u1.size → ¬ m ≤ b → u2[b]? = u1[b]?) : Kp D s0 u2 :=
  ⟨Nat.le_trans k.1 hz, fun b hb1 hd => (hb b (Nat.lt_of_lt_of_le hb1 k.1) (by omega)).trans (k.2 b hb1 hd)⟩
theorem own_more {u1 u2 : Hp} {m : Nat} {a : Addr} {v : Value} (ho : Own u1 a v) (hm : a.block < m) (hb : ∀ b, b < u1.size → ¬ m ≤ b → u2[b]? = u1[b]?) : Own u2 a v :=
  ⟨by rw [cell_of_block (hb _ ho.lt (by omega))]; exact ho.1, by rw [frozen_of_block (hb _ ho.lt (by omega))]; exact ho.2⟩
theorem TrR.blind {p : Addr} {c : Clk} {S : Nat} {a b : Addr} : Blind (TrR p c S a b) := fun u q o hq ho h => ⟨h.1.ce (CE.blind hq), cell_blind hq h.2.1, cell_blind hq h.2.2⟩
theorem TrY.down {c : Clk} {S : Nat} : ∀ k x (u : Hp) q o, u[q]? = some o → hidden o = true → TrY c S k x u → TrY c S k x (u.setIfInBounds q junk) := by
  rintro k x u q o hq ho ⟨g, r, l, h1, h2, ⟨es, cl, h3, h4⟩, h5⟩
  refine ⟨g, r, l, h1, h2, ⟨es, cl, ?_, h4⟩, h5⟩
  rw [Array.getElem?_setIfInBounds_ne (fun e => by subst e; rw [h3] at hq; cases hq; cases ho)]
  exact h3
def CanC (c : Clk) (S : Nat) : Prop := ∃ g m, Truth c S g m
theorem good_can {c : Clk} {S : Nat} (hv : VdC c) {g : List Go'} : g ∈ goodL c S ↔ ∃ m, m (-1) = 0 ∧ Truth c S g m := by
  unfold goodL
  rw [List.mem_filter, good_iff, mem_chL]
  constructor
  · rintro ⟨hg, m, hm0, hm⟩
    exact ⟨m, hm0, (truth_iff hv).2 ⟨hg, hm⟩⟩
  · rintro ⟨m, hm0, h⟩
    obtain ⟨hg, hm⟩ := (truth_iff hv).1 h
    exact ⟨hg, m, hm0, hm⟩
theorem truth_zero {c : Clk} {S : Nat} (hv : VdC c) {g : List Go'} {m : Int → Int} (h : Truth c S g m) : Truth c S g (fun e => if e = -1 then 0 else m e) where
  goes := h.goes
  days := fun e h0 h1 => by rw [if_neg (by omega)]; exact h.days e h0 h1
  shows := fun i hi hb => by
    have := (hv.rd _ (List.getElem_mem hi)).1
    rw [if_neg (by omega)]; exact h.shows i hi hb
  links := fun l hl => by
    have := hv.lk l hl
    rw [if_neg (by omega), if_neg (by omega)]; exact h.links l hl
theorem can_len {c : Clk} {S : Nat} (hv : VdC c) : CanC c S ↔ 0 < (goodL c S).length := by
  rw [List.length_pos_iff_exists_mem]
  constructor
  · rintro ⟨g, m, h⟩
    exact ⟨g, (good_can hv).2 ⟨fun e => if e = -1 then 0 else m e, if_pos rfl, truth_zero hv h⟩⟩
  · rintro ⟨g, h⟩
    obtain ⟨m, _, h⟩ := (good_can hv).1 h
    exact ⟨g, m, h⟩
noncomputable def canB (c : Clk) (S : Nat) : Bool := by classical exact decide (CanC c S)
theorem canB_iff {c : Clk} {S : Nat} : canB c S = true ↔ CanC c S := by unfold canB; simp
section
variable {W : World} {K : VK} {E : List PanicEntry → Hp → Prop} {s : Hp} {p : Addr} {c : Clk}
theorem c_can {S : Nat} (hc : ClO s p c) (hS : S < 256) (h : ∀ s', Ext s s' → K (.bool (canB c S)) s') : CALL Pg W F_clock_clock_can [.pointer (some p), .int .u64 (S : Nat)] K E s := by
  refine does_clock_clock_can W (some p) S _ s ?_
  unfold T_clock_clock_can
  have hv := hc.ok
  refine nz1 zc_4 fun s1 e1 z1 o1 => ?_
  refine c_truths fun s2 e2 z2 ca cb => ?_
  try simp only [TUP_mk, AGG_mk, HD_mk, NL_mk, TYI_mk, TYB_mk, TYP_mk, TYL_mk, TYS_mk, TYM_mk, SO_mk, NX_mk, endK_mk, endK_mk', add_0]
  have e12 := e1.trans e2
  have hs1 : s.size < s1.size := by omega
  have ext : ∀ {u}, Kp (· = s.size) s2 u → Ext s u := fun k => kp_nil e12 (fun b hb => by have : b = s.size := hb; omega) k
  refine ⟨(goodL c S).length, TrY c S, TrR p c S ⟨s1.size, 0, none⟩ ⟨s1.size + 1, 0, none⟩, true, fun k u => k = 0 ∧ Kp (· = s.size) s2 u ∧ Own u ⟨s.size, 0, none⟩ (.bool false), fun cd u => cd = .ret ∧ 0 < (goodL c S).length ∧ Kp (· = s.size) s2 u ∧ Own u ⟨s.size, 0, none⟩ (.bool true), it_truths hS, TrR.blind, TrY.down, ?_, ?_, ?_, ?_, ?_, ?_, ?_⟩
  · rintro k u ⟨_, ku, _⟩
    exact ⟨hc.ext (ext ku), ku.cell (by show ¬ s1.size = s.size; omega) ca, ku.cell (by show ¬ s1.size + 1 = s.size; omega) cb⟩
  · rintro k u1 u2 ⟨h0, ku, ou⟩ hz hb
    have hb' : ∀ b, b < u1.size → ¬ s2.size + 2 ≤ b → u2[b]? = u1[b]? := fun b h1 h2 => hb b h1 fun hh => h2 hh.2
    exact ⟨h0, kp_more (by omega) ku hz hb', own_more ou (by show s.size < s2.size + 2; omega) hb'⟩
  · rintro - cd u1 u2 ⟨h0, hn, ku, ou⟩ hz hb
    exact ⟨h0, hn, kp_more (by omega) ku hz hb, own_more ou (by show s.size < s2.size + 2; omega) hb⟩
  · have ep : Ext s2 ((s2.push junk).push junk) := Ext.push (Ext.push (Ext.refl _))
    exact ⟨rfl, ep.kp, ep.own (e2.own o1)⟩
  · rintro k x u hk ⟨_, ku, ou⟩ ⟨g, r, l, h1, rfl, h2⟩
    refine ⟨rfl, ?_⟩
    try simp only [TUP_mk, AGG_mk, HD_mk, NL_mk, TYI_mk, TYB_mk, TYP_mk, TYL_mk, TYS_mk, TYM_mk, SO_mk, NX_mk, endK_mk, endK_mk', add_0]
    refine wr1 (a := ⟨s.size, 0, none⟩) ou rfl fun u1 k1 z1 o1 => ?_
    exact ⟨fun b hb0 hb1 => k1.2 b hb1 (by show ¬ b = s.size; omega), trivial, by omega, ku.trans k1, o1⟩
  · rintro u ⟨h0, ku, ou⟩
    refine wr1 (a := ⟨s.size, 0, none⟩) ou rfl fun u1 k1 z1 o1 => ⟨_, o1.cell, ?_⟩
    have hh := h u1 (ext (ku.trans k1))
    have hcb : canB c S = false := by
      cases hcb : canB c S with
      | false => rfl
      | true => have := (can_len hv).1 (canB_iff.1 hcb); omega
    rw [hcb] at hh
    exact hh
  · rintro cd u ⟨rfl, hn, ku, ou⟩
    refine ⟨_, ou.cell, ?_⟩
    have hh := h u (ext ku)
    rw [canB_iff.2 ((can_len hv).2 hn)] at hh
    exact hh
theorem every_is : ∀ n : Nat, n ≤ 8 → IntKind.wrap .u64 (shlv .u64 1 (n : Int) - 1) = ((2 ^ n - 1 : Nat) : Int) := by decide +kernel
def everyN (c : Clk) : Nat := 2 ^ c.rs.length - 1
theorem every_lt {c : Clk} (hv : VdC c) : everyN c < 256 := by
  have h8 := hv.r8
  have := Nat.pow_le_pow_right (show 0 < 2 by omega) h8
  unfold everyN
  omega
theorem c_every (hc : ClO s p c) (h : K (.int .u64 (everyN c : Nat)) s) : CALL Pg W F_clock_clock_every [.pointer (some p)] K E s := by
  refine does_clock_clock_every W (some p) _ s ?_
  unfold T_clock_clock_every
  obtain ⟨x, cap, h1, _⟩ := hc.rs
  refine ⟨_, _, _, h1, NNI_of (by omega) ?_⟩
  rw [every_is _ hc.ok.r8]
  exact h
end
end Go.Proofs.Ytknpmijgdfeliaa.G

/- Clock: what is so in all truths. -/
set_option linter.unusedSimpArgs false
set_option linter.unusedVariables false
set_option maxRecDepth 20000
namespace Go.Proofs.Ytknpmijgdfeliaa.G
open Go.V
theorem zc_113 : zc Pg 113 = [.int .i64 0, .int .i64 0, .bool false] := by kernel_rfl
theorem zc_114 : zc Pg 114 = [.nilFunc] := by kernel_rfl
/-- Ends, and what they become. -/
abbrev En := Int × Int × Bool
def stE (e : En) (n : Int) : En := if e.2.2 then (min e.1 n, max e.2.1 n, true) else (n, n, true)
structure EnAt (s : Hp) (B : Nat) (e : En) : Prop where
  lo : Own s ⟨B, 0, none⟩ (.int .i64 e.1)
  hi : Own s ⟨B, 1, none⟩ (.int .i64 e.2.1)
  sm : Own s ⟨B, 2, none⟩ (.bool e.2.2)
theorem EnAt.kp {D : Nat → Prop} {s s' : Hp} {B : Nat} {e : En} (k : Kp D s s') (hd : ¬ D B) (h : EnAt s B e) : EnAt s' B e := ⟨k.own hd h.lo, k.own hd h.hi, k.own hd h.sm⟩
theorem EnAt.ext {s s' : Hp} {B : Nat} {e : En} (k : Ext s s') (h : EnAt s B e) : EnAt s' B e := ⟨k.own h.lo, k.own h.hi, k.own h.sm⟩
section
variable {W : World} {K : VK} {E : List PanicEntry → Hp → Prop} {s : Hp} {p : Addr} {c : Clk}
theorem wrOne {B i : Nat} {v y : Value} {K : Hp → Prop} (ho : Own s ⟨B, i, none⟩ y) (h1 : oneCell v = true) (h : ∀ s', Kp (· = B) s s' → s'.size = s.size → Own s' ⟨B, i, none⟩ v → (∀ j w, j ≠ i → Own s ⟨B, j, none⟩ w → Own s' ⟨B, j, none⟩ w) → K s') : WR ⟨B, i, none⟩ v K s :=
  WR_own ho h1 (h _ (Kp.setC (Kp.refl s) (.inl rfl)) (setC_size _ _ _) (own_set ho) fun j w hj hw => own_set_ne (.inr hj) hw)
theorem min_eq (a b : Int) : (if b < a then b else a) = min a b := by rw [Int.min_def]; split <;> split <;> omega
theorem max_eq (a b : Int) : (if b > a then b else a) = max a b := by rw [Int.max_def]; split <;> split <;> omega
theorem c_keep {B : Nat} {e : En} {x : Option Addr} {a b : Int} {cap : Nat} (he : EnAt s B e) (hx : RowAt s x [.int .i64 a, .int .i64 b]) (hxB : ∀ y, x = some y → y.block ≠ B) (h : ∀ s', Kp (· = B) s s' → EnAt s' B (stE (stE e a) b) → K (.tuple #[]) s') :
    CALL Pg W F_clock_ends_int_keep [.pointer (some ⟨B, 0, none⟩), .slice x 2 cap] K E s := by
  refine does_clock_ends_int_keep W (some ⟨B, 0, none⟩) x 2 cap _ s ?_
  unfold T_clock_ends_int_keep
  refine L_clock_ends_int_keep_0_rule W _ (some ⟨B, 0, none⟩) x 2 cap ((2 : Nat) : Int) (fun n t => ∃ k : Nat, n = k ∧ k ≤ 2 ∧ Kp (· = B) s t ∧ EnAt t B (([a, b].take k).foldl stE e)) (fun n _ => (2 - n).toNat) 0 s ⟨0, rfl, by omega, Kp.refl _, he⟩ ?_
  rintro n t ⟨k, rfl, hk, kt, et⟩
  unfold B_clock_ends_int_keep_0
  refine BR_dec (fun hlt => ?_) (fun hge => ?_)
  rotate_left
  · have hk2 : k = 2 := by omega
    subst hk2
    exact h t kt et
  have hk2 : k < 2 := by omega
  obtain ⟨y, hy, hcell⟩ := (hx.keep kt (fun a ha => hxB a ha)) k (by simpa using hk2)
  subst hy
  refine IXS_nat hk2 ?_
  generalize hen : ([a, b].take k).foldl stE e = en at *
  have hval : ∃ v : Int, ([Value.int .i64 a, Value.int .i64 b])[k]'(by simpa using hk2) = .int .i64 v ∧ ([a, b].take (k + 1)).foldl stE e = stE en v := by
    have : k = 0 ∨ k = 1 := by omega
    rcases this with rfl | rfl
    · exact ⟨a, rfl, by rw [← hen]; rfl⟩
    · exact ⟨b, rfl, by rw [← hen]; rfl⟩
  obtain ⟨v, hv, hst⟩ := hval
  rw [hv] at hcell
  refine ⟨_, hcell, ?_⟩
  have hJ : ∀ t1 (e1 : En), Kp (· = B) s t1 → EnAt t1 B e1 → e1.2.2 = true → stE e1 v = stE en v → J_clock_ends_int_keep_0 W (endK K E) (some ⟨B, 0, none⟩) v (some y) 2 cap ((2 : Nat) : Int) (fun vs => N_clock_ends_int_keep_0 (fun n t => ∃ k : Nat, n = k ∧ k ≤ 2 ∧ Kp (· = B) s t ∧ EnAt t B (([a, b].take k).foldl stE e)) (fun n _ => (2 - n).toNat) (k : Nat) t vs) (k : Nat) t1 := by
    intro t1 e1 k1 en1 hsm hse
    have hfin : ∀ t2, Kp (· = B) s t2 → EnAt t2 B (stE e1 v) → N_clock_ends_int_keep_0 (fun n t => ∃ k : Nat, n = k ∧ k ≤ 2 ∧ Kp (· = B) s t ∧ EnAt t B (([a, b].take k).foldl stE e)) (fun n _ => (2 - n).toNat) (k : Nat) t [Value.int .i64 (IntKind.i64.wrap ((k : Int) + 1))] t2 := fun t2 k2 e2 => by
      refine ⟨_, rfl, ⟨k + 1, wrap_succ (by omega), hk2, k2, ?_⟩, ?_⟩
      · rw [hst, ← hse]; exact e2
      · rw [wrap_succ (by omega)]
        show (2 - ((k + 1 : Nat) : Int)).toNat < (2 - (k : Int)).toNat
        omega
    have hmx : ∀ t2, Kp (· = B) s t2 → Own t2 ⟨B, 0, none⟩ (.int .i64 (min e1.1 v)) → Own t2 ⟨B, 1, none⟩ (.int .i64 (max e1.2.1 v)) → Own t2 ⟨B, 2, none⟩ (.bool e1.2.2) → EnAt t2 B (stE e1 v) := fun t2 k2 a1 a2 a3 => by
      unfold stE
      rw [if_pos hsm]
      exact ⟨a1, a2, by rw [hsm] at a3; exact a3⟩
    unfold J_clock_ends_int_keep_0
    refine ⟨_, en1.lo.cell, ⟨_, en1.hi.cell, ?_⟩⟩
    dsimp only
    rw [min_eq, max_eq]
    have hgo : WR (Addr.add (Addr.add ⟨B, 0, none⟩ 0) 0) (.int .i64 (min e1.1 v)) (WR (Addr.add (Addr.add ⟨B, 0, none⟩ 1) 0) (.int .i64 (max e1.2.1 v)) (NX [(.pointer (some ⟨B, 0, none⟩)), (.slice (some y) 2 cap), (.int .i64 ((2 : Nat) : Int)), (.tuple #[])] [(.pointer (some ⟨B, 0, none⟩)), (.slice (some y) 2 cap), (.int .i64 ((2 : Nat) : Int)), (.tuple #[])] (N_clock_ends_int_keep_0 (fun n t => ∃ k : Nat, n = k ∧ k ≤ 2 ∧ Kp (· = B) s t ∧ EnAt t B (([a, b].take k).foldl stE e)) (fun n _ => (2 - n).toNat) (k : Nat) t [Value.int .i64 (IntKind.i64.wrap ((k : Int) + 1))]))) t1 := by
      refine wrOne (i := 0) en1.lo rfl fun t2 k2 z2 a0 ak => ?_
      refine wrOne (i := 1) (ak 1 _ (by omega) en1.hi) rfl fun t3 k3 z3 b1 bk => ?_
      refine ⟨rfl, hfin t3 ((k1.trans k2).trans k3) (hmx t3 ((k1.trans k2).trans k3) (bk 0 _ (by omega) a0) b1 (bk 2 _ (by omega) (ak 2 _ (by omega) en1.sm)))⟩
    refine CONJ_two (ANDS_i ⟨_, en1.hi.cell, rfl⟩ (CONJ_two hgo hgo)) (ANDS_i ⟨_, en1.lo.cell, rfl⟩ hgo)
  refine ⟨_, et.sm.cell, ?_⟩
  refine BR_not (fun hsm => ?_) (fun hsm => hJ t en kt et hsm rfl)
  refine wrOne (i := 0) et.lo rfl fun t2 k2 z2 a0 ak => ?_
  refine wrOne (i := 1) (ak 1 _ (by omega) et.hi) rfl fun t3 k3 z3 b1 bk => ?_
  refine wrOne (i := 2) (bk 2 _ (by omega) (ak 2 _ (by omega) et.sm)) rfl fun t4 k4 z4 c2 ck => ?_
  refine hJ t4 (v, v, true) (((kt.trans k2).trans k3).trans k4) ⟨ck 0 _ (by omega) (bk 0 _ (by omega) a0), ck 1 _ (by omega) b1, c2⟩ rfl ?_
  unfold stE
  rw [if_pos rfl, if_neg (by rw [hsm]; simp)]
  show (min v v, max v v, true) = (v, v, true)
  rw [Int.min_self, Int.max_self]
/-- A number is so in all truths of a way: it has these ends. -/
def SpanG (c : Clk) (S : Nat) (val : List Go' → (Int → Int) → Int) (g : List Go') (lo hi : Int) : Prop :=
  (∃ m, Truth c S g m ∧ val g m = lo) ∧ (∃ m, Truth c S g m ∧ val g m = hi) ∧ ∀ m, Truth c S g m → lo ≤ val g m ∧ val g m ≤ hi
/-- .. of all truths. -/
def SpanC (c : Clk) (S : Nat) (val : List Go' → (Int → Int) → Int) (lo hi : Int) : Prop :=
  (∃ g m, Truth c S g m ∧ val g m = lo) ∧ (∃ g m, Truth c S g m ∧ val g m = hi) ∧ ∀ g m, Truth c S g m → lo ≤ val g m ∧ val g m ≤ hi
/-- What a question asks. -/
def IsQ (W : World) (c : Clk) (S : Nat) (v : Value) (Q : Hp → Prop) (val : List Go' → (Int → Int) → Int) : Prop :=
  oneCell v = true ∧ (∀ s s', Q s → Ext s s' → Q s') ∧ ∀ (g : List Go') (r : Nat) (l : List Pr) (s1 : Hp) (K : VK) (E : List PanicEntry → Hp → Prop), Q s1 → MapL s1 r l → Bd c S g (get l) → (∀ s2 lo hi, Ext s1 s2 → SpanG c S val g lo hi → K (.agg #[.int .i64 lo, .int .i64 hi]) s2) → CALLV Pg W v [chV g, .map (some r)] K E s1
/-- The ends of what is so in the truths of the first ways. -/
def EnK (c : Clk) (S : Nat) (val : List Go' → (Int → Int) → Int) (k : Nat) (e : En) : Prop :=
  (k = 0 → e.2.2 = false) ∧ (0 < k → e.2.2 = true ∧ e.1 ≤ e.2.1 ∧ (∃ g m, Truth c S g m ∧ val g m = e.1) ∧ (∃ g m, Truth c S g m ∧ val g m = e.2.1) ∧ ∀ g ∈ (goodL c S).take k, ∀ m, Truth c S g m → e.1 ≤ val g m ∧ val g m ≤ e.2.1)
theorem EnK.step {S : Nat} {val : List Go' → (Int → Int) → Int} {k : Nat} {e : En} {g : List Go'} {lo hi : Int} (h : EnK c S val k e) (hg : (goodL c S)[k]? = some g) (hs : SpanG c S val g lo hi) : EnK c S val (k + 1) (stE (stE e lo) hi) := by
  refine ⟨(fun h => by omega), fun _ => ?_⟩
  obtain ⟨⟨m1, t1, v1⟩, ⟨m2, t2, v2⟩, hall⟩ := hs
  have hlh : lo ≤ hi := by have := hall m1 t1; omega
  have htk : (goodL c S).take (k + 1) = (goodL c S).take k ++ [g] := by rw [List.take_add_one, hg]; rfl
  by_cases hk : k = 0
  · subst hk
    have hsm := h.1 rfl
    have e1 : stE (stE e lo) hi = (lo, hi, true) := by
      unfold stE
      rw [hsm]
      simp only [Bool.false_eq_true, if_false, if_true]
      rw [Int.min_eq_left hlh, Int.max_eq_right hlh]
    rw [e1]
    refine ⟨rfl, hlh, ⟨g, m1, t1, v1⟩, ⟨g, m2, t2, v2⟩, fun g' hg' m hm => ?_⟩
    rw [htk] at hg'
    simp at hg'
    subst hg'
    exact hall m hm
  · obtain ⟨hsm, hle, ⟨ga, ma, ta, va⟩, ⟨gb, mb, tb, vb⟩, hw⟩ := h.2 (by omega)
    have e1 : stE (stE e lo) hi = (min e.1 lo, max e.2.1 hi, true) := by
      unfold stE
      rw [hsm]
      simp only [if_true]
      have h1 : min (min e.1 lo) hi = min e.1 lo := Int.min_eq_left (by have := Int.min_le_right e.1 lo; omega)
      have h2 : max (max e.2.1 lo) hi = max e.2.1 hi := by omega
      rw [h1, h2]
    rw [e1]
    refine ⟨rfl, ?_, ?_, ?_, fun g' hg' m hm => ?_⟩
    · have := Int.min_le_left e.1 lo; have := Int.le_max_left e.2.1 hi; show min e.1 lo ≤ max e.2.1 hi; omega
    · show ∃ g m, Truth c S g m ∧ val g m = min e.1 lo
      rw [Int.min_def]; split
      · exact ⟨ga, ma, ta, va⟩
      · exact ⟨g, m1, t1, v1⟩
    · show ∃ g m, Truth c S g m ∧ val g m = max e.2.1 hi
      rw [Int.max_def]; split
      · exact ⟨g, m2, t2, v2⟩
      · exact ⟨gb, mb, tb, vb⟩
    · show min e.1 lo ≤ val g' m ∧ val g' m ≤ max e.2.1 hi
      have a1 := Int.min_le_left e.1 lo
      have a2 := Int.min_le_right e.1 lo
      have a3 := Int.le_max_left e.2.1 hi
      have a4 := Int.le_max_right e.2.1 hi
      rw [htk] at hg'
      rcases List.mem_append.1 hg' with hg' | hg'
      · have := hw g' hg' m hm; omega
      · simp at hg'; subst hg'
        have := hall m hm; omega
theorem EnK.all {S : Nat} {val : List Go' → (Int → Int) → Int} {e : En} (hv : VdC c) (h : EnK c S val (goodL c S).length e) : e.2.2 = canB c S ∧ (CanC c S → SpanC c S val e.1 e.2.1) := by
  have hlen := can_len (S := S) hv
  have hgo : CanC c S → e.2.2 = true ∧ SpanC c S val e.1 e.2.1 := fun hc => by
    obtain ⟨h1, _, h2, h3, h4⟩ := h.2 (hlen.1 hc)
    refine ⟨h1, h2, h3, fun g m hm => ?_⟩
    have hz := truth_zero hv hm
    rw [List.take_length] at h4
    exact h4 g ((good_can hv).2 ⟨fun e => if e = -1 then 0 else m e, if_pos rfl, hz⟩) m hm
  refine ⟨?_, fun hc => (hgo hc).2⟩
  cases hb : canB c S with
  | true => exact (hgo (canB_iff.1 hb)).1
  | false =>
    refine h.1 ?_
    have : ¬ CanC c S := fun hc => by rw [canB_iff.2 hc] at hb; cases hb
    rw [hlen] at this
    omega
end
end Go.Proofs.Ytknpmijgdfeliaa.G

/- Clock: the answer to a question. -/
set_option linter.unusedSimpArgs false
set_option linter.unusedVariables false
set_option maxRecDepth 20000
namespace Go.Proofs.Ytknpmijgdfeliaa.G
open Go.V
theorem zc_96 : zc Pg 96 = [.nilFunc] := by kernel_rfl
theorem zc_3 : zc Pg 3 = [.int .i64 0] := by kernel_rfl
section
variable {W : World} {K : VK} {E : List PanicEntry → Hp → Prop} {s : Hp} {p : Addr} {c : Clk}
theorem chk_cells (b : Nat) {u : Hp} {g : List Go'} (p1 : Own u ⟨b, 0, none⟩ (.int .i64 (g.getD 0 (0, 0)).1)) : True := trivial
theorem c_ask {v : Value} {Q : Hp → Prop} {val : List Go' → (Int → Int) → Int} (hc : ClO s p c) (hq : IsQ W c (everyN c) v Q val) (hQ : Q s) (hQD : ∀ u1 u2 (D : Nat → Prop), Q u1 → Ext s u1 → Kp D u1 u2 → (∀ b, D b → s.size ≤ b) → Q u2)
    (h0 : ∀ s', Ext s s' → ¬ CanC c (everyN c) → E (pn 10) s') (h1 : ∀ s' lo hi, Ext s s' → SpanC c (everyN c) val lo hi → K (.agg #[.int .i64 lo, .int .i64 hi]) s') : CALL Pg W F_clock_clock_ask [.pointer (some p), .agg #[v]] K E s := by
  refine does_clock_clock_ask W (some p) v _ s ?_
  unfold T_clock_clock_ask
  have hv := hc.ok
  obtain ⟨hone, hqe, hqc⟩ := hq
  refine ne1 fun s1 e1 z1 o1 => ?_
  refine nz2 zc_34 fun s2 e2 z2 o2a o2b => ?_
  refine NEWZ_rule zc_113 fun s3 e3 z3 n3 => ?_
  refine nz1 zc_114 fun s4' e4' z4' o4' => ?_
  refine wr1 (a := ⟨s3.size, 0, none⟩) o4' rfl fun s4 k4 z4 o4 => ?_
  have e4 : Ext s3 s4 := ext_kp e4' (Nat.le_refl _) k4
  have e24 := (e2.trans e3).trans e4
  have e14 := e1.trans e24
  refine c_every (hc.ext e14) ?_
  try simp only [TUP_mk, AGG_mk, HD_mk, NL_mk, TYI_mk, TYB_mk, TYP_mk, TYL_mk, TYS_mk, TYM_mk, SO_mk, NX_mk, endK_mk, endK_mk', add_0]
  refine c_truths fun s5 e5 z5 ca cb => ?_
  try simp only [TUP_mk, AGG_mk, HD_mk, NL_mk, TYI_mk, TYB_mk, TYP_mk, TYL_mk, TYS_mk, TYM_mk, SO_mk, NX_mk, endK_mk, endK_mk', add_0]
  have e15 := e14.trans e5
  -- blocks: s.size (question), s1.size (answer), s2.size (ends), s3.size (keep)
  have hb1 : s.size < s1.size := by omega
  have hb2 : s1.size < s2.size := by omega
  have hb3 : s2.size < s3.size := by omega
  have hb4 : s3.size < s4.size := by omega
  have en0 : EnAt s5 s2.size (0, 0, false) := ⟨(e4.trans e5).own (n3 0 _ rfl), (e4.trans e5).own (n3 1 _ rfl), (e4.trans e5).own (n3 2 _ rfl)⟩
  have oq : Own s5 ⟨s.size, 0, none⟩ v := (e24.trans e5).own o1
  have ok : Own s5 ⟨s3.size, 0, none⟩ _ := e5.own o4
  have oa : Own s5 ⟨s1.size, 0, none⟩ (.int .i64 0) := (((e3.trans e4).trans e5)).own o2a
  have ob : Own s5 ⟨s1.size, 1, none⟩ (.int .i64 0) := (((e3.trans e4).trans e5)).own o2b
  have ext : ∀ {u}, Kp (· = s2.size) s5 u → Ext s u := fun k => kp_nil e15 (fun b hb => by have : b = s2.size := hb; omega) k
  have hQu : ∀ {u}, Kp (· = s2.size) s5 u → Q u := fun k => hQD s5 _ _ (hqe _ _ hQ e15) e15 k (fun b hb => by have : b = s2.size := hb; omega)
  refine ⟨(goodL c (everyN c)).length, TrY c (everyN c), TrR p c (everyN c) ⟨s4.size, 0, none⟩ ⟨s4.size + 1, 0, none⟩, true, fun k u => Kp (· = s2.size) s5 u ∧ ∃ e, EnAt u s2.size e ∧ EnK c (everyN c) val k e, fun _ _ => False, it_truths (every_lt hv), TrR.blind, TrY.down, ?_, ?_, ?_, ?_, ?_, ?_, ?_⟩
  · rintro k u ⟨ku, _⟩
    exact ⟨hc.ext (ext ku), ku.cell (by show ¬ s4.size = s2.size; omega) ca, ku.cell (by show ¬ s4.size + 1 = s2.size; omega) cb⟩
  · rintro k u1 u2 ⟨ku, e, ea, ek⟩ hz hb
    have hb' : ∀ b, b < u1.size → ¬ s5.size + 2 ≤ b → u2[b]? = u1[b]? := fun b h1 h2 => hb b h1 fun hh => h2 hh.2
    have hlt : s2.size < s5.size + 2 := by omega
    exact ⟨kp_more (by omega) ku hz hb', e, ⟨own_more ea.lo hlt hb', own_more ea.hi hlt hb', own_more ea.sm hlt hb'⟩, ek⟩
  · rintro - cd u1 u2 h; exact h.elim
  · have ep : Ext s5 ((s5.push junk).push junk) := Ext.push (Ext.push (Ext.refl _))
    exact ⟨ep.kp, (0, 0, false), en0.ext ep, ⟨fun _ => rfl, fun h => by omega⟩⟩
  · rintro k x u hk ⟨ku, e, ea, ek⟩ ⟨g, r, l, hg, rfl, ml, bd⟩
    refine ⟨rfl, ?_⟩
    unfold chV
    try simp only [TUP_mk, AGG_mk, HD_mk, NL_mk, TYI_mk, TYB_mk, TYP_mk, TYL_mk, TYS_mk, TYM_mk, SO_mk, NX_mk, endK_mk, endK_mk', add_0]
    refine nw4 zc_91 rfl rfl rfl rfl fun u1 f1 y1 p1 p2 p3 p4 => ?_
    have oqu : Own u1 ⟨s.size, 0, none⟩ v := f1.own (ku.own (by show ¬ s.size = s2.size; omega) oq)
    refine ⟨_, oqu.cell, ⟨_, p1.cell, ⟨_, p2.cell, ⟨_, p3.cell, ⟨_, p4.cell, ?_⟩⟩⟩⟩⟩
    refine hqc g r l u1 _ _ (hqe _ _ (hQu ku) f1) (ml.ext f1) bd fun u2 lo hi f2 sp => ?_
    try simp only [TUP_mk, AGG_mk, HD_mk, NL_mk, TYI_mk, TYB_mk, TYP_mk, TYL_mk, TYS_mk, TYM_mk, SO_mk, NX_mk, endK_mk, endK_mk', add_0]
    refine nw2 zc_34 rfl rfl fun u3 f3 y3 q1 q2 => ?_
    have f13 := (f1.trans f2).trans f3
    have oku : Own u3 ⟨s3.size, 0, none⟩ _ := f13.own (ku.own (by show ¬ s3.size = s2.size; omega) ok)
    refine ⟨_, oku.cell, ⟨_, q1.cell, ⟨_, q2.cell, ?_⟩⟩⟩
    refine ne2 fun u4 f4 y4 w1 w2 => ?_
    show CALL Pg W F_clock_ends_int_keep [.pointer (some ⟨s2.size, 0, none⟩), .slice (some ⟨u3.size, 0, none⟩) 2 2] _ _ u4
    have f14 := f13.trans f4
    have hus : s5.size ≤ u.size := ku.1
    have hu3 : u.size ≤ u3.size := f13.1
    refine c_keep (B := s2.size) (e := e) (a := lo) (b := hi) (ea.ext f14) (fun i hi' => ?_) (fun y hy => by cases hy; show u3.size ≠ s2.size; omega) fun u5 k5 e5 => ?_
    · refine ⟨⟨u3.size, 0, none⟩, rfl, ?_⟩
      have : i = 0 ∨ i = 1 := by simp at hi'; omega
      rcases this with rfl | rfl
      · exact w1.cell
      · exact w2.cell
    · try simp only [TUP_mk, AGG_mk, HD_mk, NL_mk, TYI_mk, TYB_mk, TYP_mk, TYL_mk, TYS_mk, TYM_mk, SO_mk, NX_mk, endK_mk, endK_mk', add_0]
      exact ⟨fun b hb0 hb1 => (k5.2 b (by have := f14.1; omega) (by show ¬ b = s2.size; omega)).trans (f14.2 b hb1), (ku.ext f14).trans k5, _, e5, ek.step hg sp⟩
  · rintro u ⟨ku, e, ea, ek⟩
    obtain ⟨hsm, hsp⟩ := ek.all hv
    refine ⟨_, ea.sm.cell, ?_⟩
    refine c_need (fun hb => ?_) (fun hb => ?_)
    · try simp only [TUP_mk, AGG_mk, HD_mk, NL_mk, TYI_mk, TYB_mk, TYP_mk, TYL_mk, TYS_mk, TYM_mk, SO_mk, NX_mk, endK_mk, endK_mk', add_0]
      refine ⟨_, ea.lo.cell, ⟨_, ea.hi.cell, ?_⟩⟩
      have na : ¬ s1.size = s2.size := by omega
      refine wrOne (i := 0) (ku.own na oa) rfl fun u1 k1 y1 q1 qk => ?_
      refine wrOne (i := 1) (qk 1 _ (by omega) (ku.own na ob)) rfl fun u2 k2 y2 w1 wk => ?_
      refine ⟨_, (wk 0 _ (by omega) q1).cell, ⟨_, w1.cell, ?_⟩⟩
      refine h1 u2 _ _ (kp_nil (ext ku) (fun b hb => by have : b = s1.size := hb; omega) (k1.trans k2)) (hsp ?_)
      rw [hsm] at hb
      exact canB_iff.1 hb
    · refine h0 u (ext ku) fun hcn => ?_
      rw [hsm, canB_iff.2 hcn] at hb
      cases hb
  · rintro cd u h; exact h.elim
end
end Go.Proofs.Ytknpmijgdfeliaa.G

/- Clock: the questions. -/
set_option linter.unusedSimpArgs false
set_option linter.unusedVariables false
set_option maxRecDepth 20000
namespace Go.Proofs.Ytknpmijgdfeliaa.G
open Go.V
def atM (m : Int → Int) (e : Int) : Int := if e = -1 then 0 else m e
/-- By how much an event is later than another one. -/
def laterV (a b : Int) : List Go' → (Int → Int) → Int := fun _ m => atM m b - atM m a
def showV (w e : Int) : List Go' → (Int → Int) → Int := fun g m => showP (g.getD w.toNat (0, 0)) (atM m e)
def zeroV (w : Int) : List Go' → (Int → Int) → Int := fun g _ => (g.getD w.toNat (0, 0)).1
def rateV (w : Int) : List Go' → (Int → Int) → Int := fun g _ => (g.getD w.toNat (0, 0)).2
theorem Bd.sat {c : Clk} {S : Nat} {g : List Go'} {D : BF} (hv : VdC c) (h : Bd c S g D) {m : Int → Int} (ht : Truth c S g m) : Sat D (atM m) := by
  obtain ⟨D0, tg, hs⟩ := h.tight
  have hz := truth_zero hv ht
  exact (tg.sat _).1 ((hs (atM m) (if_pos rfl)).2 ((truth_iff hv).1 hz).2)
theorem Bd.at {c : Clk} {S : Nat} {g : List Go'} {D : BF} (hv : VdC c) (h : Bd c S g D) {a b v : Int} (hg : D (a, b) = some v) : ∃ m, Truth c S g m ∧ atM m b - atM m a = v := by
  obtain ⟨D0, tg, hs⟩ := h.tight
  obtain ⟨m, h1, h2, h3⟩ := tg.at hg
  have e : atM m = m := by funext x; unfold atM; split <;> simp_all
  exact ⟨m, (truth_iff hv).2 ⟨h.goes, (hs m h2).1 h1⟩, by rw [e]; exact h3⟩
theorem Bd.some {c : Clk} {S : Nat} {g : List Go'} {D : BF} (hv : VdC c) (h : Bd c S g D) : ∃ m, Truth c S g m := by
  obtain ⟨D0, tg, hs⟩ := h.tight
  obtain ⟨m, h1, h2⟩ := tg.some hv.n0
  exact ⟨m, (truth_iff hv).2 ⟨h.goes, (hs m h2).1 h1⟩⟩
section
variable {W : World} {K : VK} {E : List PanicEntry → Hp → Prop} {s : Hp} {c : Clk} {S : Nat} {g : List Go'} {r : Nat} {l : List Pr}
theorem c_later {a b : Int} (hv : VdC c) (hm : MapL s r l) (hb : Bd c S g (get l)) (ha : -1 ≤ a ∧ a < c.n) (hb' : -1 ≤ b ∧ b < c.n) (h : ∀ s' lo hi, Ext s s' → SpanG c S (laterV a b) g lo hi → -3000 ≤ lo ∧ hi ≤ 3000 → K (.agg #[.int .i64 lo, .int .i64 hi]) s') :
    CALL Pg W F_clock_bounds_later [.map (some r), .int .i64 a, .int .i64 b] K E s := by
  refine does_clock_bounds_later W (some r) a b _ s ?_
  unfold T_clock_bounds_later
  refine nz2 zc_34 fun s1 e1 z1 o1 o2 => ?_
  refine BR_eq (fun hab => ?_) (fun hab => ?_)
  · subst hab
    refine wrB o1 o2 rfl rfl fun s2 k2 z2 q1 q2 => ⟨_, q1.cell, ⟨_, q2.cell, ?_⟩⟩
    obtain ⟨m, hm⟩ := hb.some hv
    have hz : ∀ m, laterV a a g m = 0 := fun m => by unfold laterV; omega
    exact h s2 0 0 (ext_kp e1 (Nat.le_refl _) k2) ⟨⟨m, hm, hz m⟩, ⟨m, hm, hz m⟩, fun m _ => by rw [hz]; omega⟩ (by omega)
  · obtain ⟨D0, tg, hs⟩ := hb.tight
    obtain ⟨v, hv1, hv2⟩ := tg.has a b ha.1 ha.2 hb'.1 hb'.2 hab
    obtain ⟨w, hw1, hw2⟩ := tg.has b a hb'.1 hb'.2 ha.1 ha.2 (Ne.symm hab)
    have hsp : SpanG c S (laterV a b) g (-w) v := by
      refine ⟨?_, hb.at hv hv1, fun m ht => ?_⟩
      · obtain ⟨m, h1, h2⟩ := hb.at hv hw1
        exact ⟨m, h1, by show atM m b - atM m a = _; omega⟩
      · have h1 := hb.sat hv ht a b v hv1
        have h2 := hb.sat hv ht b a w hw1
        show -w ≤ atM m b - atM m a ∧ atM m b - atM m a ≤ v
        omega
    have hfin : WR (Addr.add ⟨s.size, 0, none⟩ 0) (.int .i64 (IntKind.wrap .i64 (0 - w))) (WR (Addr.add ⟨s.size, 0, none⟩ 1) (.int .i64 v) (RDI .i64 (Addr.add ⟨s.size, 0, none⟩ 0) fun n17 => RDI .i64 (Addr.add ⟨s.size, 0, none⟩ 1) fun n18 => (endK K E) (.returned (.agg #[(.int .i64 n17), (.int .i64 n18)])))) s1 := by
      rw [wrap_i64 (by omega) (by omega), Int.zero_sub]
      refine wrB o1 o2 rfl rfl fun s2 k2 z2 q1 q2 => ⟨_, q1.cell, ⟨_, q2.cell, ?_⟩⟩
      exact h s2 _ _ (ext_kp e1 (Nat.le_refl _) k2) hsp (by omega)
    refine CONJ_two ?_ ?_
    · refine lkp_no (k := (b, a)) (hm.ext e1) ?_
      rw [hw1]
      try simp only [TUP_mk, AGG_mk, HD_mk, NL_mk, TYI_mk, TYB_mk, TYP_mk, TYL_mk, TYS_mk, TYM_mk, SO_mk, NX_mk, endK_mk, endK_mk', add_0]
      refine lkp_no (k := (a, b)) (hm.ext e1) ?_
      rw [hv1]
      try simp only [TUP_mk, AGG_mk, HD_mk, NL_mk, TYI_mk, TYB_mk, TYP_mk, TYL_mk, TYS_mk, TYM_mk, SO_mk, NX_mk, endK_mk, endK_mk', add_0]
      exact hfin
    · refine lkp_no (k := (a, b)) (hm.ext e1) ?_
      rw [hv1]
      try simp only [TUP_mk, AGG_mk, HD_mk, NL_mk, TYI_mk, TYB_mk, TYP_mk, TYL_mk, TYS_mk, TYM_mk, SO_mk, NX_mk, endK_mk, endK_mk', add_0]
      refine lkp_no (k := (b, a)) (hm.ext e1) ?_
      rw [hw1]
      try simp only [TUP_mk, AGG_mk, HD_mk, NL_mk, TYI_mk, TYB_mk, TYP_mk, TYL_mk, TYS_mk, TYM_mk, SO_mk, NX_mk, endK_mk, endK_mk', add_0]
      exact hfin
theorem c_shows {g : Go'} {m : Int} (hz : 0 ≤ g.1 ∧ g.1 ≤ 1000) (hr : 900 ≤ g.2 ∧ g.2 ≤ 1100) (hm : 0 ≤ m ∧ m ≤ 3000) (h : ∀ s', Ext s s' → K (.int .i64 (showP g m)) s') : CALL Pg W F_clock_going_shows [.agg #[.int .i64 g.1, .int .i64 g.2], .int .i64 m] K E s := by
  refine does_clock_going_shows W g.1 g.2 m _ s ?_
  unfold T_clock_going_shows
  refine ne2 fun s1 e1 z1 o1 o2 => ⟨_, o1.cell, ⟨_, o2.cell, ?_⟩⟩
  have h0 : 0 ≤ m * g.2 := Int.mul_nonneg hm.1 (by omega)
  have h1 : m * g.2 ≤ 3000 * 1100 := Int.mul_le_mul hm.2 hr.2 (by omega) (by omega)
  have e : IntKind.i64.wrap (g.1 + IntKind.i64.wrap (Int.tdiv (IntKind.i64.wrap (m * g.2)) 1000)) = showP g m := by
    unfold showP
    generalize m * g.2 = q at *
    rw [wrap_i64 (n := q) (by omega) (by omega), Int.tdiv_eq_ediv_of_nonneg h0, wrap_i64 (n := q / 1000) (by omega) (by omega)]
    exact wrap_i64 (by omega) (by omega)
  dsimp only
  rw [e]
  exact h s1 e1
end
theorem show_mono {g : Go'} {m m' : Int} (hr : 0 ≤ g.2) (h : m ≤ m') : showP g m ≤ showP g m' := by
  unfold showP
  have : m * g.2 ≤ m' * g.2 := Int.mul_le_mul_of_nonneg_right h hr
  have := Int.ediv_le_ediv (show (0 : Int) < 1000 by omega) this
  omega
theorem SpanG.ext {c : Clk} {S : Nat} {f f' : List Go' → (Int → Int) → Int} {g : List Go'} {lo hi : Int} (h : SpanG c S f g lo hi) (he : ∀ m, Truth c S g m → f g m = f' g m) : SpanG c S f' g lo hi := by
  obtain ⟨⟨m1, t1, v1⟩, ⟨m2, t2, v2⟩, h3⟩ := h
  exact ⟨⟨m1, t1, by rw [← he m1 t1]; exact v1⟩, ⟨m2, t2, by rw [← he m2 t2]; exact v2⟩, fun m ht => by rw [← he m ht]; exact h3 m ht⟩
theorem ixa_way (b : Nat) (g : List Go') {u : Hp} {w : Int} (hw : 0 ≤ w ∧ w < 2) (o1 : Own u ⟨b, 0, none⟩ (.int .i64 (g.getD 0 (0, 0)).1)) (o2 : Own u ⟨b, 1, none⟩ (.int .i64 (g.getD 0 (0, 0)).2)) (o3 : Own u ⟨b, 2, none⟩ (.int .i64 (g.getD 1 (0, 0)).1)) (o4 : Own u ⟨b, 3, none⟩ (.int .i64 (g.getD 1 (0, 0)).2)) :
    ∃ a : Addr, a.block = b ∧ (Addr.add ⟨b, 0, none⟩ (w.toNat * 2)) = a ∧ Own u (a.add 0) (.int .i64 (g.getD w.toNat (0, 0)).1) ∧ Own u (a.add 1) (.int .i64 (g.getD w.toNat (0, 0)).2) := by
  have : w = 0 ∨ w = 1 := by omega
  rcases this with rfl | rfl
  · exact ⟨⟨b, 0, none⟩, rfl, rfl, o1, o2⟩
  · exact ⟨⟨b, 2, none⟩, rfl, rfl, o3, o4⟩
section
variable {W : World} {c : Clk} {S : Nat}
theorem q_when {a : Addr} {e : Int} (hv : VdC c) (he : 0 ≤ e ∧ e < c.n) : IsQ W c S (.func (.func 46) #[] #[.pointer (some a)]) (fun s => cellAt s a = some (.int .i64 e)) (laterV (-1) e) := by
  refine ⟨rfl, fun s s' h e => e.cell h, fun g r l s1 K E hq hm hb h => ?_⟩
  refine CALLV_func ?_
  unfold chV
  refine does_clock_When_c2 W _ _ _ _ (some r) a _ s1 ?_
  unfold T_clock_When_c2
  refine ne4 fun s2 e2 z2 p1 p2 p3 p4 => ?_
  refine nz2 zc_34 fun s3 e3 z3 o1 o2 => ?_
  have e13 := e2.trans e3
  refine ⟨_, e13.cell hq, ?_⟩
  refine c_later (g := g) hv (hm.ext e13) hb (by have := hv.n0; omega) (by omega) fun s4 lo hi e4 sp _ => ?_
  try simp only [TUP_mk, AGG_mk, HD_mk, NL_mk, TYI_mk, TYB_mk, TYP_mk, TYL_mk, TYS_mk, TYM_mk, SO_mk, NX_mk, endK_mk, endK_mk', add_0]
  refine wrB (e4.own o1) (e4.own o2) rfl rfl fun s5 k5 z5 q1 q2 => ⟨_, q1.cell, ⟨_, q2.cell, ?_⟩⟩
  exact h s5 lo hi (ext_kp (e13.trans e4) e2.1 k5) sp
theorem q_lasted {a b : Addr} {x y : Int} (hv : VdC c) (hx : 0 ≤ x ∧ x < c.n) (hy : 0 ≤ y ∧ y < c.n) : IsQ W c S (.func (.func 52) #[] #[.pointer (some a), .pointer (some b)]) (fun s => cellAt s a = some (.int .i64 x) ∧ cellAt s b = some (.int .i64 y)) (laterV x y) := by
  refine ⟨rfl, fun s s' h e => ⟨e.cell h.1, e.cell h.2⟩, fun g r l s1 K E hq hm hb h => ?_⟩
  refine CALLV_func ?_
  unfold chV
  refine does_clock_Lasted_c2 W _ _ _ _ (some r) a b _ s1 ?_
  unfold T_clock_Lasted_c2
  refine ne4 fun s2 e2 z2 p1 p2 p3 p4 => ?_
  refine nz2 zc_34 fun s3 e3 z3 o1 o2 => ?_
  have e13 := e2.trans e3
  refine ⟨_, e13.cell hq.1, ⟨_, e13.cell hq.2, ?_⟩⟩
  refine c_later (g := g) hv (hm.ext e13) hb (by omega) (by omega) fun s4 lo hi e4 sp _ => ?_
  try simp only [TUP_mk, AGG_mk, HD_mk, NL_mk, TYI_mk, TYB_mk, TYP_mk, TYL_mk, TYS_mk, TYM_mk, SO_mk, NX_mk, endK_mk, endK_mk', add_0]
  refine wrB (e4.own o1) (e4.own o2) rfl rfl fun s5 k5 z5 q1 q2 => ⟨_, q1.cell, ⟨_, q2.cell, ?_⟩⟩
  exact h s5 lo hi (ext_kp (e13.trans e4) e2.1 k5) sp
theorem q_shows {a b : Addr} {w e : Int} (hv : VdC c) (he : 0 ≤ e ∧ e < c.n) (hw : 0 ≤ w ∧ w < c.ws.length) : IsQ W c S (.func (.func 54) #[] #[.pointer (some a), .pointer (some b)]) (fun s => cellAt s a = some (.int .i64 e) ∧ cellAt s b = some (.int .i64 w)) (showV w e) := by
  refine ⟨rfl, fun s s' h e => ⟨e.cell h.1, e.cell h.2⟩, fun g r l s1 K E hq hm hb h => ?_⟩
  refine CALLV_func ?_
  unfold chV
  refine does_clock_Shows_c2 W _ _ _ _ (some r) a b _ s1 ?_
  unfold T_clock_Shows_c2
  refine ne4 fun s2 e2 z2 p1 p2 p3 p4 => ?_
  refine nz2 zc_34 fun s3 e3 z3 o1 o2 => ?_
  have e13 := e2.trans e3
  refine ⟨_, e13.cell hq.1, ?_⟩
  refine c_later (g := g) hv (hm.ext e13) hb (by have := hv.n0; omega) (by omega) fun s4 lo hi e4 sp hbd => ?_
  try simp only [TUP_mk, AGG_mk, HD_mk, NL_mk, TYI_mk, TYB_mk, TYP_mk, TYL_mk, TYS_mk, TYM_mk, SO_mk, NX_mk, endK_mk, endK_mk', add_0]
  refine nw2 zc_34 rfl rfl fun s5 e5 z5 q1 q2 => ?_
  have e45 := e4.trans e5
  have e15 := e13.trans e45
  refine ⟨_, e15.cell hq.2, ⟨⟨hw.1, by have := hv.w2; omega⟩, ?_⟩⟩
  obtain ⟨b1, b2⟩ := go_bnd hv hb.goes hw.1 hw.2
  obtain ⟨ax, hab, haa, x1, x2⟩ := ixa_way s1.size g (u := s5) (w := w) ⟨hw.1, by have := hv.w2; omega⟩ ((e3.trans e45).own p1) ((e3.trans e45).own p2) ((e3.trans e45).own p3) ((e3.trans e45).own p4)
  rw [haa]
  refine ⟨_, x1.cell, ⟨_, x2.cell, ⟨_, q1.cell, ⟨_, e15.cell hq.2, ⟨⟨hw.1, by have := hv.w2; omega⟩, ?_⟩⟩⟩⟩⟩
  rw [haa]
  refine ⟨_, x1.cell, ⟨_, x2.cell, ⟨_, q2.cell, ?_⟩⟩⟩
  obtain ⟨⟨m1, t1, v1⟩, ⟨m2, t2, v2⟩, hall⟩ := sp
  have hat : ∀ m, atM m e - atM m (-1) = atM m e := fun m => by show atM m e - 0 = _; omega
  have hl0 : ∀ m, Truth c S g m → laterV (-1) e g m = m e := fun m ht => by
    show atM m e - atM m (-1) = m e
    rw [hat]
    exact if_neg (by omega)
  have hlo : 0 ≤ lo := by rw [← v1, hl0 m1 t1]; exact (t1.days e he.1 he.2).1
  have hhi : 0 ≤ hi := by rw [← v2, hl0 m2 t2]; exact (t2.days e he.1 he.2).1
  have hlo2 : lo ≤ 3000 := by have := hall m2 t2; omega
  refine c_shows b1 b2 (by omega) fun s6 e6 => ?_
  try simp only [TUP_mk, AGG_mk, HD_mk, NL_mk, TYI_mk, TYB_mk, TYP_mk, TYL_mk, TYS_mk, TYM_mk, SO_mk, NX_mk, endK_mk, endK_mk', add_0]
  refine ANDS_i ⟨_, (e6.own q2).cell, rfl⟩ (ANDS_i ⟨_, (e6.own x1).cell, ⟨_, (e6.own x2).cell, rfl⟩⟩ (ANDS_i ⟨_, (e15.trans e6).cell hq.2, rfl⟩ ?_))
  refine c_shows b1 b2 (by omega) fun s7 e7 => ?_
  try simp only [TUP_mk, AGG_mk, HD_mk, NL_mk, TYI_mk, TYB_mk, TYP_mk, TYL_mk, TYS_mk, TYM_mk, SO_mk, NX_mk, endK_mk, endK_mk', add_0]
  have e37 := (e45.trans e6).trans e7
  refine wrB (e37.own o1) (e37.own o2) rfl rfl fun s8 k8 z8 w1 w2 => ⟨_, w1.cell, ⟨_, w2.cell, ?_⟩⟩
  have hsv : ∀ m, Truth c S g m → showV w e g m = showP (g.getD w.toNat (0, 0)) (laterV (-1) e g m) := fun m ht => by
    show showP _ (atM m e) = showP _ (atM m e - atM m (-1))
    rw [hat]
  refine h s8 _ _ (ext_kp (e13.trans e37) e2.1 k8) ⟨⟨m1, t1, by rw [hsv m1 t1, v1]⟩, ⟨m2, t2, by rw [hsv m2 t2, v2]⟩, fun m ht => ?_⟩
  rw [hsv m ht]
  have := hall m ht
  exact ⟨show_mono (by omega) this.1, show_mono (by omega) this.2⟩
theorem c_one {W : World} {K : VK} {E : List PanicEntry → Hp → Prop} {s : Hp} {n : Int} (h : ∀ s', Ext s s' → K (.agg #[.int .i64 n, .int .i64 n]) s') : CALLV Pg W (.func (.func 59) #[] #[]) [.int .i64 n] K E s := by
  refine CALLV_func ?_
  refine does_clock_Goes_c2 W n _ s ?_
  unfold T_clock_Goes_c2
  refine nw2 zc_34 rfl rfl fun s1 e1 z1 o1 o2 => ⟨_, o1.cell, ⟨_, o2.cell, ?_⟩⟩
  exact h s1 e1
theorem q_zero {a b : Addr} {w : Int} (hv : VdC c) (hw : 0 ≤ w ∧ w < c.ws.length) : IsQ W c S (.func (.func 60) #[] #[.pointer (some a), .pointer (some b)]) (fun s => cellAt s a = some (.func (.func 59) #[] #[]) ∧ cellAt s b = some (.int .i64 w)) (zeroV w) := by
  refine ⟨rfl, fun s s' h e => ⟨e.cell h.1, e.cell h.2⟩, fun g r l s1 K E hq hm hb h => ?_⟩
  refine CALLV_func ?_
  unfold chV
  refine does_clock_Goes_c3 W _ _ _ _ (some r) a b _ s1 ?_
  unfold T_clock_Goes_c3
  refine ne4 fun s2 e2 z2 p1 p2 p3 p4 => ?_
  refine nz2 zc_34 fun s3 e3 z3 o1 o2 => ?_
  have e13 := e2.trans e3
  refine ⟨_, e13.cell hq.1, ⟨_, e13.cell hq.2, ⟨⟨hw.1, by have := hv.w2; omega⟩, ?_⟩⟩⟩
  obtain ⟨ax, hab, haa, x1, x2⟩ := ixa_way s1.size g (u := s3) (w := w) ⟨hw.1, by have := hv.w2; omega⟩ (e3.own p1) (e3.own p2) (e3.own p3) (e3.own p4)
  rw [haa]
  refine ⟨_, x1.cell, ?_⟩
  refine c_one fun s4 e4 => ?_
  try simp only [TUP_mk, AGG_mk, HD_mk, NL_mk, TYI_mk, TYB_mk, TYP_mk, TYL_mk, TYS_mk, TYM_mk, SO_mk, NX_mk, endK_mk, endK_mk', add_0]
  refine wrB (e4.own o1) (e4.own o2) rfl rfl fun s5 k5 z5 q1 q2 => ⟨_, q1.cell, ⟨_, q2.cell, ?_⟩⟩
  obtain ⟨m, ht⟩ := hb.some hv
  exact h s5 _ _ (ext_kp (e13.trans e4) e2.1 k5) ⟨⟨m, ht, rfl⟩, ⟨m, ht, rfl⟩, fun m _ => ⟨Int.le_refl _, Int.le_refl _⟩⟩
theorem q_rate {a b : Addr} {w : Int} (hv : VdC c) (hw : 0 ≤ w ∧ w < c.ws.length) : IsQ W c S (.func (.func 61) #[] #[.pointer (some a), .pointer (some b)]) (fun s => cellAt s a = some (.func (.func 59) #[] #[]) ∧ cellAt s b = some (.int .i64 w)) (rateV w) := by
  refine ⟨rfl, fun s s' h e => ⟨e.cell h.1, e.cell h.2⟩, fun g r l s1 K E hq hm hb h => ?_⟩
  refine CALLV_func ?_
  unfold chV
  refine does_clock_Goes_c4 W _ _ _ _ (some r) a b _ s1 ?_
  unfold T_clock_Goes_c4
  refine ne4 fun s2 e2 z2 p1 p2 p3 p4 => ?_
  refine nz2 zc_34 fun s3 e3 z3 o1 o2 => ?_
  have e13 := e2.trans e3
  refine ⟨_, e13.cell hq.1, ⟨_, e13.cell hq.2, ⟨⟨hw.1, by have := hv.w2; omega⟩, ?_⟩⟩⟩
  obtain ⟨ax, hab, haa, x1, x2⟩ := ixa_way s1.size g (u := s3) (w := w) ⟨hw.1, by have := hv.w2; omega⟩ (e3.own p1) (e3.own p2) (e3.own p3) (e3.own p4)
  rw [haa]
  refine ⟨_, x2.cell, ?_⟩
  refine c_one fun s4 e4 => ?_
  try simp only [TUP_mk, AGG_mk, HD_mk, NL_mk, TYI_mk, TYB_mk, TYP_mk, TYL_mk, TYS_mk, TYM_mk, SO_mk, NX_mk, endK_mk, endK_mk', add_0]
  refine wrB (e4.own o1) (e4.own o2) rfl rfl fun s5 k5 z5 q1 q2 => ⟨_, q1.cell, ⟨_, q2.cell, ?_⟩⟩
  obtain ⟨m, ht⟩ := hb.some hv
  exact h s5 _ _ (ext_kp (e13.trans e4) e2.1 k5) ⟨⟨m, ht, rfl⟩, ⟨m, ht, rfl⟩, fun m _ => ⟨Int.le_refl _, Int.le_refl _⟩⟩
end
end Go.Proofs.Ytknpmijgdfeliaa.G

/- More of the functions' shallow texts, by gen.py. -/
set_option linter.unusedVariables false
set_option maxRecDepth 100000
namespace Go.Proofs.Ytknpmijgdfeliaa.G
open Go.V
def an_40 : Nat → Ann := fun b => match b with
 | _ => {}
abbrev rv_40 : List ResultVar := [.tmp 2]
abbrev rs_40 : List Nat := [8, 2]
def T_math_bits_OnesCount (W : World) (n1 : Int) (R : Ending → Hp → Prop) : Hp → Prop :=
 CALL Pg W F_math_bits_OnesCount64 [(.int .u64 n1)]
 (fun v2 => TYI .i64 v2 fun n4 =>
 R (.returned (.int .i64 n4)))
 (fun e3 => R (.panicked e3))
theorem T_math_bits_OnesCount_eq (W : World) (n1 : Int) (R : Ending → Hp → Prop) : vfun Pg W an_40 Try.f40 [(.int .u64 n1)] R = T_math_bits_OnesCount W n1 R := by kernel_rfl
theorem does_math_bits_OnesCount (W : World) (n1 : Int) (R : Ending → Hp → Prop) (s : Hp) (h : T_math_bits_OnesCount W n1 R s) : Does Pg W F_math_bits_OnesCount #[(.int .u64 n1)] s R :=
  does_of_vfun Pg W an_40 Try.func40 rfl (by kernel_rfl) (by rw [T_math_bits_OnesCount_eq]; exact h)
def an_65 : Nat → Ann := fun b => match b with
 | _ => {}
abbrev rv_65 : List ResultVar := [.tmp 2]
abbrev rs_65 : List Nat := [35, 2]
def T_math_bits_OnesCount64 (W : World) (n1 : Int) (R : Ending → Hp → Prop) : Hp → Prop :=
 R (.returned (.int .i64 (andv .i64 (IntKind.wrap .i64 (IntKind.wrap .u64 ((IntKind.wrap .u64 ((IntKind.wrap .u64 ((andv .u64 (IntKind.wrap .u64 ((shrv .u64 (IntKind.wrap .u64 ((andv .u64 (shrv .u64 (IntKind.wrap .u64 ((andv .u64 (shrv .u64 n1 1) 6148914691236517205) + (andv .u64 n1 6148914691236517205))) 2) 3689348814741910323) + (andv .u64 (IntKind.wrap .u64 ((andv .u64 (shrv .u64 n1 1) 6148914691236517205) + (andv .u64 n1 6148914691236517205))) 3689348814741910323))) 4) + (IntKind.wrap .u64 ((andv .u64 (shrv .u64 (IntKind.wrap .u64 ((andv .u64 (shrv .u64 n1 1) 6148914691236517205) + (andv .u64 n1 6148914691236517205))) 2) 3689348814741910323) + (andv .u64 (IntKind.wrap .u64 ((andv .u64 (shrv .u64 n1 1) 6148914691236517205) + (andv .u64 n1 6148914691236517205))) 3689348814741910323))))) 1085102592571150095) + (shrv .u64 (andv .u64 (IntKind.wrap .u64 ((shrv .u64 (IntKind.wrap .u64 ((andv .u64 (shrv .u64 (IntKind.wrap .u64 ((andv .u64 (shrv .u64 n1 1) 6148914691236517205) + (andv .u64 n1 6148914691236517205))) 2) 3689348814741910323) + (andv .u64 (IntKind.wrap .u64 ((andv .u64 (shrv .u64 n1 1) 6148914691236517205) + (andv .u64 n1 6148914691236517205))) 3689348814741910323))) 4) + (IntKind.wrap .u64 ((andv .u64 (shrv .u64 (IntKind.wrap .u64 ((andv .u64 (shrv .u64 n1 1) 6148914691236517205) + (andv .u64 n1 6148914691236517205))) 2) 3689348814741910323) + (andv .u64 (IntKind.wrap .u64 ((andv .u64 (shrv .u64 n1 1) 6148914691236517205) + (andv .u64 n1 6148914691236517205))) 3689348814741910323))))) 1085102592571150095) 8))) + (shrv .u64 (IntKind.wrap .u64 ((andv .u64 (IntKind.wrap .u64 ((shrv .u64 (IntKind.wrap .u64 ((andv .u64 (shrv .u64 (IntKind.wrap .u64 ((andv .u64 (shrv .u64 n1 1) 6148914691236517205) + (andv .u64 n1 6148914691236517205))) 2) 3689348814741910323) + (andv .u64 (IntKind.wrap .u64 ((andv .u64 (shrv .u64 n1 1) 6148914691236517205) + (andv .u64 n1 6148914691236517205))) 3689348814741910323))) 4) + (IntKind.wrap .u64 ((andv .u64 (shrv .u64 (IntKind.wrap .u64 ((andv .u64 (shrv .u64 n1 1) 6148914691236517205) + (andv .u64 n1 6148914691236517205))) 2) 3689348814741910323) + (andv .u64 (IntKind.wrap .u64 ((andv .u64 (shrv .u64 n1 1) 6148914691236517205) + (andv .u64 n1 6148914691236517205))) 3689348814741910323))))) 1085102592571150095) + (shrv .u64 (andv .u64 (IntKind.wrap .u64 ((shrv .u64 (IntKind.wrap .u64 ((andv .u64 (shrv .u64 (IntKind.wrap .u64 ((andv .u64 (shrv .u64 n1 1) 6148914691236517205) + (andv .u64 n1 6148914691236517205))) 2) 3689348814741910323) + (andv .u64 (IntKind.wrap .u64 ((andv .u64 (shrv .u64 n1 1) 6148914691236517205) + (andv .u64 n1 6148914691236517205))) 3689348814741910323))) 4) + (IntKind.wrap .u64 ((andv .u64 (shrv .u64 (IntKind.wrap .u64 ((andv .u64 (shrv .u64 n1 1) 6148914691236517205) + (andv .u64 n1 6148914691236517205))) 2) 3689348814741910323) + (andv .u64 (IntKind.wrap .u64 ((andv .u64 (shrv .u64 n1 1) 6148914691236517205) + (andv .u64 n1 6148914691236517205))) 3689348814741910323))))) 1085102592571150095) 8))) 16))) + (shrv .u64 (IntKind.wrap .u64 ((IntKind.wrap .u64 ((andv .u64 (IntKind.wrap .u64 ((shrv .u64 (IntKind.wrap .u64 ((andv .u64 (shrv .u64 (IntKind.wrap .u64 ((andv .u64 (shrv .u64 n1 1) 6148914691236517205) + (andv .u64 n1 6148914691236517205))) 2) 3689348814741910323) + (andv .u64 (IntKind.wrap .u64 ((andv .u64 (shrv .u64 n1 1) 6148914691236517205) + (andv .u64 n1 6148914691236517205))) 3689348814741910323))) 4) + (IntKind.wrap .u64 ((andv .u64 (shrv .u64 (IntKind.wrap .u64 ((andv .u64 (shrv .u64 n1 1) 6148914691236517205) + (andv .u64 n1 6148914691236517205))) 2) 3689348814741910323) + (andv .u64 (IntKind.wrap .u64 ((andv .u64 (shrv .u64 n1 1) 6148914691236517205) + (andv .u64 n1 6148914691236517205))) 3689348814741910323))))) 1085102592571150095) + (shrv .u64 (andv .u64 (IntKind.wrap .u64 ((shrv .u64 (IntKind.wrap .u64 ((andv .u64 (shrv .u64 (IntKind.wrap .u64 ((andv .u64 (shrv .u64 n1 1) 6148914691236517205) + (andv .u64 n1 6148914691236517205))) 2) 3689348814741910323) + (andv .u64 (IntKind.wrap .u64 ((andv .u64 (shrv .u64 n1 1) 6148914691236517205) + (andv .u64 n1 6148914691236517205))) 3689348814741910323))) 4) + (IntKind.wrap .u64 ((andv .u64 (shrv .u64 (IntKind.wrap .u64 ((andv .u64 (shrv .u64 n1 1) 6148914691236517205) + (andv .u64 n1 6148914691236517205))) 2) 3689348814741910323) + (andv .u64 (IntKind.wrap .u64 ((andv .u64 (shrv .u64 n1 1) 6148914691236517205) + (andv .u64 n1 6148914691236517205))) 3689348814741910323))))) 1085102592571150095) 8))) + (shrv .u64 (IntKind.wrap .u64 ((andv .u64 (IntKind.wrap .u64 ((shrv .u64 (IntKind.wrap .u64 ((andv .u64 (shrv .u64 (IntKind.wrap .u64 ((andv .u64 (shrv .u64 n1 1) 6148914691236517205) + (andv .u64 n1 6148914691236517205))) 2) 3689348814741910323) + (andv .u64 (IntKind.wrap .u64 ((andv .u64 (shrv .u64 n1 1) 6148914691236517205) + (andv .u64 n1 6148914691236517205))) 3689348814741910323))) 4) + (IntKind.wrap .u64 ((andv .u64 (shrv .u64 (IntKind.wrap .u64 ((andv .u64 (shrv .u64 n1 1) 6148914691236517205) + (andv .u64 n1 6148914691236517205))) 2) 3689348814741910323) + (andv .u64 (IntKind.wrap .u64 ((andv .u64 (shrv .u64 n1 1) 6148914691236517205) + (andv .u64 n1 6148914691236517205))) 3689348814741910323))))) 1085102592571150095) + (shrv .u64 (andv .u64 (IntKind.wrap .u64 ((shrv .u64 (IntKind.wrap .u64 ((andv .u64 (shrv .u64 (IntKind.wrap .u64 ((andv .u64 (shrv .u64 n1 1) 6148914691236517205) + (andv .u64 n1 6148914691236517205))) 2) 3689348814741910323) + (andv .u64 (IntKind.wrap .u64 ((andv .u64 (shrv .u64 n1 1) 6148914691236517205) + (andv .u64 n1 6148914691236517205))) 3689348814741910323))) 4) + (IntKind.wrap .u64 ((andv .u64 (shrv .u64 (IntKind.wrap .u64 ((andv .u64 (shrv .u64 n1 1) 6148914691236517205) + (andv .u64 n1 6148914691236517205))) 2) 3689348814741910323) + (andv .u64 (IntKind.wrap .u64 ((andv .u64 (shrv .u64 n1 1) 6148914691236517205) + (andv .u64 n1 6148914691236517205))) 3689348814741910323))))) 1085102592571150095) 8))) 16))) 32)))) 127)))
theorem T_math_bits_OnesCount64_eq (W : World) (n1 : Int) (R : Ending → Hp → Prop) : vfun Pg W an_65 Try.f65 [(.int .u64 n1)] R = T_math_bits_OnesCount64 W n1 R := by kernel_rfl
theorem does_math_bits_OnesCount64 (W : World) (n1 : Int) (R : Ending → Hp → Prop) (s : Hp) (h : T_math_bits_OnesCount64 W n1 R s) : Does Pg W F_math_bits_OnesCount64 #[(.int .u64 n1)] s R :=
  does_of_vfun Pg W an_65 Try.func65 rfl (by kernel_rfl) (by rw [T_math_bits_OnesCount64_eq]; exact h)
def an_72 : Nat → Ann := fun b => match b with
 | _ => {}
abbrev rv_72 : List ResultVar := [.tmp 4]
abbrev rs_72 : List Nat := [9, 4]
def T_slices_ContainsFunc_api_ClockWatch_api_ClockWatch (W : World) (x1 : Option Addr) (l2 : Nat) (c3 : Nat) (v4 : Value) (R : Ending → Hp → Prop) : Hp → Prop :=
 CALL Pg W F_slices_IndexFunc_api_ClockWatch_api_ClockWatch [(.slice x1 l2 c3), v4]
 (fun v5 => TYI .i64 v5 fun n7 =>
 R (.returned (.bool (decide (n7 ≥ 0)))))
 (fun e6 => R (.panicked e6))
theorem T_slices_ContainsFunc_api_ClockWatch_api_ClockWatch_eq (W : World) (x1 : Option Addr) (l2 : Nat) (c3 : Nat) (v4 : Value) (R : Ending → Hp → Prop) : vfun Pg W an_72 Try.f72 [(.slice x1 l2 c3), v4] R = T_slices_ContainsFunc_api_ClockWatch_api_ClockWatch W x1 l2 c3 v4 R := by kernel_rfl
theorem does_slices_ContainsFunc_api_ClockWatch_api_ClockWatch (W : World) (x1 : Option Addr) (l2 : Nat) (c3 : Nat) (v4 : Value) (R : Ending → Hp → Prop) (s : Hp) (h : T_slices_ContainsFunc_api_ClockWatch_api_ClockWatch W x1 l2 c3 v4 R s) : Does Pg W F_slices_ContainsFunc_api_ClockWatch_api_ClockWatch #[(.slice x1 l2 c3), v4] s R :=
  does_of_vfun Pg W an_72 Try.func72 rfl (by kernel_rfl) (by rw [T_slices_ContainsFunc_api_ClockWatch_api_ClockWatch_eq]; exact h)
def an_73 : Nat → Ann := fun b => match b with
 | _ => {}
abbrev rv_73 : List ResultVar := [.tmp 4]
abbrev rs_73 : List Nat := [9, 4]
def T_slices_ContainsFunc_api_ClockReading_api_ClockReading (W : World) (x1 : Option Addr) (l2 : Nat) (c3 : Nat) (v4 : Value) (R : Ending → Hp → Prop) : Hp → Prop :=
 CALL Pg W F_slices_IndexFunc_api_ClockReading_api_ClockReading [(.slice x1 l2 c3), v4]
 (fun v5 => TYI .i64 v5 fun n7 =>
 R (.returned (.bool (decide (n7 ≥ 0)))))
 (fun e6 => R (.panicked e6))
theorem T_slices_ContainsFunc_api_ClockReading_api_ClockReading_eq (W : World) (x1 : Option Addr) (l2 : Nat) (c3 : Nat) (v4 : Value) (R : Ending → Hp → Prop) : vfun Pg W an_73 Try.f73 [(.slice x1 l2 c3), v4] R = T_slices_ContainsFunc_api_ClockReading_api_ClockReading W x1 l2 c3 v4 R := by kernel_rfl
theorem does_slices_ContainsFunc_api_ClockReading_api_ClockReading (W : World) (x1 : Option Addr) (l2 : Nat) (c3 : Nat) (v4 : Value) (R : Ending → Hp → Prop) (s : Hp) (h : T_slices_ContainsFunc_api_ClockReading_api_ClockReading W x1 l2 c3 v4 R s) : Does Pg W F_slices_ContainsFunc_api_ClockReading_api_ClockReading #[(.slice x1 l2 c3), v4] s R :=
  does_of_vfun Pg W an_73 Try.func73 rfl (by kernel_rfl) (by rw [T_slices_ContainsFunc_api_ClockReading_api_ClockReading_eq]; exact h)
def an_74 : Nat → Ann := fun b => match b with
 | _ => {}
abbrev rv_74 : List ResultVar := [.tmp 4]
abbrev rs_74 : List Nat := [9, 4]
def T_slices_ContainsFunc_api_ClockLink_api_ClockLink (W : World) (x1 : Option Addr) (l2 : Nat) (c3 : Nat) (v4 : Value) (R : Ending → Hp → Prop) : Hp → Prop :=
 CALL Pg W F_slices_IndexFunc_api_ClockLink_api_ClockLink [(.slice x1 l2 c3), v4]
 (fun v5 => TYI .i64 v5 fun n7 =>
 R (.returned (.bool (decide (n7 ≥ 0)))))
 (fun e6 => R (.panicked e6))
theorem T_slices_ContainsFunc_api_ClockLink_api_ClockLink_eq (W : World) (x1 : Option Addr) (l2 : Nat) (c3 : Nat) (v4 : Value) (R : Ending → Hp → Prop) : vfun Pg W an_74 Try.f74 [(.slice x1 l2 c3), v4] R = T_slices_ContainsFunc_api_ClockLink_api_ClockLink W x1 l2 c3 v4 R := by kernel_rfl
theorem does_slices_ContainsFunc_api_ClockLink_api_ClockLink (W : World) (x1 : Option Addr) (l2 : Nat) (c3 : Nat) (v4 : Value) (R : Ending → Hp → Prop) (s : Hp) (h : T_slices_ContainsFunc_api_ClockLink_api_ClockLink W x1 l2 c3 v4 R s) : Does Pg W F_slices_ContainsFunc_api_ClockLink_api_ClockLink #[(.slice x1 l2 c3), v4] s R :=
  does_of_vfun Pg W an_74 Try.func74 rfl (by kernel_rfl) (by rw [T_slices_ContainsFunc_api_ClockLink_api_ClockLink_eq]; exact h)
def an_79 : Nat → Ann := fun b => match b with
 | 0 => { ms := [4, 8], ks := [.i .i64, .i .i64], us := [0, 1, 7, 19], rt := false, ex := [] }
 | _ => {}
abbrev rv_79 : List ResultVar := [.tmp 4]
abbrev rs_79 : List Nat := [19, 4]
def L_slices_IndexFunc_api_ClockWatch_api_ClockWatch_0 (W : World) (R : Ending → Hp → Prop) (zp0 : Option Addr) (zl1 : Nat) (zl2 : Nat) (zv3 : Value) (zn4 : Int) (n5 : Int) (n6 : Int) : Hp → Prop :=
 LOOPN [.i .i64, .i .i64] (fun ys next s => ∀ j : Tm, vc Pg W 19 rs_79 an_79 false (sub (bodyOf Try.f79) [1, 0, 1, 0, 0]) 0 (KLoop [4, 8] [0, 1, 7, 19] [(.slice zp0 zl1 zl2), zv3, (.int .i64 zn4), (.tuple #[])] next (KBlk 0 (KS Pg W 19 rs_79 an_79 false (sub (bodyOf Try.f79) [1, 1]) 0 (fin Pg W 19 rv_79 R)))) (known [4, 8] ys (known [0, 1, 7, 19] [(.slice zp0 zl1 zl2), zv3, (.int .i64 zn4), (.tuple #[])] j)) s) [(.int .i64 n5), (.int .i64 n6)]
def B_slices_IndexFunc_api_ClockWatch_api_ClockWatch_0 (W : World) (R : Ending → Hp → Prop) (zp0 : Option Addr) (zl1 : Nat) (zl2 : Nat) (zv3 : Value) (zn4 : Int) (n5 : Int) (n6 : Int) (nx0 : List Value → Hp → Prop) : Hp → Prop :=
 BR (decide (n6 < zn4))
 (IXS zp0 zl1 n6 4 fun a7 =>
 RDI .i64 (Addr.add a7 0) fun n8 =>
 RDI .i64 (Addr.add a7 1) fun n9 =>
 RDI .i64 (Addr.add a7 2) fun n10 =>
 RDI .i64 (Addr.add a7 3) fun n11 =>
 CALLV Pg W zv3 [(.agg #[(.int .i64 n8), (.int .i64 n9), (.int .i64 n10), (.int .i64 n11)])]
 (fun v12 => TYB v12 fun b14 =>
 BR b14
 (R (.returned (.int .i64 n6)))
 (NX [(.slice zp0 zl1 zl2), zv3, (.int .i64 zn4), (.tuple #[])] [(.slice zp0 zl1 zl2), zv3, (.int .i64 zn4), (.tuple #[])] (nx0 [(.int .i64 n5), (.int .i64 (IntKind.wrap .i64 (n6 + 1)))])))
 (fun e13 => R (.panicked e13)))
 (R (.returned (.int .i64 (-1))))
theorem B_slices_IndexFunc_api_ClockWatch_api_ClockWatch_0_eq (W : World) (R : Ending → Hp → Prop) (zp0 : Option Addr) (zl1 : Nat) (zl2 : Nat) (zv3 : Value) (zn4 : Int) (n5 : Int) (n6 : Int) (nx0 : List Value → Hp → Prop) (j : Tm) : vc Pg W 19 rs_79 an_79 false (sub (bodyOf Try.f79) [1, 0, 1, 0, 0]) 0 (KLoop [4, 8] [0, 1, 7, 19] [(.slice zp0 zl1 zl2), zv3, (.int .i64 zn4), (.tuple #[])] nx0 (KBlk 0 (KS Pg W 19 rs_79 an_79 false (sub (bodyOf Try.f79) [1, 1]) 0 (fin Pg W 19 rv_79 R)))) (known [4, 8] [(.int .i64 n5), (.int .i64 n6)] (known [0, 1, 7, 19] [(.slice zp0 zl1 zl2), zv3, (.int .i64 zn4), (.tuple #[])] j)) = B_slices_IndexFunc_api_ClockWatch_api_ClockWatch_0 W R zp0 zl1 zl2 zv3 zn4 n5 n6 nx0 := by kernel_rfl
def N_slices_IndexFunc_api_ClockWatch_api_ClockWatch_0 (I : Int → Int → Hp → Prop) (μ : Int → Int → Hp → Nat) (n50 : Int) (n60 : Int) (s : Hp) (vs : List Value) : Hp → Prop := fun s' => ∃ n5 n6, vs = [(.int .i64 n5), (.int .i64 n6)] ∧ I n5 n6 s' ∧ μ n5 n6 s' < μ n50 n60 s
theorem L_slices_IndexFunc_api_ClockWatch_api_ClockWatch_0_rule (W : World) (R : Ending → Hp → Prop) (zp0 : Option Addr) (zl1 : Nat) (zl2 : Nat) (zv3 : Value) (zn4 : Int) (I : Int → Int → Hp → Prop) (μ : Int → Int → Hp → Nat) (n50 : Int) (n60 : Int) (s : Hp) (h0 : I n50 n60 s)
    (hr : ∀ (n5 : Int) (n6 : Int) (s : Hp), I n5 n6 s → B_slices_IndexFunc_api_ClockWatch_api_ClockWatch_0 W R zp0 zl1 zl2 zv3 zn4 n5 n6 (fun vs => N_slices_IndexFunc_api_ClockWatch_api_ClockWatch_0 I μ n5 n6 s vs) s) : L_slices_IndexFunc_api_ClockWatch_api_ClockWatch_0 W R zp0 zl1 zl2 zv3 zn4 n50 n60 s := by
  refine ⟨fun vs s => ∃ n5 n6, vs = [(.int .i64 n5), (.int .i64 n6)] ∧ I n5 n6 s, fun vs s => (match vs with | [.int _ n5, .int _ n6] => μ n5 n6 s | _ => 0), ⟨⟨⟨_, rfl⟩, ⟨⟨_, rfl⟩, trivial⟩⟩, ⟨_, _, rfl, h0⟩⟩, ?_⟩
  intro n5 n6 s hI j
  obtain ⟨n5', n6', hy, hI⟩ := hI
  have hI' : I n5 n6 s := by cases hy; exact hI
  have hh := hr n5 n6 s hI'
  rw [← B_slices_IndexFunc_api_ClockWatch_api_ClockWatch_0_eq W R zp0 zl1 zl2 zv3 zn4 n5 n6 _ j] at hh
  refine vc_mono ?_ _ _ hh
  exact KLoop_mono (fun vs s' h => by obtain ⟨n51, n61, rfl, h1, h2⟩ := h; exact ⟨⟨⟨_, rfl⟩, ⟨⟨_, rfl⟩, trivial⟩⟩, ⟨_, _, rfl, h1⟩, h2⟩)
def T_slices_IndexFunc_api_ClockWatch_api_ClockWatch (W : World) (x1 : Option Addr) (l2 : Nat) (c3 : Nat) (v4 : Value) (R : Ending → Hp → Prop) : Hp → Prop :=
 L_slices_IndexFunc_api_ClockWatch_api_ClockWatch_0 W R x1 l2 c3 v4 (↑l2 : Int) 0 0
theorem T_slices_IndexFunc_api_ClockWatch_api_ClockWatch_eq (W : World) (x1 : Option Addr) (l2 : Nat) (c3 : Nat) (v4 : Value) (R : Ending → Hp → Prop) : vfun Pg W an_79 Try.f79 [(.slice x1 l2 c3), v4] R = T_slices_IndexFunc_api_ClockWatch_api_ClockWatch W x1 l2 c3 v4 R := by kernel_rfl
theorem does_slices_IndexFunc_api_ClockWatch_api_ClockWatch (W : World) (x1 : Option Addr) (l2 : Nat) (c3 : Nat) (v4 : Value) (R : Ending → Hp → Prop) (s : Hp) (h : T_slices_IndexFunc_api_ClockWatch_api_ClockWatch W x1 l2 c3 v4 R s) : Does Pg W F_slices_IndexFunc_api_ClockWatch_api_ClockWatch #[(.slice x1 l2 c3), v4] s R :=
  does_of_vfun Pg W an_79 Try.func79 rfl (by kernel_rfl) (by rw [T_slices_IndexFunc_api_ClockWatch_api_ClockWatch_eq]; exact h)
def an_80 : Nat → Ann := fun b => match b with
 | 0 => { ms := [4, 8], ks := [.i .i64, .i .i64], us := [0, 1, 7, 19], rt := false, ex := [] }
 | _ => {}
abbrev rv_80 : List ResultVar := [.tmp 4]
abbrev rs_80 : List Nat := [19, 4]
def L_slices_IndexFunc_api_ClockReading_api_ClockReading_0 (W : World) (R : Ending → Hp → Prop) (zp0 : Option Addr) (zl1 : Nat) (zl2 : Nat) (zv3 : Value) (zn4 : Int) (n5 : Int) (n6 : Int) : Hp → Prop :=
 LOOPN [.i .i64, .i .i64] (fun ys next s => ∀ j : Tm, vc Pg W 19 rs_80 an_80 false (sub (bodyOf Try.f80) [1, 0, 1, 0, 0]) 0 (KLoop [4, 8] [0, 1, 7, 19] [(.slice zp0 zl1 zl2), zv3, (.int .i64 zn4), (.tuple #[])] next (KBlk 0 (KS Pg W 19 rs_80 an_80 false (sub (bodyOf Try.f80) [1, 1]) 0 (fin Pg W 19 rv_80 R)))) (known [4, 8] ys (known [0, 1, 7, 19] [(.slice zp0 zl1 zl2), zv3, (.int .i64 zn4), (.tuple #[])] j)) s) [(.int .i64 n5), (.int .i64 n6)]
def B_slices_IndexFunc_api_ClockReading_api_ClockReading_0 (W : World) (R : Ending → Hp → Prop) (zp0 : Option Addr) (zl1 : Nat) (zl2 : Nat) (zv3 : Value) (zn4 : Int) (n5 : Int) (n6 : Int) (nx0 : List Value → Hp → Prop) : Hp → Prop :=
 BR (decide (n6 < zn4))
 (IXS zp0 zl1 n6 3 fun a7 =>
 RDI .i64 (Addr.add a7 0) fun n8 =>
 RDI .i64 (Addr.add a7 1) fun n9 =>
 RDI .i64 (Addr.add a7 2) fun n10 =>
 CALLV Pg W zv3 [(.agg #[(.int .i64 n8), (.int .i64 n9), (.int .i64 n10)])]
 (fun v11 => TYB v11 fun b13 =>
 BR b13
 (R (.returned (.int .i64 n6)))
 (NX [(.slice zp0 zl1 zl2), zv3, (.int .i64 zn4), (.tuple #[])] [(.slice zp0 zl1 zl2), zv3, (.int .i64 zn4), (.tuple #[])] (nx0 [(.int .i64 n5), (.int .i64 (IntKind.wrap .i64 (n6 + 1)))])))
 (fun e12 => R (.panicked e12)))
 (R (.returned (.int .i64 (-1))))
theorem B_slices_IndexFunc_api_ClockReading_api_ClockReading_0_eq (W : World) (R : Ending → Hp → Prop) (zp0 : Option Addr) (zl1 : Nat) (zl2 : Nat) (zv3 : Value) (zn4 : Int) (n5 : Int) (n6 : Int) (nx0 : List Value → Hp → Prop) (j : Tm) : vc Pg W 19 rs_80 an_80 false (sub (bodyOf Try.f80) [1, 0, 1, 0, 0]) 0 (KLoop [4, 8] [0, 1, 7, 19] [(.slice zp0 zl1 zl2), zv3, (.int .i64 zn4), (.tuple #[])] nx0 (KBlk 0 (KS Pg W 19 rs_80 an_80 false (sub (bodyOf Try.f80) [1, 1]) 0 (fin Pg W 19 rv_80 R)))) (known [4, 8] [(.int .i64 n5), (.int .i64 n6)] (known [0, 1, 7, 19] [(.slice zp0 zl1 zl2), zv3, (.int .i64 zn4), (.tuple #[])] j)) = B_slices_IndexFunc_api_ClockReading_api_ClockReading_0 W R zp0 zl1 zl2 zv3 zn4 n5 n6 nx0 := by kernel_rfl
def N_slices_IndexFunc_api_ClockReading_api_ClockReading_0 (I : Int → Int → Hp → Prop) (μ : Int → Int → Hp → Nat) (n50 : Int) (n60 : Int) (s : Hp) (vs : List Value) : Hp → Prop := fun s' => ∃ n5 n6, vs = [(.int .i64 n5), (.int .i64 n6)] ∧ I n5 n6 s' ∧ μ n5 n6 s' < μ n50 n60 s
theorem L_slices_IndexFunc_api_ClockReading_api_ClockReading_0_rule (W : World) (R : Ending → Hp → Prop) (zp0 : Option Addr) (zl1 : Nat) (zl2 : Nat) (zv3 : Value) (zn4 : Int) (I : Int → Int → Hp → Prop) (μ : Int → Int → Hp → Nat) (n50 : Int) (n60 : Int) (s : Hp) (h0 : I n50 n60 s)
    (hr : ∀ (n5 : Int) (n6 : Int) (s : Hp), I n5 n6 s → B_slices_IndexFunc_api_ClockReading_api_ClockReading_0 W R zp0 zl1 zl2 zv3 zn4 n5 n6 (fun vs => N_slices_IndexFunc_api_ClockReading_api_ClockReading_0 I μ n5 n6 s vs) s) : L_slices_IndexFunc_api_ClockReading_api_ClockReading_0 W R zp0 zl1 zl2 zv3 zn4 n50 n60 s := by
  refine ⟨fun vs s => ∃ n5 n6, vs = [(.int .i64 n5), (.int .i64 n6)] ∧ I n5 n6 s, fun vs s => (match vs with | [.int _ n5, .int _ n6] => μ n5 n6 s | _ => 0), ⟨⟨⟨_, rfl⟩, ⟨⟨_, rfl⟩, trivial⟩⟩, ⟨_, _, rfl, h0⟩⟩, ?_⟩
  intro n5 n6 s hI j
  obtain ⟨n5', n6', hy, hI⟩ := hI
  have hI' : I n5 n6 s := by cases hy; exact hI
  have hh := hr n5 n6 s hI'
  rw [← B_slices_IndexFunc_api_ClockReading_api_ClockReading_0_eq W R zp0 zl1 zl2 zv3 zn4 n5 n6 _ j] at hh
  refine vc_mono ?_ _ _ hh
  exact KLoop_mono (fun vs s' h => by obtain ⟨n51, n61, rfl, h1, h2⟩ := h; exact ⟨⟨⟨_, rfl⟩, ⟨⟨_, rfl⟩, trivial⟩⟩, ⟨_, _, rfl, h1⟩, h2⟩)
def T_slices_IndexFunc_api_ClockReading_api_ClockReading (W : World) (x1 : Option Addr) (l2 : Nat) (c3 : Nat) (v4 : Value) (R : Ending → Hp → Prop) : Hp → Prop :=
 L_slices_IndexFunc_api_ClockReading_api_ClockReading_0 W R x1 l2 c3 v4 (↑l2 : Int) 0 0
theorem T_slices_IndexFunc_api_ClockReading_api_ClockReading_eq (W : World) (x1 : Option Addr) (l2 : Nat) (c3 : Nat) (v4 : Value) (R : Ending → Hp → Prop) : vfun Pg W an_80 Try.f80 [(.slice x1 l2 c3), v4] R = T_slices_IndexFunc_api_ClockReading_api_ClockReading W x1 l2 c3 v4 R := by kernel_rfl
theorem does_slices_IndexFunc_api_ClockReading_api_ClockReading (W : World) (x1 : Option Addr) (l2 : Nat) (c3 : Nat) (v4 : Value) (R : Ending → Hp → Prop) (s : Hp) (h : T_slices_IndexFunc_api_ClockReading_api_ClockReading W x1 l2 c3 v4 R s) : Does Pg W F_slices_IndexFunc_api_ClockReading_api_ClockReading #[(.slice x1 l2 c3), v4] s R :=
  does_of_vfun Pg W an_80 Try.func80 rfl (by kernel_rfl) (by rw [T_slices_IndexFunc_api_ClockReading_api_ClockReading_eq]; exact h)
def an_81 : Nat → Ann := fun b => match b with
 | 0 => { ms := [4, 8], ks := [.i .i64, .i .i64], us := [0, 1, 7, 19], rt := false, ex := [] }
 | _ => {}
abbrev rv_81 : List ResultVar := [.tmp 4]
abbrev rs_81 : List Nat := [19, 4]
def L_slices_IndexFunc_api_ClockLink_api_ClockLink_0 (W : World) (R : Ending → Hp → Prop) (zp0 : Option Addr) (zl1 : Nat) (zl2 : Nat) (zv3 : Value) (zn4 : Int) (n5 : Int) (n6 : Int) : Hp → Prop :=
 LOOPN [.i .i64, .i .i64] (fun ys next s => ∀ j : Tm, vc Pg W 19 rs_81 an_81 false (sub (bodyOf Try.f81) [1, 0, 1, 0, 0]) 0 (KLoop [4, 8] [0, 1, 7, 19] [(.slice zp0 zl1 zl2), zv3, (.int .i64 zn4), (.tuple #[])] next (KBlk 0 (KS Pg W 19 rs_81 an_81 false (sub (bodyOf Try.f81) [1, 1]) 0 (fin Pg W 19 rv_81 R)))) (known [4, 8] ys (known [0, 1, 7, 19] [(.slice zp0 zl1 zl2), zv3, (.int .i64 zn4), (.tuple #[])] j)) s) [(.int .i64 n5), (.int .i64 n6)]
def B_slices_IndexFunc_api_ClockLink_api_ClockLink_0 (W : World) (R : Ending → Hp → Prop) (zp0 : Option Addr) (zl1 : Nat) (zl2 : Nat) (zv3 : Value) (zn4 : Int) (n5 : Int) (n6 : Int) (nx0 : List Value → Hp → Prop) : Hp → Prop :=
 BR (decide (n6 < zn4))
 (IXS zp0 zl1 n6 4 fun a7 =>
 RDI .i64 (Addr.add a7 0) fun n8 =>
 RDI .i64 (Addr.add a7 1) fun n9 =>
 RDI .i64 (Addr.add a7 2) fun n10 =>
 RDI .i64 (Addr.add a7 3) fun n11 =>
 CALLV Pg W zv3 [(.agg #[(.int .i64 n8), (.int .i64 n9), (.int .i64 n10), (.int .i64 n11)])]
 (fun v12 => TYB v12 fun b14 =>
 BR b14
 (R (.returned (.int .i64 n6)))
 (NX [(.slice zp0 zl1 zl2), zv3, (.int .i64 zn4), (.tuple #[])] [(.slice zp0 zl1 zl2), zv3, (.int .i64 zn4), (.tuple #[])] (nx0 [(.int .i64 n5), (.int .i64 (IntKind.wrap .i64 (n6 + 1)))])))
 (fun e13 => R (.panicked e13)))
 (R (.returned (.int .i64 (-1))))
theorem B_slices_IndexFunc_api_ClockLink_api_ClockLink_0_eq (W : World) (R : Ending → Hp → Prop) (zp0 : Option Addr) (zl1 : Nat) (zl2 : Nat) (zv3 : Value) (zn4 : Int) (n5 : Int) (n6 : Int) (nx0 : List Value → Hp → Prop) (j : Tm) : vc Pg W 19 rs_81 an_81 false (sub (bodyOf Try.f81) [1, 0, 1, 0, 0]) 0 (KLoop [4, 8] [0, 1, 7, 19] [(.slice zp0 zl1 zl2), zv3, (.int .i64 zn4), (.tuple #[])] nx0 (KBlk 0 (KS Pg W 19 rs_81 an_81 false (sub (bodyOf Try.f81) [1, 1]) 0 (fin Pg W 19 rv_81 R)))) (known [4, 8] [(.int .i64 n5), (.int .i64 n6)] (known [0, 1, 7, 19] [(.slice zp0 zl1 zl2), zv3, (.int .i64 zn4), (.tuple #[])] j)) = B_slices_IndexFunc_api_ClockLink_api_ClockLink_0 W R zp0 zl1 zl2 zv3 zn4 n5 n6 nx0 := by kernel_rfl
def N_slices_IndexFunc_api_ClockLink_api_ClockLink_0 (I : Int → Int → Hp → Prop) (μ : Int → Int → Hp → Nat) (n50 : Int) (n60 : Int) (s : Hp) (vs : List Value) : Hp → Prop := fun s' => ∃ n5 n6, vs = [(.int .i64 n5), (.int .i64 n6)] ∧ I n5 n6 s' ∧ μ n5 n6 s' < μ n50 n60 s
theorem L_slices_IndexFunc_api_ClockLink_api_ClockLink_0_rule (W : World) (R : Ending → Hp → Prop) (zp0 : Option Addr) (zl1 : Nat) (zl2 : Nat) (zv3 : Value) (zn4 : Int) (I : Int → Int → Hp → Prop) (μ : Int → Int → Hp → Nat) (n50 : Int) (n60 : Int) (s : Hp) (h0 : I n50 n60 s)
    (hr : ∀ (n5 : Int) (n6 : Int) (s : Hp), I n5 n6 s → B_slices_IndexFunc_api_ClockLink_api_ClockLink_0 W R zp0 zl1 zl2 zv3 zn4 n5 n6 (fun vs => N_slices_IndexFunc_api_ClockLink_api_ClockLink_0 I μ n5 n6 s vs) s) : L_slices_IndexFunc_api_ClockLink_api_ClockLink_0 W R zp0 zl1 zl2 zv3 zn4 n50 n60 s := by
  refine ⟨fun vs s => ∃ n5 n6, vs = [(.int .i64 n5), (.int .i64 n6)] ∧ I n5 n6 s, fun vs s => (match vs with | [.int _ n5, .int _ n6] => μ n5 n6 s | _ => 0), ⟨⟨⟨_, rfl⟩, ⟨⟨_, rfl⟩, trivial⟩⟩, ⟨_, _, rfl, h0⟩⟩, ?_⟩
  intro n5 n6 s hI j
  obtain ⟨n5', n6', hy, hI⟩ := hI
  have hI' : I n5 n6 s := by cases hy; exact hI
  have hh := hr n5 n6 s hI'
  rw [← B_slices_IndexFunc_api_ClockLink_api_ClockLink_0_eq W R zp0 zl1 zl2 zv3 zn4 n5 n6 _ j] at hh
  refine vc_mono ?_ _ _ hh
  exact KLoop_mono (fun vs s' h => by obtain ⟨n51, n61, rfl, h1, h2⟩ := h; exact ⟨⟨⟨_, rfl⟩, ⟨⟨_, rfl⟩, trivial⟩⟩, ⟨_, _, rfl, h1⟩, h2⟩)
def T_slices_IndexFunc_api_ClockLink_api_ClockLink (W : World) (x1 : Option Addr) (l2 : Nat) (c3 : Nat) (v4 : Value) (R : Ending → Hp → Prop) : Hp → Prop :=
 L_slices_IndexFunc_api_ClockLink_api_ClockLink_0 W R x1 l2 c3 v4 (↑l2 : Int) 0 0
theorem T_slices_IndexFunc_api_ClockLink_api_ClockLink_eq (W : World) (x1 : Option Addr) (l2 : Nat) (c3 : Nat) (v4 : Value) (R : Ending → Hp → Prop) : vfun Pg W an_81 Try.f81 [(.slice x1 l2 c3), v4] R = T_slices_IndexFunc_api_ClockLink_api_ClockLink W x1 l2 c3 v4 R := by kernel_rfl
theorem does_slices_IndexFunc_api_ClockLink_api_ClockLink (W : World) (x1 : Option Addr) (l2 : Nat) (c3 : Nat) (v4 : Value) (R : Ending → Hp → Prop) (s : Hp) (h : T_slices_IndexFunc_api_ClockLink_api_ClockLink W x1 l2 c3 v4 R s) : Does Pg W F_slices_IndexFunc_api_ClockLink_api_ClockLink #[(.slice x1 l2 c3), v4] s R :=
  does_of_vfun Pg W an_81 Try.func81 rfl (by kernel_rfl) (by rw [T_slices_IndexFunc_api_ClockLink_api_ClockLink_eq]; exact h)
end Go.Proofs.Ytknpmijgdfeliaa.G

/- Clock: whether a clock is valid; a clock that is looked at. -/
set_option linter.unusedSimpArgs false
set_option linter.unusedVariables false
set_option maxRecDepth 20000
namespace Go.Proofs.Ytknpmijgdfeliaa.G
open Go.V
theorem zc_26 : zc Pg 26 = [.slice none 0 0, .int .i64 0, .slice none 0 0, .slice none 0 0] := by kernel_rfl
section
variable {W : World} {K : VK} {E : List PanicEntry → Hp → Prop} {s : Hp} {p : Addr} {c : Clk}
theorem idx_find {α : Type} {f : α → Bool} {l : List α} {k : Nat} (hk : k < l.length) (hf : f l[k] = true) : l.any f = true := List.any_eq_true.2 ⟨l[k], List.getElem_mem hk, hf⟩
theorem any_no {α : Type} {f : α → Bool} {l : List α} (h : ∀ i (hi : i < l.length), f l[i] = false) : l.any f = false := by
  rw [List.any_eq_false]
  intro x hx
  obtain ⟨i, hi, rfl⟩ := List.mem_iff_getElem.1 hx
  rw [h i hi]; simp
theorem c_cfW {x : Option Addr} {cap : Nat} {l : List Wt} {v : Value} {f : Wt → Bool} (hl : l.length ≤ 1000000) (hx : WtAt s x l) (hf : ∀ w s1 K E, Ext s s1 → (∀ s2, Ext s1 s2 → K (.bool (f w)) s2) → CALLV Pg W v [.agg #[.int .i64 w.zlo, .int .i64 w.zhi, .int .i64 w.rlo, .int .i64 w.rhi]] K E s1) (h : ∀ s', Ext s s' → K (.bool (l.any f)) s') :
    CALL Pg W F_slices_ContainsFunc_api_ClockWatch_api_ClockWatch [.slice x l.length cap, v] K E s := by
  refine does_slices_ContainsFunc_api_ClockWatch_api_ClockWatch W x _ cap v _ s ?_
  unfold T_slices_ContainsFunc_api_ClockWatch_api_ClockWatch
  refine does_slices_IndexFunc_api_ClockWatch_api_ClockWatch W x _ cap v _ s ?_
  unfold T_slices_IndexFunc_api_ClockWatch_api_ClockWatch
  refine L_slices_IndexFunc_api_ClockWatch_api_ClockWatch_0_rule W _ x _ cap v _ (fun _ n t => Ext s t ∧ ∃ k : Nat, n = k ∧ k ≤ l.length ∧ ∀ i (hi : i < l.length), i < k → f l[i] = false) (fun _ n _ => ((l.length : Int) - n).toNat) 0 0 s ⟨Ext.refl _, 0, rfl, by omega, fun i _ h => by omega⟩ ?_
  rintro n5 n t ⟨et, k, rfl, hk, hno⟩
  unfold B_slices_IndexFunc_api_ClockWatch_api_ClockWatch_0
  refine BR_dec (fun hlt => ?_) (fun hge => ?_)
  · have hkl : k < l.length := by omega
    obtain ⟨a, hx0, g1, g2, g3, g4⟩ := hx.ce (CE.ext et) k hkl
    subst hx0
    refine IXS_nat hkl ⟨_, g1, ⟨_, g2, ⟨_, g3, ⟨_, g4, ?_⟩⟩⟩⟩
    refine hf l[k] t _ _ et fun t2 e2 => ?_
    try simp only [TUP_mk, AGG_mk, HD_mk, NL_mk, TYI_mk, TYB_mk, TYP_mk, TYL_mk, TYS_mk, TYM_mk, SO_mk, NX_mk, endK_mk, endK_mk', add_0]
    refine BR_bool (fun hb => ?_) (fun hb => ?_)
    · try simp only [TUP_mk, AGG_mk, HD_mk, NL_mk, TYI_mk, TYB_mk, TYP_mk, TYL_mk, TYS_mk, TYM_mk, SO_mk, NX_mk, endK_mk, endK_mk', add_0]
      have hh := h t2 (et.trans e2)
      rw [idx_find hkl hb] at hh
      have : decide ((k : Int) ≥ 0) = true := decide_eq_true (by omega)
      rw [this]; exact hh
    · try simp only [TUP_mk, AGG_mk, HD_mk, NL_mk, TYI_mk, TYB_mk, TYP_mk, TYL_mk, TYS_mk, TYM_mk, SO_mk, NX_mk, endK_mk, endK_mk', add_0]
      refine ⟨_, _, rfl, ⟨et.trans e2, k + 1, wrap_succ (by omega), hkl, fun i hi hik => ?_⟩, ms_succ hkl (by omega)⟩
      by_cases e : i = k
      · subst e; exact hb
      · exact hno i hi (by omega)
  · try simp only [TUP_mk, AGG_mk, HD_mk, NL_mk, TYI_mk, TYB_mk, TYP_mk, TYL_mk, TYS_mk, TYM_mk, SO_mk, NX_mk, endK_mk, endK_mk', add_0]
    have hh := h t et
    rw [any_no fun i hi => hno i hi (by omega)] at hh
    exact hh
theorem c_cfR {x : Option Addr} {cap : Nat} {l : List Rd} {v : Value} {f : Rd → Bool} (hl : l.length ≤ 1000000) (hx : RdAt s x l) (hf : ∀ w s1 K E, Ext s s1 → (∀ s2, Ext s1 s2 → K (.bool (f w)) s2) → CALLV Pg W v [.agg #[.int .i64 w.ev, .int .i64 w.wa, .int .i64 w.sh]] K E s1) (h : ∀ s', Ext s s' → K (.bool (l.any f)) s') :
    CALL Pg W F_slices_ContainsFunc_api_ClockReading_api_ClockReading [.slice x l.length cap, v] K E s := by
  refine does_slices_ContainsFunc_api_ClockReading_api_ClockReading W x _ cap v _ s ?_
  unfold T_slices_ContainsFunc_api_ClockReading_api_ClockReading
  refine does_slices_IndexFunc_api_ClockReading_api_ClockReading W x _ cap v _ s ?_
  unfold T_slices_IndexFunc_api_ClockReading_api_ClockReading
  refine L_slices_IndexFunc_api_ClockReading_api_ClockReading_0_rule W _ x _ cap v _ (fun _ n t => Ext s t ∧ ∃ k : Nat, n = k ∧ k ≤ l.length ∧ ∀ i (hi : i < l.length), i < k → f l[i] = false) (fun _ n _ => ((l.length : Int) - n).toNat) 0 0 s ⟨Ext.refl _, 0, rfl, by omega, fun i _ h => by omega⟩ ?_
  rintro n5 n t ⟨et, k, rfl, hk, hno⟩
  unfold B_slices_IndexFunc_api_ClockReading_api_ClockReading_0
  refine BR_dec (fun hlt => ?_) (fun hge => ?_)
  · have hkl : k < l.length := by omega
    obtain ⟨a, hx0, g1, g2, g3⟩ := hx.ce (CE.ext et) k hkl
    subst hx0
    refine IXS_nat hkl ⟨_, g1, ⟨_, g2, ⟨_, g3, ?_⟩⟩⟩
    refine hf l[k] t _ _ et fun t2 e2 => ?_
    try simp only [TUP_mk, AGG_mk, HD_mk, NL_mk, TYI_mk, TYB_mk, TYP_mk, TYL_mk, TYS_mk, TYM_mk, SO_mk, NX_mk, endK_mk, endK_mk', add_0]
    refine BR_bool (fun hb => ?_) (fun hb => ?_)
    · try simp only [TUP_mk, AGG_mk, HD_mk, NL_mk, TYI_mk, TYB_mk, TYP_mk, TYL_mk, TYS_mk, TYM_mk, SO_mk, NX_mk, endK_mk, endK_mk', add_0]
      have hh := h t2 (et.trans e2)
      rw [idx_find hkl hb] at hh
      have : decide ((k : Int) ≥ 0) = true := decide_eq_true (by omega)
      rw [this]; exact hh
    · try simp only [TUP_mk, AGG_mk, HD_mk, NL_mk, TYI_mk, TYB_mk, TYP_mk, TYL_mk, TYS_mk, TYM_mk, SO_mk, NX_mk, endK_mk, endK_mk', add_0]
      refine ⟨_, _, rfl, ⟨et.trans e2, k + 1, wrap_succ (by omega), hkl, fun i hi hik => ?_⟩, ms_succ hkl (by omega)⟩
      by_cases e : i = k
      · subst e; exact hb
      · exact hno i hi (by omega)
  · try simp only [TUP_mk, AGG_mk, HD_mk, NL_mk, TYI_mk, TYB_mk, TYP_mk, TYL_mk, TYS_mk, TYM_mk, SO_mk, NX_mk, endK_mk, endK_mk', add_0]
    have hh := h t et
    rw [any_no fun i hi => hno i hi (by omega)] at hh
    exact hh
theorem c_cfL {x : Option Addr} {cap : Nat} {l : List Lk} {v : Value} {f : Lk → Bool} (hl : l.length ≤ 1000000) (hx : LkAt s x l) (hf : ∀ w s1 K E, Ext s s1 → (∀ s2, Ext s1 s2 → K (.bool (f w)) s2) → CALLV Pg W v [.agg #[.int .i64 w.a, .int .i64 w.b, .int .i64 w.lo, .int .i64 w.hi]] K E s1) (h : ∀ s', Ext s s' → K (.bool (l.any f)) s') :
    CALL Pg W F_slices_ContainsFunc_api_ClockLink_api_ClockLink [.slice x l.length cap, v] K E s := by
  refine does_slices_ContainsFunc_api_ClockLink_api_ClockLink W x _ cap v _ s ?_
  unfold T_slices_ContainsFunc_api_ClockLink_api_ClockLink
  refine does_slices_IndexFunc_api_ClockLink_api_ClockLink W x _ cap v _ s ?_
  unfold T_slices_IndexFunc_api_ClockLink_api_ClockLink
  refine L_slices_IndexFunc_api_ClockLink_api_ClockLink_0_rule W _ x _ cap v _ (fun _ n t => Ext s t ∧ ∃ k : Nat, n = k ∧ k ≤ l.length ∧ ∀ i (hi : i < l.length), i < k → f l[i] = false) (fun _ n _ => ((l.length : Int) - n).toNat) 0 0 s ⟨Ext.refl _, 0, rfl, by omega, fun i _ h => by omega⟩ ?_
  rintro n5 n t ⟨et, k, rfl, hk, hno⟩
  unfold B_slices_IndexFunc_api_ClockLink_api_ClockLink_0
  refine BR_dec (fun hlt => ?_) (fun hge => ?_)
  · have hkl : k < l.length := by omega
    obtain ⟨a, hx0, g1, g2, g3, g4⟩ := hx.ce (CE.ext et) k hkl
    subst hx0
    refine IXS_nat hkl ⟨_, g1, ⟨_, g2, ⟨_, g3, ⟨_, g4, ?_⟩⟩⟩⟩
    refine hf l[k] t _ _ et fun t2 e2 => ?_
    try simp only [TUP_mk, AGG_mk, HD_mk, NL_mk, TYI_mk, TYB_mk, TYP_mk, TYL_mk, TYS_mk, TYM_mk, SO_mk, NX_mk, endK_mk, endK_mk', add_0]
    refine BR_bool (fun hb => ?_) (fun hb => ?_)
    · try simp only [TUP_mk, AGG_mk, HD_mk, NL_mk, TYI_mk, TYB_mk, TYP_mk, TYL_mk, TYS_mk, TYM_mk, SO_mk, NX_mk, endK_mk, endK_mk', add_0]
      have hh := h t2 (et.trans e2)
      rw [idx_find hkl hb] at hh
      have : decide ((k : Int) ≥ 0) = true := decide_eq_true (by omega)
      rw [this]; exact hh
    · try simp only [TUP_mk, AGG_mk, HD_mk, NL_mk, TYI_mk, TYB_mk, TYP_mk, TYL_mk, TYS_mk, TYM_mk, SO_mk, NX_mk, endK_mk, endK_mk', add_0]
      refine ⟨_, _, rfl, ⟨et.trans e2, k + 1, wrap_succ (by omega), hkl, fun i hi hik => ?_⟩, ms_succ hkl (by omega)⟩
      by_cases e : i = k
      · subst e; exact hb
      · exact hno i hi (by omega)
  · try simp only [TUP_mk, AGG_mk, HD_mk, NL_mk, TYI_mk, TYB_mk, TYP_mk, TYL_mk, TYS_mk, TYM_mk, SO_mk, NX_mk, endK_mk, endK_mk', add_0]
    have hh := h t et
    rw [any_no fun i hi => hno i hi (by omega)] at hh
    exact hh
theorem c_isSpan {lo hi low high : Int} (h : ∀ s', Ext s s' → K (.bool (decide (low ≤ lo ∧ lo ≤ hi ∧ hi ≤ high))) s') : CALL Pg W F_clock_isSpan [.agg #[.int .i64 lo, .int .i64 hi], .int .i64 low, .int .i64 high] K E s := by
  refine does_clock_isSpan W lo hi low high _ s ?_
  unfold T_clock_isSpan
  refine ne2 fun s1 e1 z1 o1 o2 => ⟨_, o1.cell, ?_⟩
  have hh := h s1 e1
  refine BR_dec (fun h1 => ⟨_, o1.cell, ⟨_, o2.cell, ?_⟩⟩) (fun h1 => ?_)
  · refine BR_dec (fun h2 => ⟨_, o2.cell, ?_⟩) (fun h2 => ?_)
    · have : decide (low ≤ lo ∧ lo ≤ hi ∧ hi ≤ high) = decide (hi ≤ high) := by simp [h1, h2]
      rw [this] at hh; exact hh
    · have : decide (low ≤ lo ∧ lo ≤ hi ∧ hi ≤ high) = false := by simp [h2]
      rw [this] at hh; exact hh
  · have : decide (low ≤ lo ∧ lo ≤ hi ∧ hi ≤ high) = false := by simp [h1]
    rw [this] at hh; exact hh
theorem c_isEvent {x y z : Option Addr} {l1 l2 l3 c1 c2 c3 : Nat} {n e : Int} (h : ∀ s' b, Ext s s' → (0 ≤ n ∧ n ≤ 5 → b = decide (0 ≤ e ∧ e < n)) → K (.bool b) s') : CALL Pg W F_clock_isEvent [.agg #[.slice x l1 c1, .int .i64 n, .slice y l2 c2, .slice z l3 c3], .int .i64 e] K E s := by
  refine does_clock_isEvent W x l1 c1 n y l2 c2 z l3 c3 e _ s ?_
  unfold T_clock_isEvent
  refine ne4 fun s1 e1 z1 o1 o2 o3 o4 => ⟨_, o2.cell, ?_⟩
  refine c_within ?_
  try simp only [TUP_mk, AGG_mk, HD_mk, NL_mk, TYI_mk, TYB_mk, TYP_mk, TYL_mk, TYS_mk, TYM_mk, SO_mk, NX_mk, endK_mk, endK_mk', add_0]
  refine h s1 _ e1 fun hn => ?_
  rw [wrap_i64 (n := n - 1) (by omega) (by omega)]
  congr 1; apply propext; omega
theorem c_isWatch {x y z : Option Addr} {l1 l2 l3 c1 c2 c3 : Nat} {n e : Int} (hn : l1 ≤ 1000000000) (h : ∀ s', Ext s s' → K (.bool (decide (0 ≤ e ∧ e < l1))) s') : CALL Pg W F_clock_isWatch [.agg #[.slice x l1 c1, .int .i64 n, .slice y l2 c2, .slice z l3 c3], .int .i64 e] K E s := by
  refine does_clock_isWatch W x l1 c1 n y l2 c2 z l3 c3 e _ s ?_
  unfold T_clock_isWatch
  refine ne4 fun s1 e1 z1 o1 o2 o3 o4 => ⟨_, _, _, o1.cell, ?_⟩
  dsimp only
  rw [wrap_i64 (by omega) (by omega)]
  refine c_within ?_
  try simp only [TUP_mk, AGG_mk, HD_mk, NL_mk, TYI_mk, TYB_mk, TYP_mk, TYL_mk, TYS_mk, TYM_mk, SO_mk, NX_mk, endK_mk, endK_mk', add_0]
  have : decide (0 ≤ e ∧ e ≤ (l1 : Int) - 1) = decide (0 ≤ e ∧ e < l1) := by congr 1; apply propext; omega
  rw [this]; exact h s1 e1
/-- Whether a watch is bad, and so on. -/
theorem c_badW {w : Wt} (h : ∀ s', Ext s s' → K (.bool (badW w)) s') : CALLV Pg W (.func (.func 68) #[] #[]) [.agg #[.int .i64 w.zlo, .int .i64 w.zhi, .int .i64 w.rlo, .int .i64 w.rhi]] K E s := by
  refine CALLV_func ?_
  refine does_clock_isClock_c1 W _ _ _ _ _ s ?_
  unfold T_clock_isClock_c1
  refine ne4 fun s1 e1 z1 o1 o2 o3 o4 => ⟨_, o1.cell, ⟨_, o2.cell, ?_⟩⟩
  refine c_isSpan fun s2 e2 => ?_
  try simp only [TUP_mk, AGG_mk, HD_mk, NL_mk, TYI_mk, TYB_mk, TYP_mk, TYL_mk, TYS_mk, TYM_mk, SO_mk, NX_mk, endK_mk, endK_mk', add_0]
  have e12 := e1.trans e2
  have hJ : ∀ b s3, Ext s2 s3 → b = decide (0 ≤ w.zlo ∧ w.zlo ≤ w.zhi ∧ w.zhi ≤ 1000 ∧ w.zhi - w.zlo ≤ 6) → J_clock_isClock_c1_0 W (endK K E) b s.size s3 := by
    intro b s3 e3 hb
    have e13 := e2.trans e3
    unfold J_clock_isClock_c1_0
    refine BR_not (fun hf => ?_) (fun ht => ?_)
    · have hh := h s3 (e12.trans e3)
      have : badW w = true := by unfold badW; rw [← hb, hf]; rfl
      rw [this] at hh; exact hh
    · refine ⟨_, (e13.own o3).cell, ⟨_, (e13.own o4).cell, ?_⟩⟩
      refine c_isSpan fun s4 e4 => ?_
      try simp only [TUP_mk, AGG_mk, HD_mk, NL_mk, TYI_mk, TYB_mk, TYP_mk, TYL_mk, TYS_mk, TYM_mk, SO_mk, NX_mk, endK_mk, endK_mk', add_0]
      have e14 := e13.trans e4
      refine BR_not (fun hf => ?_) (fun ht2 => ?_)
      · have hh := h s4 (e1.trans e14)
        have : badW w = true := by unfold badW; rw [hf]; simp
        rw [this] at hh; exact hh
      · refine ⟨_, (e14.own o4).cell, ⟨_, (e14.own o3).cell, ?_⟩⟩
        have hr := of_decide_eq_true ht2
        have hh := h s4 (e1.trans e14)
        have : badW w = decide (IntKind.i64.wrap (w.rhi - w.rlo) > 4) := by
          unfold badW
          rw [← hb, ht, ht2, wrap_i64 (by omega) (by omega)]
          rfl
        rw [this] at hh; exact hh
  refine BR_bool (fun hb => ?_) (fun hb => ?_)
  · have hz := of_decide_eq_true hb
    refine ⟨_, (e2.own o2).cell, ⟨_, (e2.own o1).cell, ?_⟩⟩
    refine hJ _ s2 (Ext.refl _) ?_
    rw [wrap_i64 (by omega) (by omega)]
    congr 1; apply propext; omega
  · refine hJ false s2 (Ext.refl _) ?_
    have hz := of_decide_eq_false hb
    exact (decide_eq_false (by omega)).symm
theorem c_badR {w : Rd} {a : Addr} (hc : ClA s a c) (hs : sizesC c = true) (h : ∀ s', Ext s s' → K (.bool (badR c w)) s') : CALLV Pg W (.func (.func 70) #[] #[.pointer (some a)]) [.agg #[.int .i64 w.ev, .int .i64 w.wa, .int .i64 w.sh]] K E s := by
  refine CALLV_func ?_
  refine does_clock_isClock_c2 W _ _ _ a _ s ?_
  unfold T_clock_isClock_c2
  have hsz := of_decide_eq_true hs
  refine NEW_rule fun s1 e1 z1 n1 _ => ?_
  have o1 := n1 0 _ rfl
  have o2 := n1 1 _ rfl
  have o3 := n1 2 _ rfl
  obtain ⟨x1, cp1, g1, _⟩ := hc.ws
  obtain ⟨x2, cp2, g2, _⟩ := hc.rs
  obtain ⟨x3, cp3, g3, _⟩ := hc.ls
  refine ⟨_, _, _, e1.cell g1, ⟨_, e1.cell hc.n, ⟨_, _, _, e1.cell g2, ⟨_, _, _, e1.cell g3, ⟨_, o1.cell, ?_⟩⟩⟩⟩⟩
  refine c_isEvent fun s2 b e2 hb => ?_
  try simp only [TUP_mk, AGG_mk, HD_mk, NL_mk, TYI_mk, TYB_mk, TYP_mk, TYL_mk, TYS_mk, TYM_mk, SO_mk, NX_mk, endK_mk, endK_mk', add_0]
  have hb' := hb ⟨hsz.2.1, hsz.2.2.1⟩
  have e12 := e1.trans e2
  have hJ : ∀ b s3, Ext s2 s3 → b = (!(decide (0 ≤ w.ev ∧ w.ev < c.n)) || !(decide (0 ≤ w.wa ∧ w.wa < c.ws.length))) → J_clock_isClock_c2_0 W (endK K E) b s.size s3 := by
    intro b s3 e3 hb3
    have e13 := e2.trans e3
    unfold J_clock_isClock_c2_0
    refine BR_bool (fun ht => ?_) (fun hf => ?_)
    · have hh := h s3 (e12.trans e3)
      have : badR c w = true := by unfold badR; rw [← hb3, ht]; rfl
      rw [this] at hh; exact hh
    · refine ⟨_, (e13.own o3).cell, ?_⟩
      refine c_within ?_
      try simp only [TUP_mk, AGG_mk, HD_mk, NL_mk, TYI_mk, TYB_mk, TYP_mk, TYL_mk, TYS_mk, TYM_mk, SO_mk, NX_mk, endK_mk, endK_mk', add_0]
      have hh := h s3 (e12.trans e3)
      have : badR c w = !(decide (0 ≤ w.sh ∧ w.sh ≤ 2000)) := by unfold badR; rw [← hb3, hf]; rfl
      rw [this] at hh; exact hh
  refine BR_not (fun hf => ?_) (fun ht => ?_)
  · refine hJ true s2 (Ext.refl _) ?_
    rw [← hb', hf]; rfl
  · refine ⟨_, _, _, e12.cell g1, ⟨_, e12.cell hc.n, ⟨_, _, _, e12.cell g2, ⟨_, _, _, e12.cell g3, ⟨_, (e2.own o2).cell, ?_⟩⟩⟩⟩⟩
    refine c_isWatch (by omega) fun s3 e3 => ?_
    try simp only [TUP_mk, AGG_mk, HD_mk, NL_mk, TYI_mk, TYB_mk, TYP_mk, TYL_mk, TYS_mk, TYM_mk, SO_mk, NX_mk, endK_mk, endK_mk', add_0]
    refine hJ _ s3 e3 ?_
    rw [← hb', ht]; rfl
theorem c_badL {w : Lk} {a : Addr} (hc : ClA s a c) (hs : sizesC c = true) (h : ∀ s', Ext s s' → K (.bool (badL c w)) s') : CALLV Pg W (.func (.func 71) #[] #[.pointer (some a)]) [.agg #[.int .i64 w.a, .int .i64 w.b, .int .i64 w.lo, .int .i64 w.hi]] K E s := by
  refine CALLV_func ?_
  refine does_clock_isClock_c3 W _ _ _ _ a _ s ?_
  unfold T_clock_isClock_c3
  have hsz := of_decide_eq_true hs
  refine ne4 fun s1 e1 z1 o1 o2 o3 o4 => ?_
  obtain ⟨x1, cp1, g1, _⟩ := hc.ws
  obtain ⟨x2, cp2, g2, _⟩ := hc.rs
  obtain ⟨x3, cp3, g3, _⟩ := hc.ls
  refine ⟨_, _, _, e1.cell g1, ⟨_, e1.cell hc.n, ⟨_, _, _, e1.cell g2, ⟨_, _, _, e1.cell g3, ⟨_, o1.cell, ?_⟩⟩⟩⟩⟩
  refine c_isEvent fun s2 b e2 hb => ?_
  try simp only [TUP_mk, AGG_mk, HD_mk, NL_mk, TYI_mk, TYB_mk, TYP_mk, TYL_mk, TYS_mk, TYM_mk, SO_mk, NX_mk, endK_mk, endK_mk', add_0]
  have hb' := hb ⟨hsz.2.1, hsz.2.2.1⟩
  have e12 := e1.trans e2
  have hJ0 : ∀ b s3, Ext s2 s3 → b = (!(decide (0 ≤ w.a ∧ w.a < c.n)) || !(decide (0 ≤ w.b ∧ w.b < c.n)) || decide (w.a = w.b)) → J_clock_isClock_c3_0 W (endK K E) b s.size s3 := by
    intro b s3 e3 hb3
    have e13 := e2.trans e3
    unfold J_clock_isClock_c3_0
    refine BR_bool (fun ht => ?_) (fun hf => ?_)
    · have hh := h s3 (e12.trans e3)
      have : badL c w = true := by unfold badL; rw [← hb3, ht]; rfl
      rw [this] at hh; exact hh
    · refine ⟨_, (e13.own o3).cell, ⟨_, (e13.own o4).cell, ?_⟩⟩
      refine c_isSpan fun s4 e4 => ?_
      try simp only [TUP_mk, AGG_mk, HD_mk, NL_mk, TYI_mk, TYB_mk, TYP_mk, TYL_mk, TYS_mk, TYM_mk, SO_mk, NX_mk, endK_mk, endK_mk', add_0]
      have hh := h s4 ((e12.trans e3).trans e4)
      have : badL c w = !(decide (-600 ≤ w.lo ∧ w.lo ≤ w.hi ∧ w.hi ≤ 600)) := by unfold badL; rw [← hb3, hf]; rfl
      rw [this] at hh; exact hh
  have hJ : ∀ b s3, Ext s2 s3 → b = (!(decide (0 ≤ w.a ∧ w.a < c.n)) || !(decide (0 ≤ w.b ∧ w.b < c.n))) → J_clock_isClock_c3_1 W (endK K E) b s.size s3 := by
    intro b s3 e3 hb3
    have e13 := e2.trans e3
    unfold J_clock_isClock_c3_1
    refine BR_bool (fun ht => ?_) (fun hf => ?_)
    · refine hJ0 true s3 e3 ?_
      rw [← hb3, ht]; rfl
    · refine ⟨_, (e13.own o1).cell, ⟨_, (e13.own o2).cell, ?_⟩⟩
      refine hJ0 _ s3 e3 ?_
      rw [← hb3, hf]
      by_cases e : w.a = w.b <;> simp [e]
  refine BR_not (fun hf => ?_) (fun ht => ?_)
  · refine hJ true s2 (Ext.refl _) ?_
    rw [← hb', hf]; rfl
  · refine ⟨_, _, _, e12.cell g1, ⟨_, e12.cell hc.n, ⟨_, _, _, e12.cell g2, ⟨_, _, _, e12.cell g3, ⟨_, (e2.own o2).cell, ?_⟩⟩⟩⟩⟩
    refine c_isEvent fun s3 b3 e3 hb3 => ?_
    try simp only [TUP_mk, AGG_mk, HD_mk, NL_mk, TYI_mk, TYB_mk, TYP_mk, TYL_mk, TYS_mk, TYM_mk, SO_mk, NX_mk, endK_mk, endK_mk', add_0]
    refine hJ _ s3 e3 ?_
    rw [← hb', ht, hb3 ⟨hsz.2.1, hsz.2.2.1⟩]; rfl
/-- A clock as an argument. -/
def clkV (c : Clk) (x y z : Option Addr) (c1 c2 c3 : Nat) : Value := .agg #[.slice x c.ws.length c1, .int .i64 c.n, .slice y c.rs.length c2, .slice z c.ls.length c3]
structure ClV (s : Hp) (c : Clk) (x y z : Option Addr) : Prop where
  ws : WtAt s x c.ws
  rs : RdAt s y c.rs
  ls : LkAt s z c.ls
theorem ClV.ce {s s' : Hp} {x y z : Option Addr} (e : CE s s') (h : ClV s c x y z) : ClV s' c x y z := ⟨h.ws.ce e, h.rs.ce e, h.ls.ce e⟩
theorem ClV.ext {s s' : Hp} {x y z : Option Addr} (e : Ext s s') (h : ClV s c x y z) : ClV s' c x y z := h.ce (CE.ext e)
theorem c_isClock {x y z : Option Addr} {c1 c2 c3 : Nat} (hc : ClV s c x y z) (h : ∀ s', Ext s s' → K (.bool (okC c)) s') : CALL Pg W F_clock_isClock [clkV c x y z c1 c2 c3] K E s := by
  unfold clkV
  refine does_clock_isClock W x _ c1 c.n y _ c2 z _ c3 _ s ?_
  unfold T_clock_isClock
  refine ne4 fun s1 e1 z1 o1 o2 o3 o4 => ⟨_, _, _, o1.cell, ?_⟩
  have hA : ∀ t, Ext s1 t → ClA t ⟨s.size, 0, none⟩ c := fun t e => ⟨⟨x, c1, (e.own o1).cell, hc.ws.ce (CE.ext (e1.trans e))⟩, (e.own o2).cell, ⟨y, c2, (e.own o3).cell, hc.rs.ce (CE.ext (e1.trans e))⟩, ⟨z, c3, (e.own o4).cell, hc.ls.ce (CE.ext (e1.trans e))⟩⟩
  have hJ0 : ∀ b t, Ext s1 t → b = (sizesC c && !(c.ws.any badW) && !(c.rs.any (badR c))) → J_clock_isClock_0 W (endK K E) b s.size t := by
    intro b t et hb
    unfold J_clock_isClock_0
    refine BR_bool (fun ht => ?_) (fun hf => ?_)
    · have hs : sizesC c = true := by rw [ht] at hb; revert hb; cases sizesC c <;> simp
      have hsz := of_decide_eq_true hs
      refine ⟨_, _, _, (et.own o4).cell, ?_⟩
      refine c_cfL (f := badL c) (by omega) (hc.ls.ce (CE.ext (e1.trans et))) (fun w s2 K' E' e2 h' => c_badL (hA s2 (et.trans e2)) hs h') fun t2 e2 => ?_
      try simp only [TUP_mk, AGG_mk, HD_mk, NL_mk, TYI_mk, TYB_mk, TYP_mk, TYL_mk, TYS_mk, TYM_mk, SO_mk, NX_mk, endK_mk, endK_mk', add_0]
      have hh := h t2 ((e1.trans et).trans e2)
      have : okC c = !(c.ls.any (badL c)) := by unfold okC; rw [← hb, ht]; rfl
      rw [this] at hh; exact hh
    · have hh := h t (e1.trans et)
      have : okC c = false := by unfold okC; rw [← hb, hf]; rfl
      rw [this] at hh; exact hh
  have hJ1 : ∀ b t, Ext s1 t → b = (sizesC c && !(c.ws.any badW)) → J_clock_isClock_1 W (endK K E) b s.size t := by
    intro b t et hb
    unfold J_clock_isClock_1
    refine BR_bool (fun ht => ?_) (fun hf => ?_)
    · have hs : sizesC c = true := by rw [ht] at hb; revert hb; cases sizesC c <;> simp
      have hsz := of_decide_eq_true hs
      refine ⟨_, _, _, (et.own o3).cell, ?_⟩
      refine c_cfR (f := badR c) (by omega) (hc.rs.ce (CE.ext (e1.trans et))) (fun w s2 K' E' e2 h' => c_badR (hA s2 (et.trans e2)) hs h') fun t2 e2 => ?_
      try simp only [TUP_mk, AGG_mk, HD_mk, NL_mk, TYI_mk, TYB_mk, TYP_mk, TYL_mk, TYS_mk, TYM_mk, SO_mk, NX_mk, endK_mk, endK_mk', add_0]
      refine hJ0 _ t2 (et.trans e2) ?_
      rw [← hb, ht]; rfl
    · refine hJ0 false t et ?_
      rw [← hb, hf]; rfl
  have hJ2 : ∀ b t, Ext s1 t → b = sizesC c → J_clock_isClock_2 W (endK K E) b s.size t := by
    intro b t et hb
    unfold J_clock_isClock_2
    refine BR_bool (fun ht => ?_) (fun hf => ?_)
    · have hs : sizesC c = true := by rw [← hb, ht]
      have hsz := of_decide_eq_true hs
      refine ⟨_, _, _, (et.own o1).cell, ?_⟩
      refine c_cfW (f := badW) (by omega) (hc.ws.ce (CE.ext (e1.trans et))) (fun w s2 K' E' e2 h' => c_badW h') fun t2 e2 => ?_
      try simp only [TUP_mk, AGG_mk, HD_mk, NL_mk, TYI_mk, TYB_mk, TYP_mk, TYL_mk, TYS_mk, TYM_mk, SO_mk, NX_mk, endK_mk, endK_mk', add_0]
      refine hJ1 _ t2 (et.trans e2) ?_
      rw [← hb, ht]; rfl
    · refine hJ1 false t et ?_
      rw [← hb, hf]; rfl
  have hJ4 : ∀ b t, Ext s1 t → b = decide (c.ws.length ≤ 2 ∧ 0 ≤ c.n ∧ c.n ≤ 5) → J_clock_isClock_4 W (endK K E) b s.size t := by
    intro b t et hb
    unfold J_clock_isClock_4
    have hJ3 : ∀ b2, b2 = decide (c.ws.length ≤ 2 ∧ 0 ≤ c.n ∧ c.n ≤ 5 ∧ c.rs.length ≤ 8) → J_clock_isClock_3 W (endK K E) b2 s.size t := by
      intro b2 hb2
      unfold J_clock_isClock_3
      refine BR_bool (fun ht => ?_) (fun hf => ?_)
      · rw [ht] at hb2
        have h4 := of_decide_eq_true hb2.symm
        refine ⟨_, _, _, (et.own o4).cell, ?_⟩
        refine hJ2 _ t et ?_
        unfold sizesC
        congr 1; apply propext; omega
      · rw [hf] at hb2
        have h4 := of_decide_eq_false hb2.symm
        refine hJ2 false t et ?_
        unfold sizesC
        exact (decide_eq_false (by omega)).symm
    refine BR_bool (fun ht => ?_) (fun hf => ?_)
    · rw [ht] at hb
      have h4 := of_decide_eq_true hb.symm
      refine ⟨_, _, _, (et.own o3).cell, ?_⟩
      refine hJ3 _ ?_
      congr 1; apply propext; omega
    · rw [hf] at hb
      have h4 := of_decide_eq_false hb.symm
      refine hJ3 false ?_
      exact (decide_eq_false (by omega)).symm
  refine BR_dec (fun h1 => ?_) (fun h1 => ?_)
  · refine ⟨_, o2.cell, ?_⟩
    refine c_within ?_
    try simp only [TUP_mk, AGG_mk, HD_mk, NL_mk, TYI_mk, TYB_mk, TYP_mk, TYL_mk, TYS_mk, TYM_mk, SO_mk, NX_mk, endK_mk, endK_mk', add_0]
    refine hJ4 _ s1 (Ext.refl _) ?_
    congr 1; apply propext; omega
  · refine hJ4 false s1 (Ext.refl _) ?_
    exact (decide_eq_false (by omega)).symm
theorem c_open {x y z : Option Addr} {c1 c2 c3 : Nat} {is : Bool} (hc : ClV s c x y z) (h0 : ∀ s', Ext s s' → okC c = false → E (pn 1) s') (h1 : ∀ s', Ext s s' → okC c = true → is = false → E (pn 2) s') (h : ∀ s' b, Ext s s' → is = true → s.size ≤ b → ClO s' ⟨b, 0, none⟩ c → K (.pointer (some ⟨b, 0, none⟩)) s') : CALL Pg W F_clock_open [clkV c x y z c1 c2 c3, .bool is] K E s := by
  unfold clkV
  refine does_clock_open W x _ c1 c.n y _ c2 z _ c3 is _ s ?_
  unfold T_clock_open
  refine ne4 fun s1 e1 z1 o1 o2 o3 o4 => ⟨_, _, _, o1.cell, ⟨_, o2.cell, ⟨_, _, _, o3.cell, ⟨_, _, _, o4.cell, ?_⟩⟩⟩⟩
  refine c_isClock (hc.ext e1) fun s2 e2 => ?_
  try simp only [TUP_mk, AGG_mk, HD_mk, NL_mk, TYI_mk, TYB_mk, TYP_mk, TYL_mk, TYS_mk, TYM_mk, SO_mk, NX_mk, endK_mk, endK_mk', add_0]
  have e12 := e1.trans e2
  refine c_need (fun hok => ?_) (fun hok => h0 s2 e12 hok)
  try simp only [TUP_mk, AGG_mk, HD_mk, NL_mk, TYI_mk, TYB_mk, TYP_mk, TYL_mk, TYS_mk, TYM_mk, SO_mk, NX_mk, endK_mk, endK_mk', add_0]
  refine c_need (fun his => ?_) (fun his => h1 s2 e12 hok his)
  try simp only [TUP_mk, AGG_mk, HD_mk, NL_mk, TYI_mk, TYB_mk, TYP_mk, TYL_mk, TYS_mk, TYM_mk, SO_mk, NX_mk, endK_mk, endK_mk', add_0]
  refine ⟨_, _, _, (e2.own o1).cell, ⟨_, (e2.own o2).cell, ⟨_, _, _, (e2.own o3).cell, ⟨_, _, _, (e2.own o4).cell, ?_⟩⟩⟩⟩
  refine ne4 fun s3 e3 z3 q1 q2 q3 q4 => ?_
  have hcv := hc.ext (e12.trans e3)
  exact h s3 s2.size (e12.trans e3) his e12.1 ⟨⟨⟨x, c1, q1.cell, hcv.ws⟩, q2.cell, ⟨y, c2, q3.cell, hcv.rs⟩, ⟨z, c3, q4.cell, hcv.ls⟩⟩, okC_iff.1 hok⟩
end
end Go.Proofs.Ytknpmijgdfeliaa.G

/- Clock: arguments by their types. -/
set_option linter.unusedVariables false
set_option linter.unusedSimpArgs false
set_option maxRecDepth 20000
namespace Go.Proofs.Ytknpmijgdfeliaa.G
open Go.V
section
variable {s : Hp}
theorem rds_26 (n : Nat) (cs : List Value) : Rds Pg s (n + 1) 26 cs = (cs.length = 4 ∧ Rds Pg s n 22 ((cs.drop 0).take 1) ∧ Rds Pg s n 3 ((cs.drop 1).take 1) ∧ Rds Pg s n 23 ((cs.drop 2).take 1) ∧ Rds Pg s n 24 ((cs.drop 3).take 1) ∧ True) := by kernel_rfl
theorem rds_34 (n : Nat) (cs : List Value) : Rds Pg s (n + 1) 34 cs = (cs.length = 2 ∧ Rds Pg s n 3 ((cs.drop 0).take 1) ∧ Rds Pg s n 3 ((cs.drop 1).take 1) ∧ True) := by kernel_rfl
theorem rds_66 (n : Nat) (cs : List Value) : Rds Pg s (n + 1) 66 cs = (cs.length = 4 ∧ Rds Pg s n 34 ((cs.drop 0).take 2) ∧ Rds Pg s n 34 ((cs.drop 2).take 2) ∧ True) := by kernel_rfl
theorem rds_61 (n : Nat) (cs : List Value) : Rds Pg s (n + 1) 61 cs = (cs.length = 3 ∧ Rds Pg s n 3 ((cs.drop 0).take 1) ∧ Rds Pg s n 3 ((cs.drop 1).take 1) ∧ Rds Pg s n 3 ((cs.drop 2).take 1) ∧ True) := by kernel_rfl
theorem rds_63 (n : Nat) (cs : List Value) : Rds Pg s (n + 1) 63 cs = (cs.length = 4 ∧ Rds Pg s n 3 ((cs.drop 0).take 1) ∧ Rds Pg s n 3 ((cs.drop 1).take 1) ∧ Rds Pg s n 34 ((cs.drop 2).take 2) ∧ True) := by kernel_rfl
theorem rds_3 (n : Nat) (cs : List Value) : Rds Pg s (n + 1) 3 cs = (∃ m, cs = [.int .i64 m] ∧ (Lit.int .i64 m).wf = true) := by kernel_rfl
theorem rds_5 (n : Nat) (cs : List Value) : Rds Pg s (n + 1) 5 cs = (∃ m, cs = [.int .u8 m] ∧ (Lit.int .u8 m).wf = true) := by kernel_rfl
theorem rds_98 (n : Nat) (cs : List Value) : Rds Pg s (n + 1) 98 cs = (∃ m, cs = [.int .u16 m] ∧ (Lit.int .u16 m).wf = true) := by kernel_rfl
theorem rds_22 (n : Nat) (cs : List Value) : Rds Pg s (n + 1) 22 cs = (∃ a l c, cs = [.slice a l c] ∧ l ≤ c ∧ c ≤ maxLen ∧ (a = none → l = 0 ∧ c = 0) ∧ ∀ i, i < l → ∃ b es, a = some b ∧ es.length = 4 ∧ (∀ j v, es[j]? = some v → cellAt s ((b.add (i * 4)).add j) = some v) ∧ Rds Pg s n 66 es) := by kernel_rfl
theorem rds_23 (n : Nat) (cs : List Value) : Rds Pg s (n + 1) 23 cs = (∃ a l c, cs = [.slice a l c] ∧ l ≤ c ∧ c ≤ maxLen ∧ (a = none → l = 0 ∧ c = 0) ∧ ∀ i, i < l → ∃ b es, a = some b ∧ es.length = 3 ∧ (∀ j v, es[j]? = some v → cellAt s ((b.add (i * 3)).add j) = some v) ∧ Rds Pg s n 61 es) := by kernel_rfl
theorem rds_24 (n : Nat) (cs : List Value) : Rds Pg s (n + 1) 24 cs = (∃ a l c, cs = [.slice a l c] ∧ l ≤ c ∧ c ≤ maxLen ∧ (a = none → l = 0 ∧ c = 0) ∧ ∀ i, i < l → ∃ b es, a = some b ∧ es.length = 4 ∧ (∀ j v, es[j]? = some v → cellAt s ((b.add (i * 4)).add j) = some v) ∧ Rds Pg s n 63 es) := by kernel_rfl
theorem ag_26 : isAg Pg 26 = true := by kernel_rfl
theorem ag_61 : isAg Pg 61 = true := by kernel_rfl
theorem ag_63 : isAg Pg 63 = true := by kernel_rfl
theorem ag_3 : isAg Pg 3 = false := by kernel_rfl
theorem ag_5 : isAg Pg 5 = false := by kernel_rfl
theorem choose_of {α : Type} {P : Nat → α → Prop} : ∀ l : Nat, (∀ i, i < l → ∃ m, P i m) → ∃ ms : List α, ms.length = l ∧ ∀ i (h : i < ms.length), P i ms[i]
  | 0, _ => ⟨[], rfl, fun i h => by simp at h⟩
  | l + 1, h => by
    obtain ⟨ms, h1, h2⟩ := choose_of l (fun i hi => h i (by omega))
    obtain ⟨m, hm⟩ := h l (by omega)
    refine ⟨ms ++ [m], by simp [h1], fun i hi => ?_⟩
    by_cases hil : i < ms.length
    · rw [List.getElem_append_left hil]; exact h2 i hil
    · simp at hi
      have : i = ms.length := by omega
      subst this
      rw [List.getElem_append_right (Nat.le_refl _)]
      simp [h1]; exact hm
theorem wt_rds {n : Nat} {es : List Value} (h : Rds Pg s (n + 3) 66 es) : ∃ m : Wt, es = [.int .i64 m.zlo, .int .i64 m.zhi, .int .i64 m.rlo, .int .i64 m.rhi] := by
  rw [rds_66, rds_34, rds_34, rds_3, rds_3, rds_3, rds_3] at h
  obtain ⟨h0, ⟨_, ⟨a, h1, _⟩, ⟨b, h2, _⟩, _⟩, ⟨_, ⟨c, h3, _⟩, ⟨d, h4, _⟩, _⟩, _⟩ := h
  match es, h0 with
  | [p, q, u, w], _ =>
    simp at h1 h2 h3 h4
    subst h1; subst h2; subst h3; subst h4
    exact ⟨⟨a, b, c, d⟩, rfl⟩
theorem rd_rds {n : Nat} {es : List Value} (h : Rds Pg s (n + 2) 61 es) : ∃ m : Rd, es = [.int .i64 m.ev, .int .i64 m.wa, .int .i64 m.sh] := by
  rw [rds_61, rds_3, rds_3, rds_3] at h
  obtain ⟨h0, ⟨a, h1, _⟩, ⟨b, h2, _⟩, ⟨c, h3, _⟩, _⟩ := h
  match es, h0 with
  | [p, q, u], _ =>
    simp at h1 h2 h3
    subst h1; subst h2; subst h3
    exact ⟨⟨a, b, c⟩, rfl⟩
theorem lk_rds {n : Nat} {es : List Value} (h : Rds Pg s (n + 3) 63 es) : ∃ m : Lk, es = [.int .i64 m.a, .int .i64 m.b, .int .i64 m.lo, .int .i64 m.hi] := by
  rw [rds_63, rds_34, rds_3, rds_3, rds_3, rds_3] at h
  obtain ⟨h0, ⟨a, h1, _⟩, ⟨b, h2, _⟩, ⟨_, ⟨c, h3, _⟩, ⟨d, h4, _⟩, _⟩, _⟩ := h
  match es, h0 with
  | [p, q, u, w], _ =>
    simp at h1 h2 h3 h4
    subst h1; subst h2; subst h3; subst h4
    exact ⟨⟨a, b, c, d⟩, rfl⟩
theorem clk_rd {v : Value} (h : RdV Pg s 26 v) : ∃ c x y z c1 c2 c3, v = clkV c x y z c1 c2 c3 ∧ ClV s c x y z := by
  obtain ⟨cs, rfl, h⟩ := h
  rw [ag_26, rds_26, rds_22, rds_23, rds_24, rds_3] at *
  obtain ⟨h0, ⟨a, l, c, h1, _, _, _, h2⟩, ⟨n, h3, _⟩, ⟨b, k, c', h4, _, _, _, h5⟩, ⟨d, m, c'', h6, _, _, _, h7⟩, _⟩ := h
  match cs, h0 with
  | [u, w, p, q], _ =>
    simp at h1 h3 h4 h6
    subst h1; subst h3; subst h4; subst h6
    have key1 : ∀ i, i < l → ∃ z : Wt, ∃ e, a = some e ∧ cellAt s ((e.add (i * 4)).add 0) = some (.int .i64 z.zlo) ∧ cellAt s ((e.add (i * 4)).add 1) = some (.int .i64 z.zhi) ∧ cellAt s ((e.add (i * 4)).add 2) = some (.int .i64 z.rlo) ∧ cellAt s ((e.add (i * 4)).add 3) = some (.int .i64 z.rhi) := by
      intro i hi
      obtain ⟨e, es, hd, hes, hc, hr⟩ := h2 i hi
      obtain ⟨z, rfl⟩ := wt_rds (n := 3) hr
      exact ⟨z, e, hd, hc 0 _ rfl, hc 1 _ rfl, hc 2 _ rfl, hc 3 _ rfl⟩
    have key2 : ∀ i, i < k → ∃ z : Rd, ∃ e, b = some e ∧ cellAt s ((e.add (i * 3)).add 0) = some (.int .i64 z.ev) ∧ cellAt s ((e.add (i * 3)).add 1) = some (.int .i64 z.wa) ∧ cellAt s ((e.add (i * 3)).add 2) = some (.int .i64 z.sh) := by
      intro i hi
      obtain ⟨e, es, hd, hes, hc, hr⟩ := h5 i hi
      obtain ⟨z, rfl⟩ := rd_rds (n := 4) hr
      exact ⟨z, e, hd, hc 0 _ rfl, hc 1 _ rfl, hc 2 _ rfl⟩
    have key3 : ∀ i, i < m → ∃ z : Lk, ∃ e, d = some e ∧ cellAt s ((e.add (i * 4)).add 0) = some (.int .i64 z.a) ∧ cellAt s ((e.add (i * 4)).add 1) = some (.int .i64 z.b) ∧ cellAt s ((e.add (i * 4)).add 2) = some (.int .i64 z.lo) ∧ cellAt s ((e.add (i * 4)).add 3) = some (.int .i64 z.hi) := by
      intro i hi
      obtain ⟨e, es, hd, hes, hc, hr⟩ := h7 i hi
      obtain ⟨z, rfl⟩ := lk_rds (n := 3) hr
      exact ⟨z, e, hd, hc 0 _ rfl, hc 1 _ rfl, hc 2 _ rfl, hc 3 _ rfl⟩
    obtain ⟨o1, l1, p1⟩ := choose_of l key1
    obtain ⟨o2, l2, p2⟩ := choose_of k key2
    obtain ⟨o3, l3, p3⟩ := choose_of m key3
    subst l1
    subst l2
    subst l3
    exact ⟨⟨o1, n, o2, o3⟩, a, b, d, c, c', c'', rfl, ⟨fun i hi => p1 i hi, fun i hi => p2 i hi, fun i hi => p3 i hi⟩⟩
theorem int_rd {v : Value} (h : RdV Pg s 3 v) : ∃ n, v = .int .i64 n := by
  obtain ⟨cs, rfl, h⟩ := h
  rw [ag_3, rds_3] at *
  obtain ⟨m, rfl, hw⟩ := h
  exact ⟨m, rfl⟩
theorem u8_wf {m : Int} (h : (Lit.int .u8 m).wf = true) : 0 ≤ m ∧ m ≤ 255 := by
  simp [Lit.wf, IntKind.min, IntKind.max, IntKind.bits, IntKind.signed] at h; omega
theorem u8_rd {v : Value} (h : RdV Pg s 5 v) : ∃ n : Nat, v = .int .u8 n ∧ n < 256 := by
  obtain ⟨cs, rfl, h⟩ := h
  rw [ag_5, rds_5] at *
  obtain ⟨m, rfl, hw⟩ := h
  obtain ⟨h1, h2⟩ := u8_wf hw
  obtain ⟨n, rfl⟩ := Int.eq_ofNat_of_zero_le h1
  exact ⟨n, rfl, by omega⟩
end
end Go.Proofs.Ytknpmijgdfeliaa.G

/- Clock: when something happened, how long it lasted, which was first, how a watch goes, what it showed. -/
set_option linter.unusedSimpArgs false
set_option linter.unusedVariables false
set_option maxRecDepth 20000
namespace Go.Proofs.Ytknpmijgdfeliaa.G
open Go.V
/-- What is answered. -/
def QR (c : Clk) (is : Bool) (val : List Go' → (Int → Int) → Int) (lo hi err : Int) : Prop :=
  (okC c = false ∧ lo = 0 ∧ hi = 0 ∧ err = 1) ∨ (okC c = true ∧ is = false ∧ lo = 0 ∧ hi = 0 ∧ err = 2) ∨ (okC c = true ∧ is = true ∧ ¬ CanC c (everyN c) ∧ lo = 0 ∧ hi = 0 ∧ err = 10) ∨
    (okC c = true ∧ is = true ∧ CanC c (everyN c) ∧ SpanC c (everyN c) val lo hi ∧ err = 0)
theorem SpanC.can {c : Clk} {S : Nat} {val : List Go' → (Int → Int) → Int} {lo hi : Int} (h : SpanC c S val lo hi) : CanC c S := by
  obtain ⟨⟨g, m, h, _⟩, _⟩ := h
  exact ⟨g, m, h⟩
section
variable {W : World} {K : VK} {E : List PanicEntry → Hp → Prop} {s : Hp} {c : Clk} {x y z : Option Addr} {c1 c2 c3 : Nat}
theorem ok_n (h : okC c = true) : 0 ≤ c.n ∧ c.n ≤ 5 := by have := okC_iff.1 h; exact ⟨this.n0, this.n5⟩
/-- An error is told. -/
theorem fail2 {f : FuncId} {b15 b14 : Nat} {e : Int} {t : Hp} {R : Int → Int → Int → Hp → Prop} (hf : isTold f) (hs : Ext s t) (h15 : s.size ≤ b15) (hne : b14 ≠ b15) (o15 : Own t ⟨b15, 0, none⟩ (.int .i64 0)) (o14 : Own t ⟨b14, 0, none⟩ (.int .i64 0)) (o14' : Own t ⟨b14, 1, none⟩ (.int .i64 0)) (h : ∀ s', Ext s s' → R 0 0 e s') :
    DEF Pg W (.tuple #[(.func (.func f) #[] #[(.pointer (some ⟨b15, 0, none⟩))]), (.tuple #[])]) (some (pn e)) (RDI .i64 (Addr.add ⟨b14, 0, none⟩ 0) fun n69 => RDI .i64 (Addr.add ⟨b14, 0, none⟩ 1) fun n70 => RDI .i64 ⟨b15, 0, none⟩ fun n71 => R n69 n70 n71) t := by
  refine def_some hf o15 fun s' k o => ?_
  refine ⟨_, (k.own hne o14).cell, ⟨_, (k.own hne o14').cell, ⟨_, o.cell, ?_⟩⟩⟩
  exact h s' (kp_nil hs (fun b hb => by have : b = b15 := hb; omega) k)
/-- An answer is told. -/
theorem done2 {f : FuncId} {b15 b14 : Nat} {lo hi : Int} {t : Hp} {R : Int → Int → Int → Hp → Prop} (hf : isTold f) (hs : Ext s t) (h15 : s.size ≤ b15) (h14 : s.size ≤ b14) (hne : b14 ≠ b15) (o15 : Own t ⟨b15, 0, none⟩ (.int .i64 0)) (o14 : Own t ⟨b14, 0, none⟩ (.int .i64 0)) (o14' : Own t ⟨b14, 1, none⟩ (.int .i64 0)) (h : ∀ s', Ext s s' → R lo hi 0 s') :
    (WR (Addr.add ⟨b14, 0, none⟩ 0) (.int .i64 lo) <| WR (Addr.add ⟨b14, 0, none⟩ 1) (.int .i64 hi) <| WR (Addr.add ⟨b15, 0, none⟩ 0) (.int .i64 0) <|
      DEF Pg W (.tuple #[(.func (.func f) #[] #[(.pointer (some ⟨b15, 0, none⟩))]), (.tuple #[])]) none (RDI .i64 (Addr.add ⟨b14, 0, none⟩ 0) fun n69 => RDI .i64 (Addr.add ⟨b14, 0, none⟩ 1) fun n70 => RDI .i64 ⟨b15, 0, none⟩ fun n71 => R n69 n70 n71)) t := by
  refine wrB o14 o14' rfl rfl fun t1 k1 z1 q1 q2 => ?_
  have hne' : ¬ b15 = b14 := fun h => hne h.symm
  refine wr1 (a := ⟨b15, 0, none⟩) (k1.own hne' o15) rfl fun t2 k2 z2 w => ?_
  refine def_none hf ?_
  have hn : ¬ b14 = b15 := hne
  refine ⟨_, (k2.own hn q1).cell, ⟨_, (k2.own hn q2).cell, ⟨_, w.cell, ?_⟩⟩⟩
  exact h t2 (kp_nil (kp_nil hs (fun b hb => by have : b = b14 := hb; omega) k1) (fun b hb => by have : b = b15 := hb; omega) k2)
theorem c_When {e : Int} (hc : ClV s c x y z) (h : ∀ s' lo hi err, Ext s s' → QR c (decide (0 ≤ e ∧ e < c.n)) (laterV (-1) e) lo hi err → K (.tuple #[.agg #[.int .i64 lo, .int .i64 hi], .int .i64 err]) s') : CALL Pg W F_clock_When [clkV c x y z c1 c2 c3, .int .i64 e] K E s := by
  unfold clkV
  refine does_clock_When W x _ c1 c.n y _ c2 z _ c3 e _ s ?_
  unfold T_clock_When
  refine ne4 fun s1 e1 z1 o1 o2 o3 o4 => ?_
  refine ne1 fun s2 e2 z2 p1 => ?_
  refine nz2 zc_34 fun s3 e3 z3 a1 a2 => ?_
  refine nz1 zc_29 fun s4 e4 z4 er => ?_
  refine nw1 zc_96 ?_ fun s5 e5 z5 qv => ?_
  · rfl
  have e25 := ((e2.trans e3).trans e4).trans e5
  have e35 := (e3.trans e4).trans e5
  have e05 := e1.trans e25
  have isv : isTold 45 := .inr (.inr (.inl rfl))
  refine ⟨_, _, _, (e25.own o1).cell, ⟨_, (e25.own o2).cell, ⟨_, _, _, (e25.own o3).cell, ⟨_, _, _, (e25.own o4).cell, ⟨_, _, _, (e25.own o1).cell, ⟨_, (e25.own o2).cell, ⟨_, _, _, (e25.own o3).cell, ⟨_, _, _, (e25.own o4).cell, ⟨_, (e35.own p1).cell, ⟨_, qv.cell, ?_⟩⟩⟩⟩⟩⟩⟩⟩⟩⟩
  refine c_isEvent fun s6 b e6 hb => ?_
  try simp only [TUP_mk, AGG_mk, HD_mk, NL_mk, TYI_mk, TYB_mk, TYP_mk, TYL_mk, TYS_mk, TYM_mk, SO_mk, NX_mk, endK_mk, endK_mk', add_0]
  have e26 := e25.trans e6
  refine ANDS_i ⟨_, (e6.own qv).cell, rfl⟩ (ANDS_i ⟨_, _, _, (e26.own o1).cell, ⟨_, (e26.own o2).cell, ⟨_, _, _, (e26.own o3).cell, ⟨_, _, _, (e26.own o4).cell, rfl⟩⟩⟩⟩ ?_)
  have e06 := e05.trans e6
  have hz1 : s1.size = s.size + 1 := z1
  have own15 : ∀ t, Ext s6 t → Own t ⟨s3.size, 0, none⟩ (.int .i64 0) := fun t f => ((e5.trans e6).trans f).own er
  have own14 : ∀ t, Ext s6 t → Own t ⟨s2.size, 0, none⟩ (.int .i64 0) := fun t f => (((e4.trans e5).trans e6).trans f).own a1
  have own14' : ∀ t, Ext s6 t → Own t ⟨s2.size, 1, none⟩ (.int .i64 0) := fun t f => (((e4.trans e5).trans e6).trans f).own a2
  refine c_open (hc.ext e06) (fun t f hok => ?_) (fun t f hok his => ?_) fun t b' f his hb' hcl => ?_
  · exact fail2 (R := fun a b d => K (.tuple #[.agg #[.int .i64 a, .int .i64 b], .int .i64 d])) isv (e06.trans f) (by omega) (by omega) (own15 t f) (own14 t f) (own14' t f) fun s' es => h s' 0 0 1 es (.inl ⟨hok, rfl, rfl, rfl⟩)
  · exact fail2 (R := fun a b d => K (.tuple #[.agg #[.int .i64 a, .int .i64 b], .int .i64 d])) isv (e06.trans f) (by omega) (by omega) (own15 t f) (own14 t f) (own14' t f) fun s' es => h s' 0 0 2 es (.inr (.inl ⟨hok, by rw [← hb (ok_n hok)]; exact his, rfl, rfl, rfl⟩))
  · try simp only [TUP_mk, AGG_mk, HD_mk, NL_mk, TYI_mk, TYB_mk, TYP_mk, TYL_mk, TYS_mk, TYM_mk, SO_mk, NX_mk, endK_mk, endK_mk', add_0]
    have hok : okC c = true := okC_iff.2 hcl.ok
    have hbe := hb (ok_n hok)
    rw [his] at hbe
    have hev := of_decide_eq_true hbe.symm
    refine ANDS_i ⟨_, ((e6.trans f).own qv).cell, rfl⟩ ?_
    have e3t := (e35.trans e6).trans f
    refine c_ask hcl (q_when (a := ⟨s1.size, 0, none⟩) hcl.ok hev) (e3t.own p1).cell (fun u1 u2 D hq eu k hD => k.cell (fun hd => by have := hD _ hd; have : t.size ≤ s1.size := this; have := e3t.1; omega) hq) (fun t2 f2 hno => ?_) (fun t2 lo hi f2 hsp => ?_)
    · exact fail2 (R := fun a b d => K (.tuple #[.agg #[.int .i64 a, .int .i64 b], .int .i64 d])) isv ((e06.trans f).trans f2) (by omega) (by omega) (own15 t2 (f.trans f2)) (own14 t2 (f.trans f2)) (own14' t2 (f.trans f2)) fun s' es => h s' 0 0 10 es (.inr (.inr (.inl ⟨hok, hbe.symm, hno, rfl, rfl, rfl⟩)))
    · try simp only [TUP_mk, AGG_mk, HD_mk, NL_mk, TYI_mk, TYB_mk, TYP_mk, TYL_mk, TYS_mk, TYM_mk, SO_mk, NX_mk, endK_mk, endK_mk', add_0]
      exact done2 (R := fun a b d => K (.tuple #[.agg #[.int .i64 a, .int .i64 b], .int .i64 d])) isv ((e06.trans f).trans f2) (by omega) (by omega) (by omega) (own15 t2 (f.trans f2)) (own14 t2 (f.trans f2)) (own14' t2 (f.trans f2)) fun s' es => h s' lo hi 0 es (.inr (.inr (.inr ⟨hok, hbe.symm, hsp.can, hsp, rfl⟩)))
theorem c_Lasted {u v : Int} (hc : ClV s c x y z) (h : ∀ s' lo hi err, Ext s s' → QR c (decide (0 ≤ u ∧ u < c.n) && decide (0 ≤ v ∧ v < c.n)) (laterV u v) lo hi err → K (.tuple #[.agg #[.int .i64 lo, .int .i64 hi], .int .i64 err]) s') : CALL Pg W F_clock_Lasted [clkV c x y z c1 c2 c3, .int .i64 u, .int .i64 v] K E s := by
  unfold clkV
  refine does_clock_Lasted W x _ c1 c.n y _ c2 z _ c3 u v _ s ?_
  unfold T_clock_Lasted
  refine ne4 fun s1 e1 z1 o1 o2 o3 o4 => ?_
  refine ne1 fun s2 e2 z2 p1 => ?_
  refine ne1 fun s2' e2' z2' p2 => ?_
  refine nz2 zc_34 fun s3 e3 z3 a1 a2 => ?_
  refine nz1 zc_29 fun s4 e4 z4 er => ?_
  refine nw1 zc_96 ?_ fun s5 e5 z5 qv => ?_
  · rfl
  have e35 := (e3.trans e4).trans e5
  have e225 := e2'.trans e35
  have e25 := e2.trans e225
  have e05 := e1.trans e25
  have isv : isTold 51 := .inr (.inr (.inr (.inl rfl)))
  refine ⟨_, _, _, (e25.own o1).cell, ⟨_, (e25.own o2).cell, ⟨_, _, _, (e25.own o3).cell, ⟨_, _, _, (e25.own o4).cell, ⟨_, _, _, (e25.own o1).cell, ⟨_, (e25.own o2).cell, ⟨_, _, _, (e25.own o3).cell, ⟨_, _, _, (e25.own o4).cell, ⟨_, (e225.own p1).cell, ⟨_, qv.cell, ?_⟩⟩⟩⟩⟩⟩⟩⟩⟩⟩
  refine c_isEvent fun s6 b1 e6 hb1 => ?_
  try simp only [TUP_mk, AGG_mk, HD_mk, NL_mk, TYI_mk, TYB_mk, TYP_mk, TYL_mk, TYS_mk, TYM_mk, SO_mk, NX_mk, endK_mk, endK_mk', add_0]
  have e26 := e25.trans e6
  refine ANDS_i ⟨_, (e6.own qv).cell, rfl⟩ (ANDS_i ⟨_, _, _, (e26.own o1).cell, ⟨_, (e26.own o2).cell, ⟨_, _, _, (e26.own o3).cell, ⟨_, _, _, (e26.own o4).cell, rfl⟩⟩⟩⟩ ?_)
  have e06 := e05.trans e6
  have own15 : ∀ t, Ext s6 t → Own t ⟨s3.size, 0, none⟩ (.int .i64 0) := fun t f => ((e5.trans e6).trans f).own er
  have own14 : ∀ t, Ext s6 t → Own t ⟨s2'.size, 0, none⟩ (.int .i64 0) := fun t f => (((e4.trans e5).trans e6).trans f).own a1
  have own14' : ∀ t, Ext s6 t → Own t ⟨s2'.size, 1, none⟩ (.int .i64 0) := fun t f => (((e4.trans e5).trans e6).trans f).own a2
  have hJ : ∀ b s7, Ext s6 s7 → (0 ≤ c.n ∧ c.n ≤ 5 → b = (decide (0 ≤ u ∧ u < c.n) && decide (0 ≤ v ∧ v < c.n))) → J_clock_Lasted_0 W (endK K E) x c.ws.length c1 c.n y c.rs.length c2 z c.ls.length c3 b s4.size (.func (.func 52) #[] #[.pointer (some ⟨s1.size, 0, none⟩), .pointer (some ⟨s2.size, 0, none⟩)]) s2'.size s3.size s7 := by
    intro b s7 e7 hb
    unfold J_clock_Lasted_0
    refine c_open (hc.ext (e06.trans e7)) (fun t f hok => ?_) (fun t f hok his => ?_) fun t b' f his hb' hcl => ?_
    · exact fail2 (R := fun a b d => K (.tuple #[.agg #[.int .i64 a, .int .i64 b], .int .i64 d])) isv ((e06.trans e7).trans f) (by omega) (by omega) (own15 t (e7.trans f)) (own14 t (e7.trans f)) (own14' t (e7.trans f)) fun s' es => h s' 0 0 1 es (.inl ⟨hok, rfl, rfl, rfl⟩)
    · exact fail2 (R := fun a b d => K (.tuple #[.agg #[.int .i64 a, .int .i64 b], .int .i64 d])) isv ((e06.trans e7).trans f) (by omega) (by omega) (own15 t (e7.trans f)) (own14 t (e7.trans f)) (own14' t (e7.trans f)) fun s' es => h s' 0 0 2 es (.inr (.inl ⟨hok, by rw [← hb (ok_n hok)]; exact his, rfl, rfl, rfl⟩))
    · try simp only [TUP_mk, AGG_mk, HD_mk, NL_mk, TYI_mk, TYB_mk, TYP_mk, TYL_mk, TYS_mk, TYM_mk, SO_mk, NX_mk, endK_mk, endK_mk', add_0]
      have hok : okC c = true := okC_iff.2 hcl.ok
      have hbe := hb (ok_n hok)
      rw [his] at hbe
      have hev := hbe.symm
      simp only [Bool.and_eq_true, decide_eq_true_eq] at hev
      refine ANDS_i ⟨_, (((e6.trans e7).trans f).own qv).cell, rfl⟩ ?_
      have e3t := ((e35.trans e6).trans e7).trans f
      have e2t := e2'.trans e3t
      refine c_ask hcl (q_lasted (a := ⟨s1.size, 0, none⟩) (b := ⟨s2.size, 0, none⟩) hcl.ok hev.1 hev.2) ⟨(e2t.own p1).cell, (e3t.own p2).cell⟩ (fun u1 u2 D hq eu k hD => ⟨k.cell (fun hd => by have := hD _ hd; have : t.size ≤ s1.size := this; have := e3t.1; omega) hq.1, k.cell (fun hd => by have := hD _ hd; have : t.size ≤ s2.size := this; have := e3t.1; omega) hq.2⟩) (fun t2 f2 hno => ?_) (fun t2 lo hi f2 hsp => ?_)
      · exact fail2 (R := fun a b d => K (.tuple #[.agg #[.int .i64 a, .int .i64 b], .int .i64 d])) isv (((e06.trans e7).trans f).trans f2) (by omega) (by omega) (own15 t2 ((e7.trans f).trans f2)) (own14 t2 ((e7.trans f).trans f2)) (own14' t2 ((e7.trans f).trans f2)) fun s' es => h s' 0 0 10 es (.inr (.inr (.inl ⟨hok, hbe.symm, hno, rfl, rfl, rfl⟩)))
      · try simp only [TUP_mk, AGG_mk, HD_mk, NL_mk, TYI_mk, TYB_mk, TYP_mk, TYL_mk, TYS_mk, TYM_mk, SO_mk, NX_mk, endK_mk, endK_mk', add_0]
        exact done2 (R := fun a b d => K (.tuple #[.agg #[.int .i64 a, .int .i64 b], .int .i64 d])) isv (((e06.trans e7).trans f).trans f2) (by omega) (by omega) (by omega) (own15 t2 ((e7.trans f).trans f2)) (own14 t2 ((e7.trans f).trans f2)) (own14' t2 ((e7.trans f).trans f2)) fun s' es => h s' lo hi 0 es (.inr (.inr (.inr ⟨hok, hbe.symm, hsp.can, hsp, rfl⟩)))
  refine BR_bool (fun hbt => ?_) (fun hbf => ?_)
  · refine ⟨_, _, _, (e26.own o1).cell, ⟨_, (e26.own o2).cell, ⟨_, _, _, (e26.own o3).cell, ⟨_, _, _, (e26.own o4).cell, ⟨_, ((e35.trans e6).own p2).cell, ?_⟩⟩⟩⟩⟩
    refine c_isEvent fun s7 b7 e7 hb7 => ?_
    try simp only [TUP_mk, AGG_mk, HD_mk, NL_mk, TYI_mk, TYB_mk, TYP_mk, TYL_mk, TYS_mk, TYM_mk, SO_mk, NX_mk, endK_mk, endK_mk', add_0]
    have e27 := e26.trans e7
    refine ANDS_i ⟨_, ((e6.trans e7).own qv).cell, rfl⟩ (ANDS_i ⟨_, _, _, (e27.own o1).cell, ⟨_, (e27.own o2).cell, ⟨_, _, _, (e27.own o3).cell, ⟨_, _, _, (e27.own o4).cell, rfl⟩⟩⟩⟩ ?_)
    refine hJ b7 s7 e7 fun hn => ?_
    rw [hb7 hn, ← hb1 hn, hbt]; rfl
  · refine hJ false s6 (Ext.refl _) fun hn => ?_
    rw [← hb1 hn, hbf]; rfl
theorem c_Shows {u v : Int} (hc : ClV s c x y z) (hlen : c.ws.length ≤ 1000000000) (h : ∀ s' lo hi err, Ext s s' → QR c (decide (0 ≤ u ∧ u < c.ws.length) && decide (0 ≤ v ∧ v < c.n)) (showV u v) lo hi err → K (.tuple #[.agg #[.int .i64 lo, .int .i64 hi], .int .i64 err]) s') : CALL Pg W F_clock_Shows [clkV c x y z c1 c2 c3, .int .i64 u, .int .i64 v] K E s := by
  unfold clkV
  refine does_clock_Shows W x _ c1 c.n y _ c2 z _ c3 u v _ s ?_
  unfold T_clock_Shows
  refine ne4 fun s1 e1 z1 o1 o2 o3 o4 => ?_
  refine ne1 fun s2 e2 z2 p1 => ?_
  refine ne1 fun s2' e2' z2' p2 => ?_
  refine nz2 zc_34 fun s3 e3 z3 a1 a2 => ?_
  refine nz1 zc_29 fun s4 e4 z4 er => ?_
  refine nw1 zc_96 ?_ fun s5 e5 z5 qv => ?_
  · rfl
  have e35 := (e3.trans e4).trans e5
  have e225 := e2'.trans e35
  have e25 := e2.trans e225
  have e05 := e1.trans e25
  have isv : isTold 53 := .inr (.inr (.inr (.inr (.inl rfl))))
  refine ⟨_, _, _, (e25.own o1).cell, ⟨_, (e25.own o2).cell, ⟨_, _, _, (e25.own o3).cell, ⟨_, _, _, (e25.own o4).cell, ⟨_, _, _, (e25.own o1).cell, ⟨_, (e25.own o2).cell, ⟨_, _, _, (e25.own o3).cell, ⟨_, _, _, (e25.own o4).cell, ⟨_, (e225.own p1).cell, ⟨_, qv.cell, ?_⟩⟩⟩⟩⟩⟩⟩⟩⟩⟩
  refine c_isWatch hlen fun s6 e6 => ?_
  have hb1 : 0 ≤ c.n ∧ c.n ≤ 5 → decide (0 ≤ u ∧ u < c.ws.length) = decide (0 ≤ u ∧ u < c.ws.length) := fun _ => rfl
  try simp only [TUP_mk, AGG_mk, HD_mk, NL_mk, TYI_mk, TYB_mk, TYP_mk, TYL_mk, TYS_mk, TYM_mk, SO_mk, NX_mk, endK_mk, endK_mk', add_0]
  have e26 := e25.trans e6
  refine ANDS_i ⟨_, (e6.own qv).cell, rfl⟩ (ANDS_i ⟨_, _, _, (e26.own o1).cell, ⟨_, (e26.own o2).cell, ⟨_, _, _, (e26.own o3).cell, ⟨_, _, _, (e26.own o4).cell, rfl⟩⟩⟩⟩ ?_)
  have e06 := e05.trans e6
  have own15 : ∀ t, Ext s6 t → Own t ⟨s3.size, 0, none⟩ (.int .i64 0) := fun t f => ((e5.trans e6).trans f).own er
  have own14 : ∀ t, Ext s6 t → Own t ⟨s2'.size, 0, none⟩ (.int .i64 0) := fun t f => (((e4.trans e5).trans e6).trans f).own a1
  have own14' : ∀ t, Ext s6 t → Own t ⟨s2'.size, 1, none⟩ (.int .i64 0) := fun t f => (((e4.trans e5).trans e6).trans f).own a2
  have hJ : ∀ b s7, Ext s6 s7 → (0 ≤ c.n ∧ c.n ≤ 5 → b = (decide (0 ≤ u ∧ u < c.ws.length) && decide (0 ≤ v ∧ v < c.n))) → J_clock_Shows_0 W (endK K E) x c.ws.length c1 c.n y c.rs.length c2 z c.ls.length c3 b s4.size (.func (.func 54) #[] #[.pointer (some ⟨s2.size, 0, none⟩), .pointer (some ⟨s1.size, 0, none⟩)]) s2'.size s3.size s7 := by
    intro b s7 e7 hb
    unfold J_clock_Shows_0
    refine c_open (hc.ext (e06.trans e7)) (fun t f hok => ?_) (fun t f hok his => ?_) fun t b' f his hb' hcl => ?_
    · exact fail2 (R := fun a b d => K (.tuple #[.agg #[.int .i64 a, .int .i64 b], .int .i64 d])) isv ((e06.trans e7).trans f) (by omega) (by omega) (own15 t (e7.trans f)) (own14 t (e7.trans f)) (own14' t (e7.trans f)) fun s' es => h s' 0 0 1 es (.inl ⟨hok, rfl, rfl, rfl⟩)
    · exact fail2 (R := fun a b d => K (.tuple #[.agg #[.int .i64 a, .int .i64 b], .int .i64 d])) isv ((e06.trans e7).trans f) (by omega) (by omega) (own15 t (e7.trans f)) (own14 t (e7.trans f)) (own14' t (e7.trans f)) fun s' es => h s' 0 0 2 es (.inr (.inl ⟨hok, by rw [← hb (ok_n hok)]; exact his, rfl, rfl, rfl⟩))
    · try simp only [TUP_mk, AGG_mk, HD_mk, NL_mk, TYI_mk, TYB_mk, TYP_mk, TYL_mk, TYS_mk, TYM_mk, SO_mk, NX_mk, endK_mk, endK_mk', add_0]
      have hok : okC c = true := okC_iff.2 hcl.ok
      have hbe := hb (ok_n hok)
      rw [his] at hbe
      have hev := hbe.symm
      simp only [Bool.and_eq_true, decide_eq_true_eq] at hev
      refine ANDS_i ⟨_, (((e6.trans e7).trans f).own qv).cell, rfl⟩ ?_
      have e3t := ((e35.trans e6).trans e7).trans f
      have e2t := e2'.trans e3t
      refine c_ask hcl (q_shows (a := ⟨s2.size, 0, none⟩) (b := ⟨s1.size, 0, none⟩) hcl.ok hev.2 hev.1) ⟨(e3t.own p2).cell, (e2t.own p1).cell⟩ (fun u1 u2 D hq eu k hD => ⟨k.cell (fun hd => by have := hD _ hd; have : t.size ≤ s2.size := this; have := e3t.1; omega) hq.1, k.cell (fun hd => by have := hD _ hd; have : t.size ≤ s1.size := this; have := e3t.1; omega) hq.2⟩) (fun t2 f2 hno => ?_) (fun t2 lo hi f2 hsp => ?_)
      · exact fail2 (R := fun a b d => K (.tuple #[.agg #[.int .i64 a, .int .i64 b], .int .i64 d])) isv (((e06.trans e7).trans f).trans f2) (by omega) (by omega) (own15 t2 ((e7.trans f).trans f2)) (own14 t2 ((e7.trans f).trans f2)) (own14' t2 ((e7.trans f).trans f2)) fun s' es => h s' 0 0 10 es (.inr (.inr (.inl ⟨hok, hbe.symm, hno, rfl, rfl, rfl⟩)))
      · try simp only [TUP_mk, AGG_mk, HD_mk, NL_mk, TYI_mk, TYB_mk, TYP_mk, TYL_mk, TYS_mk, TYM_mk, SO_mk, NX_mk, endK_mk, endK_mk', add_0]
        exact done2 (R := fun a b d => K (.tuple #[.agg #[.int .i64 a, .int .i64 b], .int .i64 d])) isv (((e06.trans e7).trans f).trans f2) (by omega) (by omega) (by omega) (own15 t2 ((e7.trans f).trans f2)) (own14 t2 ((e7.trans f).trans f2)) (own14' t2 ((e7.trans f).trans f2)) fun s' es => h s' lo hi 0 es (.inr (.inr (.inr ⟨hok, hbe.symm, hsp.can, hsp, rfl⟩)))
  refine BR_bool (fun hbt => ?_) (fun hbf => ?_)
  · refine ⟨_, _, _, (e26.own o1).cell, ⟨_, (e26.own o2).cell, ⟨_, _, _, (e26.own o3).cell, ⟨_, _, _, (e26.own o4).cell, ⟨_, ((e35.trans e6).own p2).cell, ?_⟩⟩⟩⟩⟩
    refine c_isEvent fun s7 b7 e7 hb7 => ?_
    try simp only [TUP_mk, AGG_mk, HD_mk, NL_mk, TYI_mk, TYB_mk, TYP_mk, TYL_mk, TYS_mk, TYM_mk, SO_mk, NX_mk, endK_mk, endK_mk', add_0]
    have e27 := e26.trans e7
    refine ANDS_i ⟨_, ((e6.trans e7).own qv).cell, rfl⟩ (ANDS_i ⟨_, _, _, (e27.own o1).cell, ⟨_, (e27.own o2).cell, ⟨_, _, _, (e27.own o3).cell, ⟨_, _, _, (e27.own o4).cell, rfl⟩⟩⟩⟩ ?_)
    refine hJ b7 s7 e7 fun hn => ?_
    rw [hb7 hn, ← hb1 hn, hbt]; rfl
  · refine hJ false s6 (Ext.refl _) fun hn => ?_
    rw [← hb1 hn, hbf]; rfl
end
end Go.Proofs.Ytknpmijgdfeliaa.G

/- Clock: which was first; how a watch goes. -/
set_option linter.unusedSimpArgs false
set_option linter.unusedVariables false
set_option maxRecDepth 20000
namespace Go.Proofs.Ytknpmijgdfeliaa.G
open Go.V
theorem zc_99 : zc Pg 99 = [.nilFunc] := by kernel_rfl
def firstN (lo hi err : Int) : Int := if err ≠ 0 ∨ hi ≤ 0 then 0 else if 0 < lo then 2 else 1
section
variable {W : World} {K : VK} {E : List PanicEntry → Hp → Prop} {s : Hp} {c : Clk} {x y z : Option Addr} {c1 c2 c3 : Nat}
theorem c_First {u v : Int} (hc : ClV s c x y z) (h : ∀ s' lo hi err, Ext s s' → QR c (decide (0 ≤ u ∧ u < c.n) && decide (0 ≤ v ∧ v < c.n)) (laterV u v) lo hi err → K (.tuple #[.int .i64 (firstN lo hi err), .int .i64 err]) s') : CALL Pg W F_clock_First [clkV c x y z c1 c2 c3, .int .i64 u, .int .i64 v] K E s := by
  unfold clkV
  refine does_clock_First W x _ c1 c.n y _ c2 z _ c3 u v _ s ?_
  unfold T_clock_First
  refine ne4 fun s1 e1 z1 o1 o2 o3 o4 => ⟨_, _, _, o1.cell, ⟨_, o2.cell, ⟨_, _, _, o3.cell, ⟨_, _, _, o4.cell, ?_⟩⟩⟩⟩
  refine c_Lasted (hc.ext e1) fun s2 lo hi err e2 hq => ?_
  try simp only [TUP_mk, AGG_mk, HD_mk, NL_mk, TYI_mk, TYB_mk, TYP_mk, TYL_mk, TYS_mk, TYM_mk, SO_mk, NX_mk, endK_mk, endK_mk', add_0]
  refine nw2 zc_34 rfl rfl fun s3 e3 z3 q1 q2 => ?_
  have e03 := (e1.trans e2).trans e3
  have hh := h s3 lo hi err e03 hq
  refine BR_ne (fun hne => ?_) (fun heq => ?_)
  · unfold J_clock_First_0
    rw [BR_t]
    have : firstN lo hi err = 0 := if_pos (.inl hne)
    rw [this] at hh; exact hh
  · subst heq
    refine ⟨_, q2.cell, ?_⟩
    unfold J_clock_First_0
    refine BR_dec (fun h1 => ?_) (fun h1 => ⟨_, q1.cell, ?_⟩)
    · have : firstN lo hi 0 = 0 := if_pos (.inr h1)
      rw [this] at hh; exact hh
    · have hn : ¬ ((0 : Int) ≠ 0 ∨ hi ≤ 0) := by omega
      refine BR_dec (fun h2 => ?_) (fun h2 => ?_)
      · have : firstN lo hi 0 = 2 := by unfold firstN; rw [if_neg hn, if_pos h2]
        rw [this] at hh; exact hh
      · have : firstN lo hi 0 = 1 := by unfold firstN; rw [if_neg hn, if_neg (by omega)]
        rw [this] at hh; exact hh
theorem c_Goes {w : Int} (hc : ClV s c x y z) (hlen : c.ws.length ≤ 1000000000) (h : ∀ s' zl zh rl rh err, Ext s s' → QR c (decide (0 ≤ w ∧ w < c.ws.length)) (zeroV w) zl zh err → QR c (decide (0 ≤ w ∧ w < c.ws.length)) (rateV w) rl rh err → K (.tuple #[.agg #[.int .i64 zl, .int .i64 zh], .agg #[.int .i64 rl, .int .i64 rh], .int .i64 err]) s') : CALL Pg W F_clock_Goes [clkV c x y z c1 c2 c3, .int .i64 w] K E s := by
  unfold clkV
  refine does_clock_Goes W x _ c1 c.n y _ c2 z _ c3 w _ s ?_
  unfold T_clock_Goes
  refine ne4 fun s1 e1 z1 o1 o2 o3 o4 => ?_
  refine ne1 fun s2 e2 z2 p1 => ?_
  refine nz2 zc_34 fun s3 e3 z3 a1 a2 => ?_
  refine nz2 zc_34 fun s4 e4 z4 b1 b2 => ?_
  refine nz1 zc_29 fun s5 e5 z5 er => ?_
  have e25 := ((e2.trans e3).trans e4).trans e5
  have e35 := (e3.trans e4).trans e5
  have e05 := e1.trans e25
  have isv : isTold 58 := .inr (.inr (.inr (.inr (.inr rfl))))
  refine ⟨_, _, _, (e25.own o1).cell, ⟨_, (e25.own o2).cell, ⟨_, _, _, (e25.own o3).cell, ⟨_, _, _, (e25.own o4).cell, ⟨_, _, _, (e25.own o1).cell, ⟨_, (e25.own o2).cell, ⟨_, _, _, (e25.own o3).cell, ⟨_, _, _, (e25.own o4).cell, ⟨_, (e35.own p1).cell, ?_⟩⟩⟩⟩⟩⟩⟩⟩⟩
  refine c_isWatch hlen fun s6 e6 => ?_
  try simp only [TUP_mk, AGG_mk, HD_mk, NL_mk, TYI_mk, TYB_mk, TYP_mk, TYL_mk, TYS_mk, TYM_mk, SO_mk, NX_mk, endK_mk, endK_mk', add_0]
  have e26 := e25.trans e6
  have e06 := e05.trans e6
  refine ANDS_i ⟨_, _, _, (e26.own o1).cell, ⟨_, (e26.own o2).cell, ⟨_, _, _, (e26.own o3).cell, ⟨_, _, _, (e26.own o4).cell, rfl⟩⟩⟩⟩ ?_
  have hfail : ∀ t e, Ext s6 t → QR c (decide (0 ≤ w ∧ w < c.ws.length)) (zeroV w) 0 0 e → QR c (decide (0 ≤ w ∧ w < c.ws.length)) (rateV w) 0 0 e →
      DEF Pg W (.tuple #[(.func (.func 58) #[] #[(.pointer (some ⟨s4.size, 0, none⟩))]), (.tuple #[])]) (some (pn e)) (RDI .i64 (Addr.add ⟨s2.size, 0, none⟩ 0) fun n101 => RDI .i64 (Addr.add ⟨s2.size, 0, none⟩ 1) fun n102 => RDI .i64 (Addr.add ⟨s3.size, 0, none⟩ 0) fun n103 => RDI .i64 (Addr.add ⟨s3.size, 0, none⟩ 1) fun n104 => RDI .i64 ⟨s4.size, 0, none⟩ fun n105 => (endK K E) (.returned (.tuple #[(.agg #[(.int .i64 n101), (.int .i64 n102)]), (.agg #[(.int .i64 n103), (.int .i64 n104)]), (.int .i64 n105)]))) t := by
    intro t e f hz hr
    have f6 := e6.trans f
    refine def_some isv (f6.own er) fun s' k o => ?_
    have n1 : ¬ s2.size = s4.size := by omega
    have n2 : ¬ s3.size = s4.size := by omega
    refine ⟨_, (k.own n1 (((e4.trans e5).trans f6).own a1)).cell, ⟨_, (k.own n1 (((e4.trans e5).trans f6).own a2)).cell, ⟨_, (k.own n2 ((e5.trans f6).own b1)).cell, ⟨_, (k.own n2 ((e5.trans f6).own b2)).cell, ⟨_, o.cell, ?_⟩⟩⟩⟩⟩
    exact h s' 0 0 0 0 e (kp_nil (e05.trans f6) (fun b hb => by have : b = s4.size := hb; omega) k) hz hr
  refine c_open (hc.ext e06) (fun t f hok => ?_) (fun t f hok his => ?_) fun t b' f his hb' hcl => ?_
  · exact hfail t 1 f (.inl ⟨hok, rfl, rfl, rfl⟩) (.inl ⟨hok, rfl, rfl, rfl⟩)
  · exact hfail t 2 f (.inr (.inl ⟨hok, his, rfl, rfl, rfl⟩)) (.inr (.inl ⟨hok, his, rfl, rfl, rfl⟩))
  · try simp only [TUP_mk, AGG_mk, HD_mk, NL_mk, TYI_mk, TYB_mk, TYP_mk, TYL_mk, TYS_mk, TYM_mk, SO_mk, NX_mk, endK_mk, endK_mk', add_0]
    have hok : okC c = true := okC_iff.2 hcl.ok
    have hw := of_decide_eq_true his
    refine nw1 zc_99 rfl fun t1 f1 y1 fo => ?_
    have e2t := ((e35.trans e6).trans f).trans f1
    have p1t : Own t1 ⟨s1.size, 0, none⟩ (.int .i64 w) := e2t.own p1
    have hlt1 : s1.size < t1.size := p1t.lt
    have hlt2 : t.size < t1.size := fo.lt
    refine c_ask (hcl.ext f1) (q_zero (a := ⟨t.size, 0, none⟩) (b := ⟨s1.size, 0, none⟩) hcl.ok hw) ⟨fo.cell, p1t.cell⟩ (fun u1 u2 D hq eu k hD => ⟨k.cell (fun hd => by have := hD _ hd; have : t1.size ≤ t.size := this; omega) hq.1, k.cell (fun hd => by have := hD _ hd; have : t1.size ≤ s1.size := this; omega) hq.2⟩) (fun t2 f2 hno => ?_) (fun t2 lo hi f2 hsp => ?_)
    · exact hfail t2 10 ((f.trans f1).trans f2) (.inr (.inr (.inl ⟨hok, his, hno, rfl, rfl, rfl⟩))) (.inr (.inr (.inl ⟨hok, his, hno, rfl, rfl, rfl⟩)))
    · try simp only [TUP_mk, AGG_mk, HD_mk, NL_mk, TYI_mk, TYB_mk, TYP_mk, TYL_mk, TYS_mk, TYM_mk, SO_mk, NX_mk, endK_mk, endK_mk', add_0]
      refine nw2 zc_34 rfl rfl fun t3 f3 y3 za zb => ?_
      have f13 := f2.trans f3
      have hlt3 : t1.size ≤ t3.size := f13.1
      refine c_ask ((hcl.ext f1).ext f13) (q_rate (a := ⟨t.size, 0, none⟩) (b := ⟨s1.size, 0, none⟩) hcl.ok hw) ⟨(f13.own fo).cell, (f13.own p1t).cell⟩ (fun u1 u2 D hq eu k hD => ⟨k.cell (fun hd => by have := hD _ hd; have : t3.size ≤ t.size := this; omega) hq.1, k.cell (fun hd => by have := hD _ hd; have : t3.size ≤ s1.size := this; omega) hq.2⟩) (fun t4 f4 hno => ?_) (fun t4 lo2 hi2 f4 hsp2 => ?_)
      · exact absurd hsp.can hno
      · try simp only [TUP_mk, AGG_mk, HD_mk, NL_mk, TYI_mk, TYB_mk, TYP_mk, TYL_mk, TYS_mk, TYM_mk, SO_mk, NX_mk, endK_mk, endK_mk', add_0]
        refine nw2 zc_34 rfl rfl fun t5 f5 y5 ra rb => ?_
        have f35 := f4.trans f5
        have f65 := (((f.trans f1).trans f13).trans f35)
        have a1t : Own t5 ⟨s2.size, 0, none⟩ (.int .i64 0) := (((e4.trans e5).trans e6).trans f65).own a1
        have a2t : Own t5 ⟨s2.size, 1, none⟩ (.int .i64 0) := (((e4.trans e5).trans e6).trans f65).own a2
        have b1t : Own t5 ⟨s3.size, 0, none⟩ (.int .i64 0) := ((e5.trans e6).trans f65).own b1
        have b2t : Own t5 ⟨s3.size, 1, none⟩ (.int .i64 0) := ((e5.trans e6).trans f65).own b2
        have ert : Own t5 ⟨s4.size, 0, none⟩ (.int .i64 0) := (e6.trans f65).own er
        have h5 : s4.size < t1.size := by have := f.1; have := e6.1; omega
        have h6 : t1.size ≤ t4.size := Nat.le_trans hlt3 f4.1
        refine ⟨_, (f35.own za).cell, ⟨_, (f35.own zb).cell, ⟨_, ra.cell, ⟨_, rb.cell, ?_⟩⟩⟩⟩
        refine wrB a1t a2t rfl rfl fun u1 k1 _ A1 A2 => ?_
        have m1 : ¬ t4.size = s2.size := by omega
        have m2 : ¬ s3.size = s2.size := by omega
        have m3 : ¬ s4.size = s2.size := by omega
        have m4 : ¬ s4.size = s3.size := by omega
        have m5 : ¬ s2.size = s3.size := by omega
        have m6 : ¬ s2.size = s4.size := by omega
        have m7 : ¬ s3.size = s4.size := by omega
        refine ANDS_i ⟨_, (k1.own m1 ra).cell, ⟨_, (k1.own m1 rb).cell, rfl⟩⟩ ?_
        refine wrB (k1.own m2 b1t) (k1.own m2 b2t) rfl rfl fun u2 k2 _ B1 B2 => ?_
        refine wr1 (a := ⟨s4.size, 0, none⟩) (k2.own m4 (k1.own m3 ert)) rfl fun u3 k3 _ ee => ?_
        refine def_none isv ?_
        refine ⟨_, (k3.own m6 (k2.own m5 A1)).cell, ⟨_, (k3.own m6 (k2.own m5 A2)).cell, ⟨_, (k3.own m7 B1).cell, ⟨_, (k3.own m7 B2).cell, ⟨_, ee.cell, ?_⟩⟩⟩⟩⟩
        have ez : Ext s u3 := kp_nil (kp_nil (kp_nil (e06.trans f65) (fun b hb => by have : b = s2.size := hb; omega) k1) (fun b hb => by have : b = s3.size := hb; omega) k2) (fun b hb => by have : b = s4.size := hb; omega) k3
        exact h u3 _ _ _ _ 0 ez (.inr (.inr (.inr ⟨hok, his, hsp.can, hsp, rfl⟩))) (.inr (.inr (.inr ⟨hok, his, hsp.can, hsp2, rfl⟩)))
end
end Go.Proofs.Ytknpmijgdfeliaa.G

/- Clock: which watch must be wrong. -/
set_option linter.unusedSimpArgs false
set_option linter.unusedVariables false
set_option maxRecDepth 20000
namespace Go.Proofs.Ytknpmijgdfeliaa.G
open Go.V
/-- A set without one. -/
def clr (S i : Nat) : Nat := S &&& (255 ^^^ 2 ^ i)
theorem clr_tab : ∀ S : Nat, S < 256 → ∀ i : Nat, i < 8 → andnv .u64 (S : Int) (shlv .u64 1 (i : Int)) = ((clr S i : Nat) : Int) ∧ clr S i < 256 ∧ ∀ j : Nat, j < 8 → (clr S i).testBit j = (S.testBit j && j != i) := by
  have h : ((List.range 256).all fun (S : Nat) => (List.range 8).all fun (i : Nat) => decide (andnv .u64 (S : Int) (shlv .u64 1 (i : Int)) = ((clr S i : Nat) : Int)) && decide (clr S i < 256) && (List.range 8).all fun (j : Nat) => (clr S i).testBit j == (S.testBit j && j != i)) = true := by decide +kernel
  intro S hS i hi
  have h1 := List.all_eq_true.1 h S (by simpa using hS)
  have h2 := List.all_eq_true.1 h1 i (by simpa using hi)
  simp only [Bool.and_eq_true, decide_eq_true_eq] at h2
  obtain ⟨⟨h3, h4⟩, h5⟩ := h2
  refine ⟨h3, h4, fun j hj => ?_⟩
  have := List.all_eq_true.1 h5 j (by simpa using hj)
  simpa using this
theorem set_tab : ∀ S : Nat, S < 4 → ∀ i : Nat, i < 2 → S < 2 ^ i → orv .i64 (S : Int) (shlv .i64 1 (i : Int)) = ((S + 2 ^ i : Nat) : Int) ∧ S + 2 ^ i < 2 ^ (i + 1) ∧ ∀ j : Nat, j < 2 → (S + 2 ^ i).testBit j = (S.testBit j || j == i) := by
  have h : ((List.range 4).all fun (S : Nat) => (List.range 2).all fun (i : Nat) => !(decide (S < 2 ^ i)) || (decide (orv .i64 (S : Int) (shlv .i64 1 (i : Int)) = ((S + 2 ^ i : Nat) : Int)) && decide (S + 2 ^ i < 2 ^ (i + 1)) && (List.range 2).all fun (j : Nat) => (S + 2 ^ i).testBit j == (S.testBit j || j == i))) = true := by decide +kernel
  intro S hS i hi hlt
  have h1 := List.all_eq_true.1 h S (by simpa using hS)
  have h2 := List.all_eq_true.1 h1 i (by simpa using hi)
  rw [decide_eq_true hlt] at h2
  simp only [Bool.not_true, Bool.false_or, Bool.and_eq_true, decide_eq_true_eq] at h2
  obtain ⟨⟨h3, h4⟩, h5⟩ := h2
  refine ⟨h3, h4, fun j hj => ?_⟩
  have := List.all_eq_true.1 h5 j (by simpa using hj)
  simpa using this
theorem every_bit {c : Clk} {i : Nat} (hi : i < c.rs.length) : (everyN c).testBit i = true := by
  unfold everyN
  rw [Nat.testBit_two_pow_sub_one]
  simpa using hi
theorem Truth.congr {c : Clk} {S S' : Nat} {g : List Go'} {m : Int → Int} (h : Truth c S g m) (he : ∀ i, i < c.rs.length → S'.testBit i = true → S.testBit i = true) : Truth c S' g m := ⟨h.goes, h.days, fun i hi hb => h.shows i hi (he i hi hb), h.links⟩
theorem CanC.congr {c : Clk} {S S' : Nat} (h : CanC c S) (he : ∀ i, i < c.rs.length → S'.testBit i = true → S.testBit i = true) : CanC c S' := by
  obtain ⟨g, m, h⟩ := h
  exact ⟨g, m, h.congr he⟩
/-- There is a truth without a watch's readings. -/
def CanWo (c : Clk) (k : Int) : Prop := ∃ S, (∀ i (hi : i < c.rs.length), S.testBit i = decide (c.rs[i].wa ≠ k)) ∧ CanC c S
def WrongR (c : Clk) (w err : Int) : Prop :=
  (okC c = false ∧ w = 0 ∧ err = 1) ∨ (okC c = true ∧ CanC c (everyN c) ∧ w = 0 ∧ err = 4) ∨
    (okC c = true ∧ ¬ CanC c (everyN c) ∧ err = 0 ∧ ∃ n : Nat, w = n ∧ n < 2 ^ c.ws.length ∧ ∀ k, k < c.ws.length → (n.testBit k = true ↔ CanWo c (k : Int)))
section
variable {W : World} {K : VK} {E : List PanicEntry → Hp → Prop} {s : Hp} {c : Clk} {x y z : Option Addr} {c1 c2 c3 : Nat}
theorem fail1 {f : FuncId} {b15 : Nat} {e n : Int} {t : Hp} {R : Int → Int → Hp → Prop} (hf : isTold f) (hs : Ext s t) (h15 : s.size ≤ b15) (o15 : Own t ⟨b15, 0, none⟩ (.int .i64 0)) (h : ∀ s', Ext s s' → R n e s') :
    DEF Pg W (.tuple #[(.func (.func f) #[] #[(.pointer (some ⟨b15, 0, none⟩))]), (.tuple #[])]) (some (pn e)) (RDI .i64 ⟨b15, 0, none⟩ fun n71 => R n n71) t := by
  refine def_some hf o15 fun s' k o => ⟨_, o.cell, ?_⟩
  exact h s' (kp_nil hs (fun b hb => by have : b = b15 := hb; omega) k)
theorem done1 {f : FuncId} {b15 : Nat} {n : Int} {t : Hp} {R : Int → Int → Hp → Prop} (hf : isTold f) (hs : Ext s t) (h15 : s.size ≤ b15) (o15 : Own t ⟨b15, 0, none⟩ (.int .i64 0)) (h : ∀ s', Ext s s' → R n 0 s') :
    (WR (Addr.add ⟨b15, 0, none⟩ 0) (.int .i64 0) <| DEF Pg W (.tuple #[(.func (.func f) #[] #[(.pointer (some ⟨b15, 0, none⟩))]), (.tuple #[])]) none (RDI .i64 ⟨b15, 0, none⟩ fun n71 => R n n71)) t := by
  refine wr1 (a := ⟨b15, 0, none⟩) o15 rfl fun t2 k2 z2 w => ?_
  refine def_none hf ⟨_, w.cell, ?_⟩
  exact h t2 (kp_nil hs (fun b hb => by have : b = b15 := hb; omega) k2)
theorem c_Wrong (hc : ClV s c x y z) (h : ∀ s' w err, Ext s s' → WrongR c w err → K (.tuple #[.int .i64 w, .int .i64 err]) s') : CALL Pg W F_clock_Wrong [clkV c x y z c1 c2 c3] K E s := by
  unfold clkV
  refine does_clock_Wrong W x _ c1 c.n y _ c2 z _ c3 _ s ?_
  unfold T_clock_Wrong
  refine ne4 fun s1 e1 z1 o1 o2 o3 o4 => ?_
  refine nz1 zc_29 fun s2 e2 z2 er => ?_
  have e02 := e1.trans e2
  have isv : isTold 41 := .inr (.inl rfl)
  refine ⟨_, _, _, (e2.own o1).cell, ⟨_, (e2.own o2).cell, ⟨_, _, _, (e2.own o3).cell, ⟨_, _, _, (e2.own o4).cell, ?_⟩⟩⟩⟩
  refine c_open (hc.ext e02) (fun t f hok => ?_) (fun t f hok his => by cases his) fun s3 p e3 _ hb' hcl => ?_
  · exact fail1 (n := 0) (R := fun a b => K (.tuple #[.int .i64 a, .int .i64 b])) isv (e02.trans f) (by omega) (f.own er) fun s' es => h s' 0 1 es (.inl ⟨hok, rfl, rfl⟩)
  try simp only [TUP_mk, AGG_mk, HD_mk, NL_mk, TYI_mk, TYB_mk, TYP_mk, TYL_mk, TYS_mk, TYM_mk, SO_mk, NX_mk, endK_mk, endK_mk', add_0]
  have hv := hcl.ok
  have hok : okC c = true := okC_iff.2 hv
  refine c_every hcl ?_
  try simp only [TUP_mk, AGG_mk, HD_mk, NL_mk, TYI_mk, TYB_mk, TYP_mk, TYL_mk, TYS_mk, TYM_mk, SO_mk, NX_mk, endK_mk, endK_mk', add_0]
  refine c_can hcl (every_lt hv) fun s4 e4 => ?_
  try simp only [TUP_mk, AGG_mk, HD_mk, NL_mk, TYI_mk, TYB_mk, TYP_mk, TYL_mk, TYS_mk, TYM_mk, SO_mk, NX_mk, endK_mk, endK_mk', add_0]
  have e34 := e3.trans e4
  have e04 := e02.trans e34
  refine c_need (fun hb => ?_) (fun hb => ?_)
  rotate_left
  · have hcan : CanC c (everyN c) := canB_iff.1 (by simpa using hb)
    exact fail1 (n := 0) (R := fun a b => K (.tuple #[.int .i64 a, .int .i64 b])) isv e04 (by omega) (e34.own er) fun s' es => h s' 0 4 es (.inr (.inl ⟨hok, hcan, rfl, rfl⟩))
  have hno : ¬ CanC c (everyN c) := fun hcan => by rw [canB_iff.2 hcan] at hb; cases hb
  try simp only [TUP_mk, AGG_mk, HD_mk, NL_mk, TYI_mk, TYB_mk, TYP_mk, TYL_mk, TYS_mk, TYM_mk, SO_mk, NX_mk, endK_mk, endK_mk', add_0]
  have hcl4 := hcl.ext e4
  obtain ⟨xw, cw, w1, w2⟩ := hcl4.ws
  refine ⟨_, _, _, w1, ?_⟩
  have hw2 := hv.w2
  have hr8 := hv.r8
  refine L_clock_Wrong_0_rule W _ ⟨s1.size, 0, none⟩ (some ⟨p, 0, none⟩) _ (fun n w t => Ext s4 t ∧ ∃ (N k : Nat), n = N ∧ w = k ∧ k ≤ c.ws.length ∧ N < 2 ^ k ∧ ∀ j, j < 2 → (N.testBit j = true ↔ j < k ∧ CanWo c (j : Int))) (fun _ w _ => ((c.ws.length : Int) - w).toNat) 0 0 s4
    ⟨Ext.refl _, 0, 0, rfl, rfl, Nat.zero_le _, by decide, fun j hj => by simp⟩ ?_
  rintro n w t ⟨et, N, k, rfl, rfl, hk, hN, hbits⟩
  unfold B_clock_Wrong_0
  have eT := e04.trans et
  have ert : Own t ⟨s1.size, 0, none⟩ (.int .i64 0) := (e34.trans et).own er
  refine BR_dec (fun hlt => ?_) (fun hge => ?_)
  · have hkl : k < c.ws.length := by omega
    refine c_every (hcl4.ext et) ?_
    try simp only [TUP_mk, AGG_mk, HD_mk, NL_mk, TYI_mk, TYB_mk, TYP_mk, TYL_mk, TYS_mk, TYM_mk, SO_mk, NX_mk, endK_mk, endK_mk', add_0]
    have hclt := hcl4.ext et
    obtain ⟨xr, cr, r1, r2⟩ := hclt.rs
    refine ⟨_, _, _, r1, ?_⟩
    generalize hnx0 : (fun vs => N_clock_Wrong_0 _ _ (N : Int) (k : Int) t vs) = nx0
    refine L_clock_Wrong_1_rule W _ nx0 (N : Nat) ⟨s1.size, 0, none⟩ (some ⟨p, 0, none⟩) (k : Nat) _ xr _ cr _ (fun n i u => Ext t u ∧ ∃ (S j : Nat), n = S ∧ i = j ∧ j ≤ c.rs.length ∧ S < 256 ∧ ∀ q (hq : q < c.rs.length), S.testBit q = (decide (j ≤ q) || decide (c.rs[q].wa ≠ (k : Int)))) (fun _ i _ => ((c.rs.length : Int) - i).toNat) (everyN c : Nat) 0 t
      ⟨Ext.refl _, everyN c, 0, rfl, rfl, Nat.zero_le _, every_lt hv, fun q hq => by rw [every_bit hq]; simp⟩ ?_
    rintro n i u ⟨eu, S, j, rfl, rfl, hj, hS, hSb⟩
    unfold B_clock_Wrong_1
    refine BR_dec (fun hlt2 => ?_) (fun hge2 => ?_)
    · have hjl : j < c.rs.length := by omega
      obtain ⟨a, hx0, g1, g2, g3⟩ := r2.ce (CE.ext eu) j hjl
      subst hx0
      refine IXS_nat hjl ⟨_, g1, ⟨_, g2, ⟨_, g3, ?_⟩⟩⟩
      refine nw3 zc_61 rfl rfl rfl fun u1 f1 y1 q1 q2 q3 => ⟨_, q2.cell, ?_⟩
      refine BR_eq (fun he => ?_) (fun hne => ?_)
      · obtain ⟨t1, t2, t3⟩ := clr_tab S hS j (by omega)
        refine NNI_of (by omega) ?_
        rw [t1]
        unfold J_clock_Wrong_0
        try simp only [TUP_mk, AGG_mk, HD_mk, NL_mk, TYI_mk, TYB_mk, TYP_mk, TYL_mk, TYS_mk, TYM_mk, SO_mk, NX_mk, endK_mk, endK_mk', add_0]
        refine ⟨_, _, rfl, ⟨eu.trans f1, clr S j, j + 1, rfl, wrap_succ (by omega), hjl, t2, fun q hq => ?_⟩, ms_succ hjl (by omega)⟩
        rw [t3 q (by omega), hSb q hq]
        by_cases e : q = j
        · subst e
          simp [he]
        · by_cases e2 : j ≤ q
          · have : j + 1 ≤ q := by omega
            simp [e, e2, this]
          · have : ¬ j + 1 ≤ q := by omega
            simp [e, e2, this]
      · unfold J_clock_Wrong_0
        try simp only [TUP_mk, AGG_mk, HD_mk, NL_mk, TYI_mk, TYB_mk, TYP_mk, TYL_mk, TYS_mk, TYM_mk, SO_mk, NX_mk, endK_mk, endK_mk', add_0]
        refine ⟨_, _, rfl, ⟨eu.trans f1, S, j + 1, rfl, wrap_succ (by omega), hjl, hS, fun q hq => ?_⟩, ms_succ hjl (by omega)⟩
        rw [hSb q hq]
        by_cases e : q = j
        · subst e
          simp [hne]
        · by_cases e2 : j ≤ q
          · have : j + 1 ≤ q := by omega
            simp [e2, this]
          · have : ¬ j + 1 ≤ q := by omega
            simp [e2, this]
    · have hjl : j = c.rs.length := by omega
      subst hjl
      refine c_can ((hcl4.ext et).ext eu) hS fun u2 f2 => ?_
      try simp only [TUP_mk, AGG_mk, HD_mk, NL_mk, TYI_mk, TYB_mk, TYP_mk, TYL_mk, TYS_mk, TYM_mk, SO_mk, NX_mk, endK_mk, endK_mk', add_0]
      have hiff : canB c S = true ↔ CanWo c (k : Int) := by
        rw [canB_iff]
        constructor
        · intro hcc
          exact ⟨S, fun i hi => by rw [hSb i hi]; simp; omega, hcc⟩
        · rintro ⟨S', h1, h2⟩
          refine h2.congr fun i hi hb2 => ?_
          rw [hSb i hi] at hb2
          rw [h1 i hi]
          simpa [show ¬ c.rs.length ≤ i by omega] using hb2
      have eU := (et.trans eu).trans f2
      refine BR_bool (fun hbt => ?_) (fun hbf => ?_)
      · have hN4 : N < 4 := Nat.lt_of_lt_of_le hN (by have := Nat.pow_le_pow_right (show 0 < 2 by omega) (show k ≤ 2 by omega); omega)
        obtain ⟨t1, t2, t3⟩ := set_tab N hN4 k (by omega) hN
        refine NNI_of (by omega) ?_
        rw [t1]
        try simp only [TUP_mk, AGG_mk, HD_mk, NL_mk, TYI_mk, TYB_mk, TYP_mk, TYL_mk, TYS_mk, TYM_mk, SO_mk, NX_mk, endK_mk, endK_mk', add_0]
        subst hnx0
        refine ⟨_, _, rfl, ⟨eU, N + 2 ^ k, k + 1, rfl, wrap_succ (by omega), hkl, t2, fun j hj2 => ?_⟩, ms_succ hkl (by omega)⟩
        rw [t3 j hj2, Bool.or_eq_true, hbits j hj2]
        constructor
        · rintro (⟨h1, h2⟩ | h1)
          · exact ⟨by omega, h2⟩
          · have : j = k := by simpa using h1
            subst this
            exact ⟨by omega, hiff.1 hbt⟩
        · rintro ⟨h1, h2⟩
          by_cases e : j = k
          · right; simpa using e
          · left; exact ⟨by omega, h2⟩
      · try simp only [TUP_mk, AGG_mk, HD_mk, NL_mk, TYI_mk, TYB_mk, TYP_mk, TYL_mk, TYS_mk, TYM_mk, SO_mk, NX_mk, endK_mk, endK_mk', add_0]
        subst hnx0
        have hpow : 2 ^ k < 2 ^ (k + 1) := Nat.pow_lt_pow_right (by omega) (by omega)
        refine ⟨_, _, rfl, ⟨eU, N, k + 1, rfl, wrap_succ (by omega), hkl, by omega, fun j hj2 => ?_⟩, ms_succ hkl (by omega)⟩
        rw [hbits j hj2]
        constructor
        · rintro ⟨h1, h2⟩; exact ⟨by omega, h2⟩
        · rintro ⟨h1, h2⟩
          refine ⟨?_, h2⟩
          by_cases e : j = k
          · subst e
            rw [hiff.2 h2] at hbf; cases hbf
          · omega
  · have hkl : k = c.ws.length := by omega
    subst hkl
    exact done1 (n := (N : Nat)) (R := fun a b => K (.tuple #[.int .i64 a, .int .i64 b])) isv eT (by omega) ert fun s' es => h s' _ 0 es (.inr (.inr ⟨hok, hno, rfl, N, rfl, hN, fun k hk => by rw [hbits k (by omega)]; exact ⟨fun h => h.2, fun h => ⟨hk, h⟩⟩⟩))
end
end Go.Proofs.Ytknpmijgdfeliaa.G

/- Clock: the fewest readings that must be wrong. -/
set_option linter.unusedSimpArgs false
set_option linter.unusedVariables false
set_option maxRecDepth 20000
namespace Go.Proofs.Ytknpmijgdfeliaa.G
open Go.V
/-- How many bits are set, as the library counts them. -/
def ocx (n : Int) : Int := (andv .i64 (IntKind.wrap .i64 (IntKind.wrap .u64 ((IntKind.wrap .u64 ((IntKind.wrap .u64 ((andv .u64 (IntKind.wrap .u64 ((shrv .u64 (IntKind.wrap .u64 ((andv .u64 (shrv .u64 (IntKind.wrap .u64 ((andv .u64 (shrv .u64 n 1) 6148914691236517205) + (andv .u64 n 6148914691236517205))) 2) 3689348814741910323) + (andv .u64 (IntKind.wrap .u64 ((andv .u64 (shrv .u64 n 1) 6148914691236517205) + (andv .u64 n 6148914691236517205))) 3689348814741910323))) 4) + (IntKind.wrap .u64 ((andv .u64 (shrv .u64 (IntKind.wrap .u64 ((andv .u64 (shrv .u64 n 1) 6148914691236517205) + (andv .u64 n 6148914691236517205))) 2) 3689348814741910323) + (andv .u64 (IntKind.wrap .u64 ((andv .u64 (shrv .u64 n 1) 6148914691236517205) + (andv .u64 n 6148914691236517205))) 3689348814741910323))))) 1085102592571150095) + (shrv .u64 (andv .u64 (IntKind.wrap .u64 ((shrv .u64 (IntKind.wrap .u64 ((andv .u64 (shrv .u64 (IntKind.wrap .u64 ((andv .u64 (shrv .u64 n 1) 6148914691236517205) + (andv .u64 n 6148914691236517205))) 2) 3689348814741910323) + (andv .u64 (IntKind.wrap .u64 ((andv .u64 (shrv .u64 n 1) 6148914691236517205) + (andv .u64 n 6148914691236517205))) 3689348814741910323))) 4) + (IntKind.wrap .u64 ((andv .u64 (shrv .u64 (IntKind.wrap .u64 ((andv .u64 (shrv .u64 n 1) 6148914691236517205) + (andv .u64 n 6148914691236517205))) 2) 3689348814741910323) + (andv .u64 (IntKind.wrap .u64 ((andv .u64 (shrv .u64 n 1) 6148914691236517205) + (andv .u64 n 6148914691236517205))) 3689348814741910323))))) 1085102592571150095) 8))) + (shrv .u64 (IntKind.wrap .u64 ((andv .u64 (IntKind.wrap .u64 ((shrv .u64 (IntKind.wrap .u64 ((andv .u64 (shrv .u64 (IntKind.wrap .u64 ((andv .u64 (shrv .u64 n 1) 6148914691236517205) + (andv .u64 n 6148914691236517205))) 2) 3689348814741910323) + (andv .u64 (IntKind.wrap .u64 ((andv .u64 (shrv .u64 n 1) 6148914691236517205) + (andv .u64 n 6148914691236517205))) 3689348814741910323))) 4) + (IntKind.wrap .u64 ((andv .u64 (shrv .u64 (IntKind.wrap .u64 ((andv .u64 (shrv .u64 n 1) 6148914691236517205) + (andv .u64 n 6148914691236517205))) 2) 3689348814741910323) + (andv .u64 (IntKind.wrap .u64 ((andv .u64 (shrv .u64 n 1) 6148914691236517205) + (andv .u64 n 6148914691236517205))) 3689348814741910323))))) 1085102592571150095) + (shrv .u64 (andv .u64 (IntKind.wrap .u64 ((shrv .u64 (IntKind.wrap .u64 ((andv .u64 (shrv .u64 (IntKind.wrap .u64 ((andv .u64 (shrv .u64 n 1) 6148914691236517205) + (andv .u64 n 6148914691236517205))) 2) 3689348814741910323) + (andv .u64 (IntKind.wrap .u64 ((andv .u64 (shrv .u64 n 1) 6148914691236517205) + (andv .u64 n 6148914691236517205))) 3689348814741910323))) 4) + (IntKind.wrap .u64 ((andv .u64 (shrv .u64 (IntKind.wrap .u64 ((andv .u64 (shrv .u64 n 1) 6148914691236517205) + (andv .u64 n 6148914691236517205))) 2) 3689348814741910323) + (andv .u64 (IntKind.wrap .u64 ((andv .u64 (shrv .u64 n 1) 6148914691236517205) + (andv .u64 n 6148914691236517205))) 3689348814741910323))))) 1085102592571150095) 8))) 16))) + (shrv .u64 (IntKind.wrap .u64 ((IntKind.wrap .u64 ((andv .u64 (IntKind.wrap .u64 ((shrv .u64 (IntKind.wrap .u64 ((andv .u64 (shrv .u64 (IntKind.wrap .u64 ((andv .u64 (shrv .u64 n 1) 6148914691236517205) + (andv .u64 n 6148914691236517205))) 2) 3689348814741910323) + (andv .u64 (IntKind.wrap .u64 ((andv .u64 (shrv .u64 n 1) 6148914691236517205) + (andv .u64 n 6148914691236517205))) 3689348814741910323))) 4) + (IntKind.wrap .u64 ((andv .u64 (shrv .u64 (IntKind.wrap .u64 ((andv .u64 (shrv .u64 n 1) 6148914691236517205) + (andv .u64 n 6148914691236517205))) 2) 3689348814741910323) + (andv .u64 (IntKind.wrap .u64 ((andv .u64 (shrv .u64 n 1) 6148914691236517205) + (andv .u64 n 6148914691236517205))) 3689348814741910323))))) 1085102592571150095) + (shrv .u64 (andv .u64 (IntKind.wrap .u64 ((shrv .u64 (IntKind.wrap .u64 ((andv .u64 (shrv .u64 (IntKind.wrap .u64 ((andv .u64 (shrv .u64 n 1) 6148914691236517205) + (andv .u64 n 6148914691236517205))) 2) 3689348814741910323) + (andv .u64 (IntKind.wrap .u64 ((andv .u64 (shrv .u64 n 1) 6148914691236517205) + (andv .u64 n 6148914691236517205))) 3689348814741910323))) 4) + (IntKind.wrap .u64 ((andv .u64 (shrv .u64 (IntKind.wrap .u64 ((andv .u64 (shrv .u64 n 1) 6148914691236517205) + (andv .u64 n 6148914691236517205))) 2) 3689348814741910323) + (andv .u64 (IntKind.wrap .u64 ((andv .u64 (shrv .u64 n 1) 6148914691236517205) + (andv .u64 n 6148914691236517205))) 3689348814741910323))))) 1085102592571150095) 8))) + (shrv .u64 (IntKind.wrap .u64 ((andv .u64 (IntKind.wrap .u64 ((shrv .u64 (IntKind.wrap .u64 ((andv .u64 (shrv .u64 (IntKind.wrap .u64 ((andv .u64 (shrv .u64 n 1) 6148914691236517205) + (andv .u64 n 6148914691236517205))) 2) 3689348814741910323) + (andv .u64 (IntKind.wrap .u64 ((andv .u64 (shrv .u64 n 1) 6148914691236517205) + (andv .u64 n 6148914691236517205))) 3689348814741910323))) 4) + (IntKind.wrap .u64 ((andv .u64 (shrv .u64 (IntKind.wrap .u64 ((andv .u64 (shrv .u64 n 1) 6148914691236517205) + (andv .u64 n 6148914691236517205))) 2) 3689348814741910323) + (andv .u64 (IntKind.wrap .u64 ((andv .u64 (shrv .u64 n 1) 6148914691236517205) + (andv .u64 n 6148914691236517205))) 3689348814741910323))))) 1085102592571150095) + (shrv .u64 (andv .u64 (IntKind.wrap .u64 ((shrv .u64 (IntKind.wrap .u64 ((andv .u64 (shrv .u64 (IntKind.wrap .u64 ((andv .u64 (shrv .u64 n 1) 6148914691236517205) + (andv .u64 n 6148914691236517205))) 2) 3689348814741910323) + (andv .u64 (IntKind.wrap .u64 ((andv .u64 (shrv .u64 n 1) 6148914691236517205) + (andv .u64 n 6148914691236517205))) 3689348814741910323))) 4) + (IntKind.wrap .u64 ((andv .u64 (shrv .u64 (IntKind.wrap .u64 ((andv .u64 (shrv .u64 n 1) 6148914691236517205) + (andv .u64 n 6148914691236517205))) 2) 3689348814741910323) + (andv .u64 (IntKind.wrap .u64 ((andv .u64 (shrv .u64 n 1) 6148914691236517205) + (andv .u64 n 6148914691236517205))) 3689348814741910323))))) 1085102592571150095) 8))) 16))) 32)))) 127)
def popN (n : Nat) : Nat := ((List.range 10).filter fun i => n.testBit i).length
theorem ocx_pop : ∀ n : Nat, n < 1024 → ocx (n : Int) = (popN n : Nat) := by
  have h : ((List.range 1024).all fun (n : Nat) => decide (ocx (n : Int) = (popN n : Nat))) = true := by decide +kernel
  intro n hn
  simpa using List.all_eq_true.1 h n (by simpa using hn)

theorem andn_tab : ∀ n : Nat, n < 9 → ∀ s : Nat, s < 2 ^ n → andnv .u64 ((2 ^ n - 1 : Nat) : Int) (s : Int) = ((2 ^ n - 1 - s : Nat) : Int) := by
  have h : ((List.range 9).all fun (n : Nat) => (List.range (2 ^ n)).all fun (s : Nat) => decide (andnv .u64 ((2 ^ n - 1 : Nat) : Int) (s : Int) = ((2 ^ n - 1 - s : Nat) : Int))) = true := by decide +kernel
  intro n hn s hs
  have h1 := List.all_eq_true.1 h n (by simpa using hn)
  have h2 := List.all_eq_true.1 h1 s (by simpa using hs)
  exact of_decide_eq_true h2
/-- The readings that are not of a set. -/
def coN (c : Clk) (s : Nat) : Nat := everyN c - s
theorem co_bit {c : Clk} {s i : Nat} (hs : s ≤ everyN c) (hi : i < c.rs.length) : (coN c s).testBit i = !s.testBit i := by
  unfold coN everyN at *
  have hp := Nat.two_pow_pos c.rs.length
  rw [show 2 ^ c.rs.length - 1 - s = 2 ^ c.rs.length - (s + 1) by omega, Nat.testBit_two_pow_sub_succ (by omega)]
  simp [hi]
/-- A set comes ahead of another one. -/
def setLe (a b : Nat) : Prop := popN a < popN b ∨ (popN a = popN b ∧ a ≤ b)
def DropR (c : Clk) (d err : Int) : Prop :=
  (okC c = false ∧ d = 0 ∧ err = 1) ∨ (okC c = true ∧ ¬ CanC c 0 ∧ d = 0 ∧ err = 10) ∨
    (okC c = true ∧ CanC c 0 ∧ err = 0 ∧ ∃ n : Nat, d = n ∧ n ≤ everyN c ∧ CanC c (coN c n) ∧ ∀ s, s ≤ everyN c → CanC c (coN c s) → setLe n s)
theorem pop_le : ∀ n : Nat, n < 9 → ∀ s : Nat, s < 2 ^ n → popN s ≤ n := by
  have h : ((List.range 9).all fun (n : Nat) => (List.range (2 ^ n)).all fun (s : Nat) => decide (popN s ≤ n)) = true := by decide +kernel
  intro n hn s hs
  have h1 := List.all_eq_true.1 h n (by simpa using hn)
  have h2 := List.all_eq_true.1 h1 s (by simpa using hs)
  exact of_decide_eq_true h2
section
variable {W : World} {K : VK} {E : List PanicEntry → Hp → Prop} {s : Hp} {c : Clk} {x y z : Option Addr} {c1 c2 c3 : Nat}
theorem c_ones {n : Nat} (hn : n < 1024) (h : K (.int .i64 (popN n : Nat)) s) : CALL Pg W F_math_bits_OnesCount [.int .u64 (n : Int)] K E s := by
  refine does_math_bits_OnesCount W n _ s ?_
  unfold T_math_bits_OnesCount
  refine does_math_bits_OnesCount64 W n _ s ?_
  unfold T_math_bits_OnesCount64
  have := ocx_pop n hn
  unfold ocx at this
  rw [this]
  try simp only [TUP_mk, AGG_mk, HD_mk, NL_mk, TYI_mk, TYB_mk, TYP_mk, TYL_mk, TYS_mk, TYM_mk, SO_mk, NX_mk, endK_mk, endK_mk', add_0]
  exact h

theorem c_Drop (hc : ClV s c x y z) (h : ∀ s' d err, Ext s s' → DropR c d err → K (.tuple #[.int .i64 d, .int .i64 err]) s') : CALL Pg W F_clock_Drop [clkV c x y z c1 c2 c3] K E s := by
  unfold clkV
  refine does_clock_Drop W x _ c1 c.n y _ c2 z _ c3 _ s ?_
  unfold T_clock_Drop
  refine ne4 fun s1 e1 z1 o1 o2 o3 o4 => ?_
  refine nz1 zc_29 fun s2 e2 z2 er => ?_
  have e02 := e1.trans e2
  have isv : isTold 34 := .inl rfl
  refine ⟨_, _, _, (e2.own o1).cell, ⟨_, (e2.own o2).cell, ⟨_, _, _, (e2.own o3).cell, ⟨_, _, _, (e2.own o4).cell, ?_⟩⟩⟩⟩
  refine c_open (hc.ext e02) (fun t f hok => ?_) (fun t f hok his => by cases his) fun s3 p e3 _ hb' hcl => ?_
  · exact fail1 (n := 0) (R := fun a b => K (.tuple #[.int .i64 a, .int .i64 b])) isv (e02.trans f) (by omega) (f.own er) fun s' es => h s' 0 1 es (.inl ⟨hok, rfl, rfl⟩)
  try simp only [TUP_mk, AGG_mk, HD_mk, NL_mk, TYI_mk, TYB_mk, TYP_mk, TYL_mk, TYS_mk, TYM_mk, SO_mk, NX_mk, endK_mk, endK_mk', add_0]
  have hv := hcl.ok
  have hok : okC c = true := okC_iff.2 hv
  have hr8 := hv.r8
  have hev := every_lt hv
  refine c_can (S := 0) hcl (by omega) fun s4 e4 => ?_
  try simp only [TUP_mk, AGG_mk, HD_mk, NL_mk, TYI_mk, TYB_mk, TYP_mk, TYL_mk, TYS_mk, TYM_mk, SO_mk, NX_mk, endK_mk, endK_mk', add_0]
  have e34 := e3.trans e4
  have e04 := e02.trans e34
  refine c_need (fun hb => ?_) (fun hb => ?_)
  rotate_left
  · have hno : ¬ CanC c 0 := fun hcan => by rw [canB_iff.2 hcan] at hb; cases hb
    exact fail1 (n := 0) (R := fun a b => K (.tuple #[.int .i64 a, .int .i64 b])) isv e04 (by omega) (e34.own er) fun s' es => h s' 0 10 es (.inr (.inl ⟨hok, hno, rfl, rfl⟩))
  have hcan0 : CanC c 0 := canB_iff.1 hb
  try simp only [TUP_mk, AGG_mk, HD_mk, NL_mk, TYI_mk, TYB_mk, TYP_mk, TYL_mk, TYS_mk, TYM_mk, SO_mk, NX_mk, endK_mk, endK_mk', add_0]
  have hcl4 := hcl.ext e4
  obtain ⟨xr, cr, r1, r2⟩ := hcl4.rs
  refine ⟨_, _, _, r1, ?_⟩
  dsimp only
  rw [wrap_succ (by omega)]
  have h2p : everyN c + 1 = 2 ^ c.rs.length := by unfold everyN; have := Nat.two_pow_pos c.rs.length; omega
  refine L_clock_Drop_0_rule W _ ⟨s1.size, 0, none⟩ (some ⟨p, 0, none⟩) _ (fun n w t => n = 0 ∧ Ext s4 t ∧ ∃ (k : Nat), w = k ∧ k ≤ c.rs.length + 1 ∧ ∀ s, s ≤ everyN c → popN s < k → ¬ CanC c (coN c s)) (fun _ w _ => (((c.rs.length + 1 : Nat) : Int) - w).toNat) 0 0 s4
    ⟨rfl, Ext.refl _, 0, rfl, Nat.zero_le _, fun s _ h => by omega⟩ ?_
  rintro n w t ⟨rfl, et, k, rfl, hk, hnone⟩
  unfold B_clock_Drop_0
  refine BR_dec (fun hlt => ?_) (fun hge => ?_)
  · have hkl : k < c.rs.length + 1 := by omega
    refine c_every (hcl4.ext et) ?_
    try simp only [TUP_mk, AGG_mk, HD_mk, NL_mk, TYI_mk, TYB_mk, TYP_mk, TYL_mk, TYS_mk, TYM_mk, SO_mk, NX_mk, endK_mk, endK_mk', add_0]
    have hw : IntKind.u64.wrap ((everyN c : Nat) + 1 : Int) = ((everyN c + 1 : Nat) : Int) := by rw [wrap_u64 (by omega) (by omega)]; rfl
    rw [hw]
    generalize hnx0 : (fun vs => N_clock_Drop_0 _ _ 0 (k : Int) t vs) = nx0
    refine L_clock_Drop_1_rule W _ nx0 ⟨s1.size, 0, none⟩ (some ⟨p, 0, none⟩) (k : Nat) _ _ (fun n i u => n = 0 ∧ Ext t u ∧ ∃ (j : Nat), i = j ∧ j ≤ everyN c + 1 ∧ ∀ s, s < j → popN s = k → ¬ CanC c (coN c s)) (fun _ i _ => (((everyN c + 1 : Nat) : Int) - i).toNat) 0 0 t
      ⟨rfl, Ext.refl _, 0, rfl, Nat.zero_le _, fun s h => by omega⟩ ?_
    rintro n i u ⟨rfl, eu, j, rfl, hj, hnj⟩
    unfold B_clock_Drop_1
    refine BR_dec (fun hlt2 => ?_) (fun hge2 => ?_)
    · have hjl : j ≤ everyN c := by omega
      refine c_ones (by omega) ?_
      try simp only [TUP_mk, AGG_mk, HD_mk, NL_mk, TYI_mk, TYB_mk, TYP_mk, TYL_mk, TYS_mk, TYM_mk, SO_mk, NX_mk, endK_mk, endK_mk', add_0]
      have hnx : ∀ u2, Ext u u2 → (popN j = k → ¬ CanC c (coN c j)) → J_clock_Drop_0 W (endK K E) false ⟨s1.size, 0, none⟩ (j : Nat) (some ⟨p, 0, none⟩) (k : Nat) (((c.rs.length + 1 : Nat) : Int)) (((everyN c + 1 : Nat) : Int)) (fun vs => N_clock_Drop_1 (fun n i u => n = 0 ∧ Ext t u ∧ ∃ (j : Nat), i = j ∧ j ≤ everyN c + 1 ∧ ∀ s, s < j → popN s = k → ¬ CanC c (coN c s)) (fun _ i _ => (((everyN c + 1 : Nat) : Int) - i).toNat) 0 (j : Nat) u vs) 0 u2 := by
        intro u2 f2 hn
        unfold J_clock_Drop_0
        rw [BR_f]
        try simp only [TUP_mk, AGG_mk, HD_mk, NL_mk, TYI_mk, TYB_mk, TYP_mk, TYL_mk, TYS_mk, TYM_mk, SO_mk, NX_mk, endK_mk, endK_mk', add_0]
        have hw2 : IntKind.u64.wrap ((j : Nat) + 1 : Int) = ((j + 1 : Nat) : Int) := by rw [wrap_u64 (by omega) (by omega)]; rfl
        refine ⟨_, _, rfl, ⟨rfl, eu.trans f2, j + 1, hw2, by omega, fun s hs hp => ?_⟩, ?_⟩
        · by_cases e : s = j
          · subst e; exact hn hp
          · exact hnj s (by omega) hp
        · rw [hw2]
          show (((everyN c + 1 : Nat) : Int) - ((j + 1 : Nat) : Int)).toNat < (((everyN c + 1 : Nat) : Int) - (j : Int)).toNat
          omega
      refine BR_eq (fun he => ?_) (fun hne => ?_)
      · have he' : popN j = k := by omega
        have hclu := (hcl4.ext et).ext eu
        refine c_every hclu ?_
        try simp only [TUP_mk, AGG_mk, HD_mk, NL_mk, TYI_mk, TYB_mk, TYP_mk, TYL_mk, TYS_mk, TYM_mk, SO_mk, NX_mk, endK_mk, endK_mk', add_0]
        have hand : andnv .u64 ((everyN c : Nat) : Int) (j : Int) = ((coN c j : Nat) : Int) := andn_tab _ (by omega) j (by omega)
        rw [hand]
        refine c_can hclu (by unfold coN; omega) fun u2 f2 => ?_
        try simp only [TUP_mk, AGG_mk, HD_mk, NL_mk, TYI_mk, TYB_mk, TYP_mk, TYL_mk, TYS_mk, TYM_mk, SO_mk, NX_mk, endK_mk, endK_mk', add_0]
        cases hcb : canB c (coN c j) with
        | false => exact hnx u2 f2 fun _ hcan => by rw [canB_iff.2 hcan] at hcb; cases hcb
        | true =>
          unfold J_clock_Drop_0
          rw [BR_t]
          have hwj : IntKind.i64.wrap (j : Int) = (j : Int) := wrap_i64 (by omega) (by omega)
          rw [hwj]
          have eU := ((et.trans eu).trans f2)
          refine done1 (n := (j : Nat)) (R := fun a b => K (.tuple #[.int .i64 a, .int .i64 b])) isv (e04.trans eU) (by omega) ((e34.trans eU).own er) fun s' es => h s' _ 0 es (.inr (.inr ⟨hok, hcan0, rfl, j, rfl, hjl, canB_iff.1 hcb, fun q hq hqc => ?_⟩))
          unfold setLe
          rw [he']
          rcases Nat.lt_trichotomy (popN q) k with h1 | h1 | h1
          · exact absurd hqc (hnone q hq h1)
          · rcases Nat.lt_or_ge q j with h2 | h2
            · exact absurd hqc (hnj q h2 h1)
            · exact .inr ⟨h1.symm, h2⟩
          · exact .inl h1
      · exact hnx u (Ext.refl _) fun hp => absurd (by rw [hp]) hne
    · have hjl : j = everyN c + 1 := by omega
      subst hjl
      try simp only [TUP_mk, AGG_mk, HD_mk, NL_mk, TYI_mk, TYB_mk, TYP_mk, TYL_mk, TYS_mk, TYM_mk, SO_mk, NX_mk, endK_mk, endK_mk', add_0]
      subst hnx0
      refine ⟨_, _, rfl, ⟨rfl, et.trans eu, k + 1, wrap_succ (by omega), hkl, fun q hq hp => ?_⟩, ms_succ hkl (by omega)⟩
      by_cases e : popN q = k
      · exact hnj q (by omega) e
      · exact hnone q hq (by omega)
  · have hkl : k = c.rs.length + 1 := by omega
    subst hkl
    exfalso
    refine hnone (everyN c) (Nat.le_refl _) ?_ (by unfold coN; rw [Nat.sub_self]; exact hcan0)
    have := pop_le c.rs.length (by omega) (everyN c) (by omega)
    omega
end
end Go.Proofs.Ytknpmijgdfeliaa.G

/- Clock: plain: the document's examples. -/
set_option linter.unusedSimpArgs false
set_option linter.unusedVariables false
set_option maxRecDepth 20000
namespace Go.Proofs.Ytknpmijgdfeliaa.G
open Go.V
def CL (last : Int) : Clk := ⟨[⟨0, 0, 1000, 1000⟩, ⟨5, 6, 998, 1002⟩], 3, [⟨0, 0, 10⟩, ⟨1, 1, 66⟩, ⟨2, 0, 130⟩, ⟨2, 1, last⟩], [⟨0, 1, 40, 60⟩, ⟨1, 2, 60, 70⟩]⟩
theorem cl_ok : okC (CL 136) = true ∧ okC (CL 140) = true := by decide
theorem cl_goes {l : Int} {g : List Go'} (h : GoesOk (CL l).ws g) : ∃ z r, g = [(0, 1000), (z, r)] ∧ (z = 5 ∨ z = 6) ∧ (r = 998 ∨ r = 999 ∨ r = 1000 ∨ r = 1001 ∨ r = 1002) := by
  cases h with
  | cons h t =>
    rename_i g0 gs
    cases t with
    | cons h2 t2 =>
      rename_i g1 gs2
      cases t2
      obtain ⟨a, b⟩ := g0
      obtain ⟨z, r⟩ := g1
      obtain ⟨x1, x2, x3, x4⟩ := h
      obtain ⟨y1, y2, y3, y4⟩ := h2
      simp only at x1 x2 x3 x4 y1 y2 y3 y4
      have e1 : a = 0 := by omega
      have e2 : b = 1000 := by omega
      subst e1; subst e2
      exact ⟨z, r, rfl, by omega, by omega⟩
theorem cl_mk {l z r : Int} (hz : z = 5 ∨ z = 6) (hr : 998 ≤ r ∧ r ≤ 1002) : GoesOk (CL l).ws [(0, 1000), (z, r)] :=
  .cons ⟨by decide, by decide, by decide, by decide⟩ (.cons ⟨by show 5 ≤ z; omega, by show z ≤ 6; omega, hr.1, hr.2⟩ .nil)
theorem cl_truth {l : Int} {S : Nat} {g : List Go'} {m : Int → Int} (h : Truth (CL l) S g m) : ∃ z r, g = [(0, 1000), (z, r)] ∧ (z = 5 ∨ z = 6) ∧ (r = 998 ∨ r = 999 ∨ r = 1000 ∨ r = 1001 ∨ r = 1002) ∧
    (0 ≤ m 0 ∧ m 0 ≤ 600) ∧ (0 ≤ m 1 ∧ m 1 ≤ 600) ∧ (0 ≤ m 2 ∧ m 2 ≤ 600) ∧ (S.testBit 0 = true → m 0 = 10) ∧ (S.testBit 1 = true → z + m 1 * r / 1000 = 66) ∧ (S.testBit 2 = true → m 2 = 130) ∧ (S.testBit 3 = true → z + m 2 * r / 1000 = l) ∧
    (40 ≤ m 1 - m 0 ∧ m 1 - m 0 ≤ 60) ∧ (60 ≤ m 2 - m 1 ∧ m 2 - m 1 ≤ 70) := by
  obtain ⟨z, r, rfl, hz, hr⟩ := cl_goes h.goes
  refine ⟨z, r, rfl, hz, hr, h.days 0 (by decide) (show (0 : Int) < 3 by decide), h.days 1 (by decide) (show (1 : Int) < 3 by decide), h.days 2 (by decide) (show (2 : Int) < 3 by decide), fun hb => ?_, fun hb => h.shows 1 (show 1 < 4 by decide) hb, fun hb => ?_, fun hb => h.shows 3 (show 3 < 4 by decide) hb, h.links ⟨0, 1, 40, 60⟩ (by simp [CL]), h.links ⟨1, 2, 60, 70⟩ (by simp [CL])⟩
  · have : 0 + m 0 * 1000 / 1000 = 10 := h.shows 0 (show 0 < 4 by decide) hb
    omega
  · have : 0 + m 2 * 1000 / 1000 = 130 := h.shows 2 (show 2 < 4 by decide) hb
    omega
def mm (a b c : Int) : Int → Int := fun e => if e = 0 then a else if e = 1 then b else if e = 2 then c else 0
theorem cl_made {l z r a b c : Int} {S : Nat} (hz : z = 5 ∨ z = 6) (hr : 998 ≤ r ∧ r ≤ 1002) (ha : 0 ≤ a ∧ a ≤ 600) (hb : 0 ≤ b ∧ b ≤ 600) (hc : 0 ≤ c ∧ c ≤ 600) (s0 : S.testBit 0 = true → a = 10) (s1 : S.testBit 1 = true → z + b * r / 1000 = 66) (s2 : S.testBit 2 = true → c = 130) (s3 : S.testBit 3 = true → z + c * r / 1000 = l)
    (l1 : 40 ≤ b - a ∧ b - a ≤ 60) (l2 : 60 ≤ c - b ∧ c - b ≤ 70) : Truth (CL l) S [(0, 1000), (z, r)] (mm a b c) where
  goes := cl_mk hz hr
  days := fun e h0 h1 => by
    have h1' : e < 3 := h1
    have : e = 0 ∨ e = 1 ∨ e = 2 := by omega
    rcases this with rfl | rfl | rfl
    · exact ha
    · exact hb
    · exact hc
  shows := fun i hi hs => by
    have hi' : i < 4 := hi
    have : i = 0 ∨ i = 1 ∨ i = 2 ∨ i = 3 := by omega
    rcases this with rfl | rfl | rfl | rfl
    · show 0 + a * 1000 / 1000 = 10
      have := s0 hs; omega
    · exact s1 hs
    · show 0 + c * 1000 / 1000 = 130
      have := s2 hs; omega
    · exact s3 hs
  links := fun q hq => by
    simp [CL] at hq
    rcases hq with rfl | rfl
    · exact l1
    · exact l2
theorem ev_15 (l : Int) : everyN (CL l) = 15 := rfl
/-- What is true of the first example. -/
theorem cl_136 {g : List Go'} {m : Int → Int} (h : Truth (CL 136) 15 g m) : m 0 = 10 ∧ m 1 = 60 ∧ m 2 = 130 ∧ ∃ r, 1000 ≤ r ∧ r ≤ 1002 ∧ g = [(0, 1000), (6, r)] := by
  obtain ⟨z, r, rfl, hz, hr, d0, d1, d2, s0, s1, s2, s3, l1, l2⟩ := cl_truth h
  have t0 := s0 (by decide)
  have t1 := s1 (by decide)
  have t2 := s2 (by decide)
  have t3 := s3 (by decide)
  rw [t2] at t3
  rcases hz with rfl | rfl <;> rcases hr with rfl | rfl | rfl | rfl | rfl <;> first | omega | exact ⟨t0, by omega, t2, _, by decide, by decide, rfl⟩
theorem cl_136' {r : Int} (hr : r = 1000 ∨ r = 1001 ∨ r = 1002) : Truth (CL 136) 15 [(0, 1000), (6, r)] (mm 10 60 130) := by
  rcases hr with rfl | rfl | rfl <;> exact cl_made (.inr rfl) (by decide) (by decide) (by decide) (by decide) (fun _ => rfl) (fun _ => by decide) (fun _ => rfl) (fun _ => by decide) (by decide) (by decide)
theorem cl_can : CanC (CL 136) 15 := ⟨_, _, cl_136' (.inl rfl)⟩
theorem cl_140 {S : Nat} (h1 : S.testBit 3 = true) (h2 : S.testBit 2 = true ∨ S.testBit 1 = true) : ¬ CanC (CL 140) S := by
  rintro ⟨g, m, h⟩
  obtain ⟨z, r, rfl, hz, hr, d0, d1, d2, s0, s1, s2, s3, l1, l2⟩ := cl_truth h
  have t3 := s3 h1
  rcases h2 with h2 | h2
  · have t2 := s2 h2
    rw [t2] at t3
    rcases hz with rfl | rfl <;> rcases hr with rfl | rfl | rfl | rfl | rfl <;> omega
  · have t1 := s1 h2
    rcases hz with rfl | rfl <;> rcases hr with rfl | rfl | rfl | rfl | rfl <;> omega
theorem cl_drop7 : CanC (CL 140) 7 := ⟨_, _, cl_made (l := 140) (S := 7) (z := 5) (r := 1000) (a := 10) (b := 61) (c := 130) (.inl rfl) (by decide) (by decide) (by decide) (by decide) (fun _ => rfl) (fun _ => by decide) (fun _ => rfl) (fun h => by revert h; decide) (by decide) (by decide)⟩
theorem cl_wo5 : CanC (CL 140) 5 := ⟨_, _, cl_made (l := 140) (S := 5) (z := 5) (r := 1000) (a := 10) (b := 65) (c := 130) (.inl rfl) (by decide) (by decide) (by decide) (by decide) (fun _ => rfl) (fun h => by revert h; decide) (fun _ => rfl) (fun h => by revert h; decide) (by decide) (by decide)⟩
theorem span_one {c : Clk} {S : Nat} {val : List Go' → (Int → Int) → Int} {lo hi v : Int} (h : SpanC c S val lo hi) (hv : ∀ g m, Truth c S g m → val g m = v) : lo = v ∧ hi = v := by
  obtain ⟨⟨g1, m1, t1, v1⟩, ⟨g2, m2, t2, v2⟩, _⟩ := h
  exact ⟨by rw [← v1]; exact hv _ _ t1, by rw [← v2]; exact hv _ _ t2⟩
theorem qr_good {c : Clk} {is : Bool} {val : List Go' → (Int → Int) → Int} {lo hi err : Int} (h : QR c is val lo hi err) (ho : okC c = true) (hi' : is = true) (hc : CanC c (everyN c)) : SpanC c (everyN c) val lo hi ∧ err = 0 := by
  rcases h with ⟨h1, _⟩ | ⟨_, h1, _⟩ | ⟨_, _, h1, _⟩ | ⟨_, _, _, h1, h2⟩
  · rw [ho] at h1; cases h1
  · rw [hi'] at h1; cases h1
  · exact absurd hc h1
  · exact ⟨h1, h2⟩
theorem at_0 (m : Int → Int) : atM m 0 = m 0 := rfl
theorem at_1 (m : Int → Int) : atM m 1 = m 1 := rfl
theorem at_2 (m : Int → Int) : atM m 2 = m 2 := rfl
theorem at_g (m : Int → Int) : atM m (-1) = 0 := rfl
theorem cl_when1 {lo hi err : Int} (h : QR (CL 136) (decide ((0 : Int) ≤ 1 ∧ (1 : Int) < (CL 136).n)) (laterV (-1) 1) lo hi err) : lo = 60 ∧ hi = 60 ∧ err = 0 := by
  obtain ⟨h1, h2⟩ := qr_good h cl_ok.1 rfl cl_can
  obtain ⟨h3, h4⟩ := span_one (v := 60) h1 fun g m t => by have := cl_136 t; show atM m 1 - atM m (-1) = 60; rw [at_1, at_g]; omega
  exact ⟨h3, h4, h2⟩
theorem cl_when2 {lo hi err : Int} (h : QR (CL 136) (decide ((0 : Int) ≤ 2 ∧ (2 : Int) < (CL 136).n)) (laterV (-1) 2) lo hi err) : lo = 130 ∧ hi = 130 ∧ err = 0 := by
  obtain ⟨h1, h2⟩ := qr_good h cl_ok.1 rfl cl_can
  obtain ⟨h3, h4⟩ := span_one (v := 130) h1 fun g m t => by have := cl_136 t; show atM m 2 - atM m (-1) = 130; rw [at_2, at_g]; omega
  exact ⟨h3, h4, h2⟩
theorem cl_lasted21 {lo hi err : Int} (h : QR (CL 136) (decide ((0 : Int) ≤ 2 ∧ (2 : Int) < (CL 136).n) && decide ((0 : Int) ≤ 1 ∧ (1 : Int) < (CL 136).n)) (laterV 2 1) lo hi err) : lo = -70 ∧ hi = -70 ∧ err = 0 := by
  obtain ⟨h1, h2⟩ := qr_good h cl_ok.1 rfl cl_can
  obtain ⟨h3, h4⟩ := span_one (v := -70) h1 fun g m t => by have := cl_136 t; show atM m 1 - atM m 2 = -70; rw [at_1, at_2]; omega
  exact ⟨h3, h4, h2⟩
theorem cl_lasted01 {lo hi err : Int} (h : QR (CL 136) (decide ((0 : Int) ≤ 0 ∧ (0 : Int) < (CL 136).n) && decide ((0 : Int) ≤ 1 ∧ (1 : Int) < (CL 136).n)) (laterV 0 1) lo hi err) : lo = 50 ∧ hi = 50 ∧ err = 0 := by
  obtain ⟨h1, h2⟩ := qr_good h cl_ok.1 rfl cl_can
  obtain ⟨h3, h4⟩ := span_one (v := 50) h1 fun g m t => by have := cl_136 t; show atM m 1 - atM m 0 = 50; rw [at_1, at_0]; omega
  exact ⟨h3, h4, h2⟩
theorem cl_lasted10 {lo hi err : Int} (h : QR (CL 136) (decide ((0 : Int) ≤ 1 ∧ (1 : Int) < (CL 136).n) && decide ((0 : Int) ≤ 0 ∧ (0 : Int) < (CL 136).n)) (laterV 1 0) lo hi err) : lo = -50 ∧ hi = -50 ∧ err = 0 := by
  obtain ⟨h1, h2⟩ := qr_good h cl_ok.1 rfl cl_can
  obtain ⟨h3, h4⟩ := span_one (v := -50) h1 fun g m t => by have := cl_136 t; show atM m 0 - atM m 1 = -50; rw [at_1, at_0]; omega
  exact ⟨h3, h4, h2⟩
theorem cl_shows {lo hi err : Int} (h : QR (CL 136) (decide ((0 : Int) ≤ 1 ∧ (1 : Int) < (CL 136).ws.length) && decide ((0 : Int) ≤ 0 ∧ (0 : Int) < (CL 136).n)) (showV 1 0) lo hi err) : lo = 16 ∧ hi = 16 ∧ err = 0 := by
  obtain ⟨h1, h2⟩ := qr_good h cl_ok.1 rfl cl_can
  obtain ⟨h3, h4⟩ := span_one (v := 16) h1 fun g m t => by
    obtain ⟨m0, _, _, r, r1, r2, rfl⟩ := cl_136 t
    show 6 + atM m 0 * r / 1000 = 16
    rw [at_0, m0]; omega
  exact ⟨h3, h4, h2⟩
theorem cl_zero {lo hi err : Int} (h : QR (CL 136) (decide ((0 : Int) ≤ 1 ∧ (1 : Int) < (CL 136).ws.length)) (zeroV 1) lo hi err) : lo = 6 ∧ hi = 6 ∧ err = 0 := by
  obtain ⟨h1, h2⟩ := qr_good h cl_ok.1 rfl cl_can
  obtain ⟨h3, h4⟩ := span_one (v := 6) h1 fun g m t => by
    obtain ⟨_, _, _, r, r1, r2, rfl⟩ := cl_136 t
    rfl
  exact ⟨h3, h4, h2⟩
theorem cl_rate {lo hi err : Int} (h : QR (CL 136) (decide ((0 : Int) ≤ 1 ∧ (1 : Int) < (CL 136).ws.length)) (rateV 1) lo hi err) : lo = 1000 ∧ hi = 1002 ∧ err = 0 := by
  obtain ⟨⟨⟨g1, m1, t1, v1⟩, ⟨g2, m2, t2, v2⟩, hall⟩, h2⟩ := qr_good h cl_ok.1 rfl cl_can
  obtain ⟨_, _, _, r, r1, r2, rfl⟩ := cl_136 t1
  obtain ⟨_, _, _, r', r1', r2', rfl⟩ := cl_136 t2
  have a1 : lo ≤ 1000 := (hall _ _ (cl_136' (.inl rfl))).1
  have a2 : 1002 ≤ hi := (hall _ _ (cl_136' (.inr (.inr rfl)))).2
  have b1 : r = lo := v1
  have b2 : r' = hi := v2
  exact ⟨by omega, by omega, h2⟩
theorem cl_first {lo hi err : Int} (h : QR (CL 136) (decide ((0 : Int) ≤ 0 ∧ (0 : Int) < (CL 136).n) && decide ((0 : Int) ≤ 1 ∧ (1 : Int) < (CL 136).n)) (laterV 0 1) lo hi err) : firstN lo hi err = 2 ∧ err = 0 := by
  obtain ⟨rfl, rfl, rfl⟩ := cl_lasted01 h
  exact ⟨by decide, rfl⟩
theorem cl_first' {lo hi err : Int} (h : QR (CL 136) (decide ((0 : Int) ≤ 1 ∧ (1 : Int) < (CL 136).n) && decide ((0 : Int) ≤ 0 ∧ (0 : Int) < (CL 136).n)) (laterV 1 0) lo hi err) : firstN lo hi err = 0 ∧ err = 0 := by
  obtain ⟨rfl, rfl, rfl⟩ := cl_lasted10 h
  exact ⟨by decide, rfl⟩
theorem cl_clash {lo hi err : Int} (h : QR (CL 140) (decide ((0 : Int) ≤ 0 ∧ (0 : Int) < (CL 140).n)) (laterV (-1) 0) lo hi err) : err = 10 := by
  rcases h with ⟨h1, _⟩ | ⟨_, h1, _⟩ | ⟨_, _, _, _, _, h1⟩ | ⟨_, _, h1, _⟩
  · rw [cl_ok.2] at h1; cases h1
  · cases h1
  · exact h1
  · exact absurd h1 (cl_140 (by decide) (.inl (by decide)))
theorem cl_wrong {w err : Int} (h : WrongR (CL 140) w err) : w = 2 ∧ err = 0 := by
  rcases h with ⟨h1, _⟩ | ⟨_, h1, _⟩ | ⟨_, _, h1, n, rfl, hn, hb⟩
  · rw [cl_ok.2] at h1; cases h1
  · exact absurd h1 (cl_140 (by decide) (.inl (by decide)))
  · refine ⟨?_, h1⟩
    have hn4 : n < 4 := hn
    have b0 : ¬ n.testBit 0 = true := fun h => by
      obtain ⟨S, hs, hc⟩ := (hb 0 (show 0 < 2 by decide)).1 h
      exact cl_140 (hs 3 (show 3 < 4 by decide)) (.inr (hs 1 (show 1 < 4 by decide))) hc
    have b1 : n.testBit 1 = true := (hb 1 (show 1 < 2 by decide)).2 ⟨5, fun i hi => by
      have hi' : i < 4 := hi
      have : i = 0 ∨ i = 1 ∨ i = 2 ∨ i = 3 := by omega
      rcases this with rfl | rfl | rfl | rfl <;> rfl, cl_wo5⟩
    have : n = 0 ∨ n = 1 ∨ n = 2 ∨ n = 3 := by omega
    rcases this with rfl | rfl | rfl | rfl
    · revert b1; decide
    · revert b1; decide
    · rfl
    · revert b0; decide
theorem cl_wrong' {w err : Int} (h : WrongR (CL 136) w err) : err = 4 := by
  rcases h with ⟨h1, _⟩ | ⟨_, _, _, h1⟩ | ⟨_, h1, _⟩
  · rw [cl_ok.1] at h1; cases h1
  · exact h1
  · exact absurd cl_can h1
theorem cl_drop {d err : Int} (h : DropR (CL 140) d err) : d = 8 ∧ err = 0 := by
  rcases h with ⟨h1, _⟩ | ⟨_, h1, _⟩ | ⟨_, _, h1, n, rfl, hn, hc, hmin⟩
  · rw [cl_ok.2] at h1; cases h1
  · exact absurd (cl_drop7.congr fun i _ hb => by simp at hb) h1
  · refine ⟨?_, h1⟩
    have hle := hmin 8 (by decide) cl_drop7
    have hn15 : n ≤ 15 := hn
    have hcases : ∀ k : Nat, k ≤ 15 → setLe k 8 → k = 0 ∨ k = 1 ∨ k = 2 ∨ k = 4 ∨ k = 8 := by
      intro k hk
      have h0 : ((List.range 16).all fun (k : Nat) => !(decide (popN k < popN 8 ∨ (popN k = popN 8 ∧ k ≤ 8))) || decide (k = 0 ∨ k = 1 ∨ k = 2 ∨ k = 4 ∨ k = 8)) = true := by decide +kernel
      have h1 := List.all_eq_true.1 h0 k (by simp; omega)
      intro hs
      unfold setLe at hs
      rw [decide_eq_true hs] at h1
      simpa using h1
    rcases hcases n hn15 hle with rfl | rfl | rfl | rfl | rfl
    · exact absurd hc (cl_140 (by decide) (.inl (by decide)))
    · exact absurd hc (cl_140 (by decide) (.inl (by decide)))
    · exact absurd hc (cl_140 (by decide) (.inl (by decide)))
    · exact absurd hc (cl_140 (by decide) (.inr (by decide)))
    · rfl
theorem cl_drop' {d err : Int} (h : DropR (CL 136) d err) : d = 0 ∧ err = 0 := by
  rcases h with ⟨h1, _⟩ | ⟨_, h1, _⟩ | ⟨_, _, h1, n, rfl, hn, hc, hmin⟩
  · rw [cl_ok.1] at h1; cases h1
  · exact absurd (cl_can.congr fun i _ hb => by simp at hb) h1
  · refine ⟨?_, h1⟩
    have hle := hmin 0 (by decide) cl_can
    rcases hle with hle | hle
    · have : popN 0 = 0 := by decide
      omega
    · have := hle.2
      have : n = 0 := by omega
      rw [this]; rfl
end Go.Proofs.Ytknpmijgdfeliaa.G

/- More of the functions' shallow texts, by gen.py. -/
set_option linter.unusedVariables false
set_option maxRecDepth 100000
namespace Go.Proofs.Ytknpmijgdfeliaa.G
open Go.V
def an_13 : Nat → Ann := fun b => match b with
 | 0 => { ms := [2, 3], ks := [.b, .i .i64], us := [1, 142], rt := false, ex := [] }
 | 2 => { ms := [2, 6], ks := [.b, .i .i64], us := [1, 142], rt := false, ex := [] }
 | 4 => { ms := [2, 8], ks := [.b, .i .i64], us := [1, 142], rt := false, ex := [] }
 | _ => {}
abbrev rv_13 : List ResultVar := [.tmp 2]
abbrev rs_13 : List Nat := [142, 2]
def L_ref07_Clock_0 (W : World) (R : Ending → Hp → Prop) (za0 : Addr) (b28 : Bool) (n29 : Int) : Hp → Prop :=
 LOOPN [.b, .i .i64] (fun ys next s => ∀ j : Tm, vc Pg W 142 rs_13 an_13 false (sub (bodyOf Try.f13) [1, 1, 0, 1, 0, 0]) 0 (KLoop [2, 3] [1, 142] [(.pointer (some za0)), (.tuple #[])] next (KBlk 0 (KS Pg W 142 rs_13 an_13 false (sub (bodyOf Try.f13) [1, 1, 1]) 0 (fin Pg W 142 rv_13 R)))) (known [2, 3] ys (known [1, 142] [(.pointer (some za0)), (.tuple #[])] j)) s) [(.bool b28), (.int .i64 n29)]
def L_ref07_Clock_1 (W : World) (R : Ending → Hp → Prop) (za0 : Addr) (b123 : Bool) (n124 : Int) : Hp → Prop :=
 LOOPN [.b, .i .i64] (fun ys next s => ∀ j : Tm, vc Pg W 142 rs_13 an_13 false (sub (bodyOf Try.f13) [1, 1, 1, 0, 1, 0, 0]) 2 (KLoop [2, 6] [1, 142] [(.pointer (some za0)), (.tuple #[])] next (KBlk 2 (KS Pg W 142 rs_13 an_13 false (sub (bodyOf Try.f13) [1, 1, 1, 1]) 0 (fin Pg W 142 rv_13 R)))) (known [2, 6] ys (known [1, 142] [(.pointer (some za0)), (.tuple #[])] j)) s) [(.bool b123), (.int .i64 n124)]
def L_ref07_Clock_2 (W : World) (R : Ending → Hp → Prop) (za0 : Addr) (b169 : Bool) (n170 : Int) : Hp → Prop :=
 LOOPN [.b, .i .i64] (fun ys next s => ∀ j : Tm, vc Pg W 142 rs_13 an_13 false (sub (bodyOf Try.f13) [1, 1, 1, 1, 0, 1, 0, 0]) 4 (KLoop [2, 8] [1, 142] [(.pointer (some za0)), (.tuple #[])] next (KBlk 4 (KS Pg W 142 rs_13 an_13 false (sub (bodyOf Try.f13) [1, 1, 1, 1, 1]) 0 (fin Pg W 142 rv_13 R)))) (known [2, 8] ys (known [1, 142] [(.pointer (some za0)), (.tuple #[])] j)) s) [(.bool b169), (.int .i64 n170)]
def J_ref07_Clock_0 (W : World) (R : Ending → Hp → Prop) (b17 : Bool) (B11 : Nat) : Hp → Prop :=
 BR b17
 (R (.returned (.bool false)))
 (L_ref07_Clock_0 W R ⟨B11, 0, none⟩ false 0)
def J_ref07_Clock_1 (W : World) (R : Ending → Hp → Prop) (b16 : Bool) (B11 : Nat) : Hp → Prop :=
 BR b16
 (J_ref07_Clock_0 W R true B11)
 (RDL (Addr.add ⟨B11, 0, none⟩ 3) fun x18 l19 c20 =>
 J_ref07_Clock_0 W R (decide ((↑l19 : Int) > 5)) B11)
def J_ref07_Clock_2 (W : World) (R : Ending → Hp → Prop) (b15 : Bool) (B11 : Nat) : Hp → Prop :=
 BR b15
 (J_ref07_Clock_1 W R true B11)
 (RDL (Addr.add ⟨B11, 0, none⟩ 2) fun x21 l22 c23 =>
 J_ref07_Clock_1 W R (decide ((↑l22 : Int) > 8)) B11)
def J_ref07_Clock_3 (W : World) (R : Ending → Hp → Prop) (b81 : Bool) (p73 : Option Addr) (za0 : Addr) (nx0 : List Value → Hp → Prop) (b28 : Bool) (n29 : Int) : Hp → Prop :=
 BR b81
 (R (.returned (.bool false)))
 (SO p73 fun a82 =>
 RDI .i64 (Addr.add a82 1) fun n83 =>
 SO p73 fun a84 =>
 RDI .i64 (Addr.add a84 0) fun n85 =>
 BR (decide ((IntKind.wrap .i64 (n83 - n85)) > 4))
 (R (.returned (.bool false)))
 (NX [(.pointer (some za0)), (.tuple #[])] [(.pointer (some za0)), (.tuple #[])] (nx0 [(.bool b28), (.int .i64 (IntKind.wrap .i64 (n29 + 1)))])))
def J_ref07_Clock_4 (W : World) (R : Ending → Hp → Prop) (b80 : Bool) (p73 : Option Addr) (za0 : Addr) (nx0 : List Value → Hp → Prop) (b28 : Bool) (n29 : Int) : Hp → Prop :=
 BR b80
 (J_ref07_Clock_3 W R true p73 za0 nx0 b28 n29)
 (SO p73 fun a86 =>
 RDI .i64 (Addr.add a86 0) fun n87 =>
 RDI .i64 (Addr.add a86 1) fun n88 =>
 CALL Pg W F_ref07_span [(.agg #[(.int .i64 n87), (.int .i64 n88)]), (.int .i64 900), (.int .i64 1100)]
 (fun v89 => TYB v89 fun b91 =>
 J_ref07_Clock_3 W R (!b91) p73 za0 nx0 b28 n29)
 (fun e90 => R (.panicked e90)))
def J_ref07_Clock_5 (W : World) (R : Ending → Hp → Prop) (p72 : Option Addr) (p73 : Option Addr) (za0 : Addr) (nx0 : List Value → Hp → Prop) (b28 : Bool) (n29 : Int) : Hp → Prop :=
 SO p72 fun a74 =>
 RDI .i64 (Addr.add a74 0) fun n75 =>
 RDI .i64 (Addr.add a74 1) fun n76 =>
 CALL Pg W F_ref07_span [(.agg #[(.int .i64 n75), (.int .i64 n76)]), (.int .i64 0), (.int .i64 1000)]
 (fun v77 => TYB v77 fun b79 =>
 BR (!b79)
 (J_ref07_Clock_4 W R true p73 za0 nx0 b28 n29)
 (SO p72 fun a92 =>
 RDI .i64 (Addr.add a92 1) fun n93 =>
 SO p72 fun a94 =>
 RDI .i64 (Addr.add a94 0) fun n95 =>
 J_ref07_Clock_4 W R (decide ((IntKind.wrap .i64 (n93 - n95)) > 6)) p73 za0 nx0 b28 n29))
 (fun e78 => R (.panicked e78))
def J_ref07_Clock_6 (W : World) (R : Ending → Hp → Prop) (b150 : Bool) (B135 : Nat) (za0 : Addr) (nx1 : List Value → Hp → Prop) (b123 : Bool) (n124 : Int) : Hp → Prop :=
 BR b150
 (R (.returned (.bool false)))
 (RDI .i64 (Addr.add ⟨B135, 0, none⟩ 2) fun n151 =>
 CALL Pg W F_ref07_in [(.int .i64 n151), (.int .i64 0), (.int .i64 2000)]
 (fun v152 => TYB v152 fun b154 =>
 BR (!b154)
 (R (.returned (.bool false)))
 (NX [(.pointer (some za0)), (.tuple #[])] [(.pointer (some za0)), (.tuple #[])] (nx1 [(.bool b123), (.int .i64 (IntKind.wrap .i64 (n124 + 1)))])))
 (fun e153 => R (.panicked e153)))
def J_ref07_Clock_7 (W : World) (R : Ending → Hp → Prop) (b198 : Bool) (B182 : Nat) (za0 : Addr) (nx2 : List Value → Hp → Prop) (b169 : Bool) (n170 : Int) : Hp → Prop :=
 BR b198
 (R (.returned (.bool false)))
 (RDI .i64 (Addr.add (Addr.add ⟨B182, 0, none⟩ 2) 0) fun n199 =>
 RDI .i64 (Addr.add (Addr.add ⟨B182, 0, none⟩ 2) 1) fun n200 =>
 CALL Pg W F_ref07_span [(.agg #[(.int .i64 n199), (.int .i64 n200)]), (.int .i64 (-600)), (.int .i64 600)]
 (fun v201 => TYB v201 fun b203 =>
 BR (!b203)
 (R (.returned (.bool false)))
 (NX [(.pointer (some za0)), (.tuple #[])] [(.pointer (some za0)), (.tuple #[])] (nx2 [(.bool b169), (.int .i64 (IntKind.wrap .i64 (n170 + 1)))])))
 (fun e202 => R (.panicked e202)))
def J_ref07_Clock_8 (W : World) (R : Ending → Hp → Prop) (b197 : Bool) (B182 : Nat) (za0 : Addr) (nx2 : List Value → Hp → Prop) (b169 : Bool) (n170 : Int) : Hp → Prop :=
 BR b197
 (J_ref07_Clock_7 W R true B182 za0 nx2 b169 n170)
 (RDI .i64 (Addr.add ⟨B182, 0, none⟩ 0) fun n204 =>
 RDI .i64 (Addr.add ⟨B182, 0, none⟩ 1) fun n205 =>
 J_ref07_Clock_7 W R (n204 == n205) B182 za0 nx2 b169 n170)
def B_ref07_Clock_0 (W : World) (R : Ending → Hp → Prop) (za0 : Addr) (b28 : Bool) (n29 : Int) (nx0 : List Value → Hp → Prop) : Hp → Prop :=
 RDL (Addr.add za0 0) fun x30 l31 c32 =>
 BR (decide (n29 < (↑l31 : Int)))
 (RDL (Addr.add za0 0) fun x33 l34 c35 =>
 IXS x33 l34 n29 4 fun a36 =>
 RDI .i64 (Addr.add (Addr.add a36 0) 0) fun n37 =>
 RDI .i64 (Addr.add (Addr.add a36 0) 1) fun n38 =>
 RDL (Addr.add za0 0) fun x39 l40 c41 =>
 IXS x39 l40 n29 4 fun a42 =>
 RDI .i64 (Addr.add (Addr.add a42 2) 0) fun n43 =>
 RDI .i64 (Addr.add (Addr.add a42 2) 1) fun n44 =>
 CONJ [
 NEWZ Pg 34 fun B45 =>
 ANDS (RDI .i64 (Addr.add (Addr.add a42 2) 0) fun n46 =>
 RDI .i64 (Addr.add (Addr.add a42 2) 1) fun n47 =>
 fun _ => ((.agg #[(.int .i64 n46), (.int .i64 n47)]) : Value) = (.agg #[(.int .i64 n43), (.int .i64 n44)])) <|
 ANDS (RDL (Addr.add za0 0) fun x48 l49 c50 =>
 fun _ => ((.slice x48 l49 c50) : Value) = (.slice x39 l40 c41)) <|
 ANDS (RDI .i64 (Addr.add (Addr.add a36 0) 0) fun n51 =>
 RDI .i64 (Addr.add (Addr.add a36 0) 1) fun n52 =>
 fun _ => ((.agg #[(.int .i64 n51), (.int .i64 n52)]) : Value) = (.agg #[(.int .i64 n37), (.int .i64 n38)])) <|
 ANDS (RDL (Addr.add za0 0) fun x53 l54 c55 =>
 fun _ => ((.slice x53 l54 c55) : Value) = (.slice x33 l34 c35)) <|
 NEWZ Pg 34 fun B56 =>
 ANDS (RDI .i64 (Addr.add (Addr.add a42 2) 0) fun n57 =>
 RDI .i64 (Addr.add (Addr.add a42 2) 1) fun n58 =>
 fun _ => ((.agg #[(.int .i64 n57), (.int .i64 n58)]) : Value) = (.agg #[(.int .i64 n43), (.int .i64 n44)])) <|
 ANDS (RDL (Addr.add za0 0) fun x59 l60 c61 =>
 fun _ => ((.slice x59 l60 c61) : Value) = (.slice x39 l40 c41)) <|
 ANDS (RDI .i64 (Addr.add (Addr.add a36 0) 0) fun n62 =>
 RDI .i64 (Addr.add (Addr.add a36 0) 1) fun n63 =>
 fun _ => ((.agg #[(.int .i64 n62), (.int .i64 n63)]) : Value) = (.agg #[(.int .i64 n37), (.int .i64 n38)])) <|
 ANDS (RDL (Addr.add za0 0) fun x64 l65 c66 =>
 fun _ => ((.slice x64 l65 c66) : Value) = (.slice x33 l34 c35)) <|
 WR (Addr.add ⟨B45, 0, none⟩ 0) (.int .i64 n37) <|
 WR (Addr.add ⟨B45, 0, none⟩ 1) (.int .i64 n38) <|
 ANDS (RDI .i64 (Addr.add (Addr.add a42 2) 0) fun n67 =>
 RDI .i64 (Addr.add (Addr.add a42 2) 1) fun n68 =>
 fun _ => ((.agg #[(.int .i64 n67), (.int .i64 n68)]) : Value) = (.agg #[(.int .i64 n43), (.int .i64 n44)])) <|
 ANDS (RDL (Addr.add za0 0) fun x69 l70 c71 =>
 fun _ => ((.slice x69 l70 c71) : Value) = (.slice x39 l40 c41)) <|
 WR (Addr.add ⟨B56, 0, none⟩ 0) (.int .i64 n43) <|
 WR (Addr.add ⟨B56, 0, none⟩ 1) (.int .i64 n44) <|
 J_ref07_Clock_5 W R (some ⟨B45, 0, none⟩) (some ⟨B56, 0, none⟩) za0 nx0 b28 n29,
 NEWZ Pg 34 fun B96 =>
 ANDS (RDI .i64 (Addr.add (Addr.add a42 2) 0) fun n97 =>
 RDI .i64 (Addr.add (Addr.add a42 2) 1) fun n98 =>
 fun _ => ((.agg #[(.int .i64 n97), (.int .i64 n98)]) : Value) = (.agg #[(.int .i64 n43), (.int .i64 n44)])) <|
 ANDS (RDL (Addr.add za0 0) fun x99 l100 c101 =>
 fun _ => ((.slice x99 l100 c101) : Value) = (.slice x39 l40 c41)) <|
 ANDS (RDI .i64 (Addr.add (Addr.add a36 0) 0) fun n102 =>
 RDI .i64 (Addr.add (Addr.add a36 0) 1) fun n103 =>
 fun _ => ((.agg #[(.int .i64 n102), (.int .i64 n103)]) : Value) = (.agg #[(.int .i64 n37), (.int .i64 n38)])) <|
 ANDS (RDL (Addr.add za0 0) fun x104 l105 c106 =>
 fun _ => ((.slice x104 l105 c106) : Value) = (.slice x33 l34 c35)) <|
 NEWZ Pg 34 fun B107 =>
 ANDS (RDI .i64 (Addr.add (Addr.add a42 2) 0) fun n108 =>
 RDI .i64 (Addr.add (Addr.add a42 2) 1) fun n109 =>
 fun _ => ((.agg #[(.int .i64 n108), (.int .i64 n109)]) : Value) = (.agg #[(.int .i64 n43), (.int .i64 n44)])) <|
 ANDS (RDL (Addr.add za0 0) fun x110 l111 c112 =>
 fun _ => ((.slice x110 l111 c112) : Value) = (.slice x39 l40 c41)) <|
 ANDS (RDI .i64 (Addr.add (Addr.add a36 0) 0) fun n113 =>
 RDI .i64 (Addr.add (Addr.add a36 0) 1) fun n114 =>
 fun _ => ((.agg #[(.int .i64 n113), (.int .i64 n114)]) : Value) = (.agg #[(.int .i64 n37), (.int .i64 n38)])) <|
 ANDS (RDL (Addr.add za0 0) fun x115 l116 c117 =>
 fun _ => ((.slice x115 l116 c117) : Value) = (.slice x33 l34 c35)) <|
 WR (Addr.add ⟨B107, 0, none⟩ 0) (.int .i64 n37) <|
 WR (Addr.add ⟨B107, 0, none⟩ 1) (.int .i64 n38) <|
 ANDS (RDI .i64 (Addr.add (Addr.add a42 2) 0) fun n118 =>
 RDI .i64 (Addr.add (Addr.add a42 2) 1) fun n119 =>
 fun _ => ((.agg #[(.int .i64 n118), (.int .i64 n119)]) : Value) = (.agg #[(.int .i64 n43), (.int .i64 n44)])) <|
 ANDS (RDL (Addr.add za0 0) fun x120 l121 c122 =>
 fun _ => ((.slice x120 l121 c122) : Value) = (.slice x39 l40 c41)) <|
 WR (Addr.add ⟨B96, 0, none⟩ 0) (.int .i64 n43) <|
 WR (Addr.add ⟨B96, 0, none⟩ 1) (.int .i64 n44) <|
 J_ref07_Clock_5 W R (some ⟨B107, 0, none⟩) (some ⟨B96, 0, none⟩) za0 nx0 b28 n29])
 (L_ref07_Clock_1 W R za0 b28 0)
theorem B_ref07_Clock_0_eq (W : World) (R : Ending → Hp → Prop) (za0 : Addr) (b28 : Bool) (n29 : Int) (nx0 : List Value → Hp → Prop) (j : Tm) : vc Pg W 142 rs_13 an_13 false (sub (bodyOf Try.f13) [1, 1, 0, 1, 0, 0]) 0 (KLoop [2, 3] [1, 142] [(.pointer (some za0)), (.tuple #[])] nx0 (KBlk 0 (KS Pg W 142 rs_13 an_13 false (sub (bodyOf Try.f13) [1, 1, 1]) 0 (fin Pg W 142 rv_13 R)))) (known [2, 3] [(.bool b28), (.int .i64 n29)] (known [1, 142] [(.pointer (some za0)), (.tuple #[])] j)) = B_ref07_Clock_0 W R za0 b28 n29 nx0 := by kernel_rfl
def N_ref07_Clock_0 (I : Bool → Int → Hp → Prop) (μ : Bool → Int → Hp → Nat) (b280 : Bool) (n290 : Int) (s : Hp) (vs : List Value) : Hp → Prop := fun s' => ∃ b28 n29, vs = [(.bool b28), (.int .i64 n29)] ∧ I b28 n29 s' ∧ μ b28 n29 s' < μ b280 n290 s
theorem L_ref07_Clock_0_rule (W : World) (R : Ending → Hp → Prop) (za0 : Addr) (I : Bool → Int → Hp → Prop) (μ : Bool → Int → Hp → Nat) (b280 : Bool) (n290 : Int) (s : Hp) (h0 : I b280 n290 s)
    (hr : ∀ (b28 : Bool) (n29 : Int) (s : Hp), I b28 n29 s → B_ref07_Clock_0 W R za0 b28 n29 (fun vs => N_ref07_Clock_0 I μ b28 n29 s vs) s) : L_ref07_Clock_0 W R za0 b280 n290 s := by
  refine ⟨fun vs s => ∃ b28 n29, vs = [(.bool b28), (.int .i64 n29)] ∧ I b28 n29 s, fun vs s => (match vs with | [.bool b28, .int _ n29] => μ b28 n29 s | _ => 0), ⟨⟨⟨_, rfl⟩, ⟨⟨_, rfl⟩, trivial⟩⟩, ⟨_, _, rfl, h0⟩⟩, ?_⟩
  intro b28 n29 s hI j
  obtain ⟨b28', n29', hy, hI⟩ := hI
  have hI' : I b28 n29 s := by cases hy; exact hI
  have hh := hr b28 n29 s hI'
  rw [← B_ref07_Clock_0_eq W R za0 b28 n29 _ j] at hh
  refine vc_mono ?_ _ _ hh
  exact KLoop_mono (fun vs s' h => by obtain ⟨b281, n291, rfl, h1, h2⟩ := h; exact ⟨⟨⟨_, rfl⟩, ⟨⟨_, rfl⟩, trivial⟩⟩, ⟨_, _, rfl, h1⟩, h2⟩)
def B_ref07_Clock_1 (W : World) (R : Ending → Hp → Prop) (za0 : Addr) (b123 : Bool) (n124 : Int) (nx1 : List Value → Hp → Prop) : Hp → Prop :=
 RDL (Addr.add za0 2) fun x125 l126 c127 =>
 BR (decide (n124 < (↑l126 : Int)))
 (RDL (Addr.add za0 2) fun x128 l129 c130 =>
 IXS x128 l129 n124 3 fun a131 =>
 RDI .i64 (Addr.add a131 0) fun n132 =>
 RDI .i64 (Addr.add a131 1) fun n133 =>
 RDI .i64 (Addr.add a131 2) fun n134 =>
 NEWZ Pg 61 fun B135 =>
 WR (Addr.add ⟨B135, 0, none⟩ 0) (.int .i64 n132) <|
 WR (Addr.add ⟨B135, 0, none⟩ 1) (.int .i64 n133) <|
 WR (Addr.add ⟨B135, 0, none⟩ 2) (.int .i64 n134) <|
 RDL (Addr.add za0 0) fun x136 l137 c138 =>
 RDI .i64 (Addr.add za0 1) fun n139 =>
 RDL (Addr.add za0 2) fun x140 l141 c142 =>
 RDL (Addr.add za0 3) fun x143 l144 c145 =>
 RDI .i64 (Addr.add ⟨B135, 0, none⟩ 0) fun n146 =>
 CALL Pg W F_ref07_Event [(.agg #[(.slice x136 l137 c138), (.int .i64 n139), (.slice x140 l141 c142), (.slice x143 l144 c145)]), (.int .i64 n146)]
 (fun v147 => TYB v147 fun b149 =>
 BR (!b149)
 (J_ref07_Clock_6 W R true B135 za0 nx1 b123 n124)
 (RDL (Addr.add za0 0) fun x155 l156 c157 =>
 RDI .i64 (Addr.add za0 1) fun n158 =>
 RDL (Addr.add za0 2) fun x159 l160 c161 =>
 RDL (Addr.add za0 3) fun x162 l163 c164 =>
 RDI .i64 (Addr.add ⟨B135, 0, none⟩ 1) fun n165 =>
 CALL Pg W F_ref07_Watch [(.agg #[(.slice x155 l156 c157), (.int .i64 n158), (.slice x159 l160 c161), (.slice x162 l163 c164)]), (.int .i64 n165)]
 (fun v166 => TYB v166 fun b168 =>
 J_ref07_Clock_6 W R (!b168) B135 za0 nx1 b123 n124)
 (fun e167 => R (.panicked e167))))
 (fun e148 => R (.panicked e148)))
 (L_ref07_Clock_2 W R za0 b123 0)
theorem B_ref07_Clock_1_eq (W : World) (R : Ending → Hp → Prop) (za0 : Addr) (b123 : Bool) (n124 : Int) (nx1 : List Value → Hp → Prop) (j : Tm) : vc Pg W 142 rs_13 an_13 false (sub (bodyOf Try.f13) [1, 1, 1, 0, 1, 0, 0]) 2 (KLoop [2, 6] [1, 142] [(.pointer (some za0)), (.tuple #[])] nx1 (KBlk 2 (KS Pg W 142 rs_13 an_13 false (sub (bodyOf Try.f13) [1, 1, 1, 1]) 0 (fin Pg W 142 rv_13 R)))) (known [2, 6] [(.bool b123), (.int .i64 n124)] (known [1, 142] [(.pointer (some za0)), (.tuple #[])] j)) = B_ref07_Clock_1 W R za0 b123 n124 nx1 := by kernel_rfl
def N_ref07_Clock_1 (I : Bool → Int → Hp → Prop) (μ : Bool → Int → Hp → Nat) (b1230 : Bool) (n1240 : Int) (s : Hp) (vs : List Value) : Hp → Prop := fun s' => ∃ b123 n124, vs = [(.bool b123), (.int .i64 n124)] ∧ I b123 n124 s' ∧ μ b123 n124 s' < μ b1230 n1240 s
theorem L_ref07_Clock_1_rule (W : World) (R : Ending → Hp → Prop) (za0 : Addr) (I : Bool → Int → Hp → Prop) (μ : Bool → Int → Hp → Nat) (b1230 : Bool) (n1240 : Int) (s : Hp) (h0 : I b1230 n1240 s)
    (hr : ∀ (b123 : Bool) (n124 : Int) (s : Hp), I b123 n124 s → B_ref07_Clock_1 W R za0 b123 n124 (fun vs => N_ref07_Clock_1 I μ b123 n124 s vs) s) : L_ref07_Clock_1 W R za0 b1230 n1240 s := by
  refine ⟨fun vs s => ∃ b123 n124, vs = [(.bool b123), (.int .i64 n124)] ∧ I b123 n124 s, fun vs s => (match vs with | [.bool b123, .int _ n124] => μ b123 n124 s | _ => 0), ⟨⟨⟨_, rfl⟩, ⟨⟨_, rfl⟩, trivial⟩⟩, ⟨_, _, rfl, h0⟩⟩, ?_⟩
  intro b123 n124 s hI j
  obtain ⟨b123', n124', hy, hI⟩ := hI
  have hI' : I b123 n124 s := by cases hy; exact hI
  have hh := hr b123 n124 s hI'
  rw [← B_ref07_Clock_1_eq W R za0 b123 n124 _ j] at hh
  refine vc_mono ?_ _ _ hh
  exact KLoop_mono (fun vs s' h => by obtain ⟨b1231, n1241, rfl, h1, h2⟩ := h; exact ⟨⟨⟨_, rfl⟩, ⟨⟨_, rfl⟩, trivial⟩⟩, ⟨_, _, rfl, h1⟩, h2⟩)
def B_ref07_Clock_2 (W : World) (R : Ending → Hp → Prop) (za0 : Addr) (b169 : Bool) (n170 : Int) (nx2 : List Value → Hp → Prop) : Hp → Prop :=
 RDL (Addr.add za0 3) fun x171 l172 c173 =>
 BR (decide (n170 < (↑l172 : Int)))
 (RDL (Addr.add za0 3) fun x174 l175 c176 =>
 IXS x174 l175 n170 4 fun a177 =>
 RDI .i64 (Addr.add a177 0) fun n178 =>
 RDI .i64 (Addr.add a177 1) fun n179 =>
 RDI .i64 (Addr.add a177 2) fun n180 =>
 RDI .i64 (Addr.add a177 3) fun n181 =>
 NEWZ Pg 63 fun B182 =>
 WR (Addr.add ⟨B182, 0, none⟩ 0) (.int .i64 n178) <|
 WR (Addr.add ⟨B182, 0, none⟩ 1) (.int .i64 n179) <|
 WR (Addr.add ⟨B182, 0, none⟩ 2) (.int .i64 n180) <|
 WR (Addr.add ⟨B182, 0, none⟩ 3) (.int .i64 n181) <|
 RDL (Addr.add za0 0) fun x183 l184 c185 =>
 RDI .i64 (Addr.add za0 1) fun n186 =>
 RDL (Addr.add za0 2) fun x187 l188 c189 =>
 RDL (Addr.add za0 3) fun x190 l191 c192 =>
 RDI .i64 (Addr.add ⟨B182, 0, none⟩ 0) fun n193 =>
 CALL Pg W F_ref07_Event [(.agg #[(.slice x183 l184 c185), (.int .i64 n186), (.slice x187 l188 c189), (.slice x190 l191 c192)]), (.int .i64 n193)]
 (fun v194 => TYB v194 fun b196 =>
 BR (!b196)
 (J_ref07_Clock_8 W R true B182 za0 nx2 b169 n170)
 (RDL (Addr.add za0 0) fun x206 l207 c208 =>
 RDI .i64 (Addr.add za0 1) fun n209 =>
 RDL (Addr.add za0 2) fun x210 l211 c212 =>
 RDL (Addr.add za0 3) fun x213 l214 c215 =>
 RDI .i64 (Addr.add ⟨B182, 0, none⟩ 1) fun n216 =>
 CALL Pg W F_ref07_Event [(.agg #[(.slice x206 l207 c208), (.int .i64 n209), (.slice x210 l211 c212), (.slice x213 l214 c215)]), (.int .i64 n216)]
 (fun v217 => TYB v217 fun b219 =>
 J_ref07_Clock_8 W R (!b219) B182 za0 nx2 b169 n170)
 (fun e218 => R (.panicked e218))))
 (fun e195 => R (.panicked e195)))
 (R (.returned (.bool true)))
theorem B_ref07_Clock_2_eq (W : World) (R : Ending → Hp → Prop) (za0 : Addr) (b169 : Bool) (n170 : Int) (nx2 : List Value → Hp → Prop) (j : Tm) : vc Pg W 142 rs_13 an_13 false (sub (bodyOf Try.f13) [1, 1, 1, 1, 0, 1, 0, 0]) 4 (KLoop [2, 8] [1, 142] [(.pointer (some za0)), (.tuple #[])] nx2 (KBlk 4 (KS Pg W 142 rs_13 an_13 false (sub (bodyOf Try.f13) [1, 1, 1, 1, 1]) 0 (fin Pg W 142 rv_13 R)))) (known [2, 8] [(.bool b169), (.int .i64 n170)] (known [1, 142] [(.pointer (some za0)), (.tuple #[])] j)) = B_ref07_Clock_2 W R za0 b169 n170 nx2 := by kernel_rfl
def N_ref07_Clock_2 (I : Bool → Int → Hp → Prop) (μ : Bool → Int → Hp → Nat) (b1690 : Bool) (n1700 : Int) (s : Hp) (vs : List Value) : Hp → Prop := fun s' => ∃ b169 n170, vs = [(.bool b169), (.int .i64 n170)] ∧ I b169 n170 s' ∧ μ b169 n170 s' < μ b1690 n1700 s
theorem L_ref07_Clock_2_rule (W : World) (R : Ending → Hp → Prop) (za0 : Addr) (I : Bool → Int → Hp → Prop) (μ : Bool → Int → Hp → Nat) (b1690 : Bool) (n1700 : Int) (s : Hp) (h0 : I b1690 n1700 s)
    (hr : ∀ (b169 : Bool) (n170 : Int) (s : Hp), I b169 n170 s → B_ref07_Clock_2 W R za0 b169 n170 (fun vs => N_ref07_Clock_2 I μ b169 n170 s vs) s) : L_ref07_Clock_2 W R za0 b1690 n1700 s := by
  refine ⟨fun vs s => ∃ b169 n170, vs = [(.bool b169), (.int .i64 n170)] ∧ I b169 n170 s, fun vs s => (match vs with | [.bool b169, .int _ n170] => μ b169 n170 s | _ => 0), ⟨⟨⟨_, rfl⟩, ⟨⟨_, rfl⟩, trivial⟩⟩, ⟨_, _, rfl, h0⟩⟩, ?_⟩
  intro b169 n170 s hI j
  obtain ⟨b169', n170', hy, hI⟩ := hI
  have hI' : I b169 n170 s := by cases hy; exact hI
  have hh := hr b169 n170 s hI'
  rw [← B_ref07_Clock_2_eq W R za0 b169 n170 _ j] at hh
  refine vc_mono ?_ _ _ hh
  exact KLoop_mono (fun vs s' h => by obtain ⟨b1691, n1701, rfl, h1, h2⟩ := h; exact ⟨⟨⟨_, rfl⟩, ⟨⟨_, rfl⟩, trivial⟩⟩, ⟨_, _, rfl, h1⟩, h2⟩)
def T_ref07_Clock (W : World) (x1 : Option Addr) (l2 : Nat) (c3 : Nat) (n4 : Int) (x5 : Option Addr) (l6 : Nat) (c7 : Nat) (x8 : Option Addr) (l9 : Nat) (c10 : Nat) (R : Ending → Hp → Prop) : Hp → Prop :=
 NEW 26 [(.slice x1 l2 c3), (.int .i64 n4), (.slice x5 l6 c7), (.slice x8 l9 c10)] fun B11 =>
 RDL (Addr.add ⟨B11, 0, none⟩ 0) fun x12 l13 c14 =>
 BR (decide ((↑l13 : Int) > 2))
 (J_ref07_Clock_2 W R true B11)
 (RDI .i64 (Addr.add ⟨B11, 0, none⟩ 1) fun n24 =>
 CALL Pg W F_ref07_in [(.int .i64 n24), (.int .i64 0), (.int .i64 5)]
 (fun v25 => TYB v25 fun b27 =>
 J_ref07_Clock_2 W R (!b27) B11)
 (fun e26 => R (.panicked e26)))
theorem T_ref07_Clock_eq (W : World) (x1 : Option Addr) (l2 : Nat) (c3 : Nat) (n4 : Int) (x5 : Option Addr) (l6 : Nat) (c7 : Nat) (x8 : Option Addr) (l9 : Nat) (c10 : Nat) (R : Ending → Hp → Prop) : vfun Pg W an_13 Try.f13 [(.agg #[(.slice x1 l2 c3), (.int .i64 n4), (.slice x5 l6 c7), (.slice x8 l9 c10)])] R = T_ref07_Clock W x1 l2 c3 n4 x5 l6 c7 x8 l9 c10 R := by kernel_rfl
theorem does_ref07_Clock (W : World) (x1 : Option Addr) (l2 : Nat) (c3 : Nat) (n4 : Int) (x5 : Option Addr) (l6 : Nat) (c7 : Nat) (x8 : Option Addr) (l9 : Nat) (c10 : Nat) (R : Ending → Hp → Prop) (s : Hp) (h : T_ref07_Clock W x1 l2 c3 n4 x5 l6 c7 x8 l9 c10 R s) : Does Pg W F_ref07_Clock #[(.agg #[(.slice x1 l2 c3), (.int .i64 n4), (.slice x5 l6 c7), (.slice x8 l9 c10)])] s R :=
  does_of_vfun Pg W an_13 Try.func13 rfl (by kernel_rfl) (by rw [T_ref07_Clock_eq]; exact h)
def an_17 : Nat → Ann := fun b => match b with
 | _ => {}
abbrev rv_17 : List ResultVar := [.tmp 2]
abbrev rs_17 : List Nat := [8, 2]
def T_ref07_Every (W : World) (x1 : Option Addr) (l2 : Nat) (c3 : Nat) (n4 : Int) (x5 : Option Addr) (l6 : Nat) (c7 : Nat) (x8 : Option Addr) (l9 : Nat) (c10 : Nat) (R : Ending → Hp → Prop) : Hp → Prop :=
 NEW 26 [(.slice x1 l2 c3), (.int .i64 n4), (.slice x5 l6 c7), (.slice x8 l9 c10)] fun B11 =>
 RDL (Addr.add ⟨B11, 0, none⟩ 2) fun x12 l13 c14 =>
 CALL Pg W F_ref07_power [(.int .i64 (↑l13 : Int))]
 (fun v15 => TYI .i64 v15 fun n17 =>
 R (.returned (.int .i64 (IntKind.wrap .i64 (n17 - 1)))))
 (fun e16 => R (.panicked e16))
theorem T_ref07_Every_eq (W : World) (x1 : Option Addr) (l2 : Nat) (c3 : Nat) (n4 : Int) (x5 : Option Addr) (l6 : Nat) (c7 : Nat) (x8 : Option Addr) (l9 : Nat) (c10 : Nat) (R : Ending → Hp → Prop) : vfun Pg W an_17 Try.f17 [(.agg #[(.slice x1 l2 c3), (.int .i64 n4), (.slice x5 l6 c7), (.slice x8 l9 c10)])] R = T_ref07_Every W x1 l2 c3 n4 x5 l6 c7 x8 l9 c10 R := by kernel_rfl
theorem does_ref07_Every (W : World) (x1 : Option Addr) (l2 : Nat) (c3 : Nat) (n4 : Int) (x5 : Option Addr) (l6 : Nat) (c7 : Nat) (x8 : Option Addr) (l9 : Nat) (c10 : Nat) (R : Ending → Hp → Prop) (s : Hp) (h : T_ref07_Every W x1 l2 c3 n4 x5 l6 c7 x8 l9 c10 R s) : Does Pg W F_ref07_Every #[(.agg #[(.slice x1 l2 c3), (.int .i64 n4), (.slice x5 l6 c7), (.slice x8 l9 c10)])] s R :=
  does_of_vfun Pg W an_17 Try.func17 rfl (by kernel_rfl) (by rw [T_ref07_Every_eq]; exact h)
def an_18 : Nat → Ann := fun b => match b with
 | 0 => { ms := [5, 6], ks := [.i .i64, .i .i64], us := [1, 2, 4, 27], rt := false, ex := [] }
 | _ => {}
abbrev rv_18 : List ResultVar := [.tmp 4]
abbrev rs_18 : List Nat := [27, 4]
def L_ref07_Without_0 (W : World) (R : Ending → Hp → Prop) (zn0 : Int) (za1 : Addr) (n13 : Int) (n14 : Int) : Hp → Prop :=
 LOOPN [.i .i64, .i .i64] (fun ys next s => ∀ j : Tm, vc Pg W 27 rs_18 an_18 false (sub (bodyOf Try.f18) [1, 1, 0, 1, 0, 0]) 0 (KLoop [5, 6] [1, 2, 4, 27] [(.int .i64 zn0), (.pointer (some za1)), (.int .i64 0), (.tuple #[])] next (KBlk 0 (KS Pg W 27 rs_18 an_18 false (sub (bodyOf Try.f18) [1, 1, 1]) 0 (fin Pg W 27 rv_18 R)))) (known [5, 6] ys (known [1, 2, 4, 27] [(.int .i64 zn0), (.pointer (some za1)), (.int .i64 0), (.tuple #[])] j)) s) [(.int .i64 n13), (.int .i64 n14)]
def B_ref07_Without_0 (W : World) (R : Ending → Hp → Prop) (zn0 : Int) (za1 : Addr) (n13 : Int) (n14 : Int) (nx0 : List Value → Hp → Prop) : Hp → Prop :=
 RDL (Addr.add za1 2) fun x15 l16 c17 =>
 BR (decide (n14 < (↑l16 : Int)))
 (RDL (Addr.add za1 2) fun x18 l19 c20 =>
 IXS x18 l19 n14 3 fun a21 =>
 RDI .i64 (Addr.add a21 1) fun n22 =>
 BR (n22 != zn0)
 (CALL Pg W F_ref07_power [(.int .i64 n14)]
 (fun v23 => TYI .i64 v23 fun n25 =>
 NX [(.int .i64 zn0), (.pointer (some za1)), (.int .i64 0), (.tuple #[])] [(.int .i64 zn0), (.pointer (some za1)), (.int .i64 0), (.tuple #[])] (nx0 [(.int .i64 (IntKind.wrap .i64 (n13 + n25))), (.int .i64 (IntKind.wrap .i64 (n14 + 1)))]))
 (fun e24 => R (.panicked e24)))
 (NX [(.int .i64 zn0), (.pointer (some za1)), (.int .i64 0), (.tuple #[])] [(.int .i64 zn0), (.pointer (some za1)), (.int .i64 0), (.tuple #[])] (nx0 [(.int .i64 n13), (.int .i64 (IntKind.wrap .i64 (n14 + 1)))])))
 (R (.returned (.int .i64 n13)))
theorem B_ref07_Without_0_eq (W : World) (R : Ending → Hp → Prop) (zn0 : Int) (za1 : Addr) (n13 : Int) (n14 : Int) (nx0 : List Value → Hp → Prop) (j : Tm) : vc Pg W 27 rs_18 an_18 false (sub (bodyOf Try.f18) [1, 1, 0, 1, 0, 0]) 0 (KLoop [5, 6] [1, 2, 4, 27] [(.int .i64 zn0), (.pointer (some za1)), (.int .i64 0), (.tuple #[])] nx0 (KBlk 0 (KS Pg W 27 rs_18 an_18 false (sub (bodyOf Try.f18) [1, 1, 1]) 0 (fin Pg W 27 rv_18 R)))) (known [5, 6] [(.int .i64 n13), (.int .i64 n14)] (known [1, 2, 4, 27] [(.int .i64 zn0), (.pointer (some za1)), (.int .i64 0), (.tuple #[])] j)) = B_ref07_Without_0 W R zn0 za1 n13 n14 nx0 := by kernel_rfl
def N_ref07_Without_0 (I : Int → Int → Hp → Prop) (μ : Int → Int → Hp → Nat) (n130 : Int) (n140 : Int) (s : Hp) (vs : List Value) : Hp → Prop := fun s' => ∃ n13 n14, vs = [(.int .i64 n13), (.int .i64 n14)] ∧ I n13 n14 s' ∧ μ n13 n14 s' < μ n130 n140 s
theorem L_ref07_Without_0_rule (W : World) (R : Ending → Hp → Prop) (zn0 : Int) (za1 : Addr) (I : Int → Int → Hp → Prop) (μ : Int → Int → Hp → Nat) (n130 : Int) (n140 : Int) (s : Hp) (h0 : I n130 n140 s)
    (hr : ∀ (n13 : Int) (n14 : Int) (s : Hp), I n13 n14 s → B_ref07_Without_0 W R zn0 za1 n13 n14 (fun vs => N_ref07_Without_0 I μ n13 n14 s vs) s) : L_ref07_Without_0 W R zn0 za1 n130 n140 s := by
  refine ⟨fun vs s => ∃ n13 n14, vs = [(.int .i64 n13), (.int .i64 n14)] ∧ I n13 n14 s, fun vs s => (match vs with | [.int _ n13, .int _ n14] => μ n13 n14 s | _ => 0), ⟨⟨⟨_, rfl⟩, ⟨⟨_, rfl⟩, trivial⟩⟩, ⟨_, _, rfl, h0⟩⟩, ?_⟩
  intro n13 n14 s hI j
  obtain ⟨n13', n14', hy, hI⟩ := hI
  have hI' : I n13 n14 s := by cases hy; exact hI
  have hh := hr n13 n14 s hI'
  rw [← B_ref07_Without_0_eq W R zn0 za1 n13 n14 _ j] at hh
  refine vc_mono ?_ _ _ hh
  exact KLoop_mono (fun vs s' h => by obtain ⟨n131, n141, rfl, h1, h2⟩ := h; exact ⟨⟨⟨_, rfl⟩, ⟨⟨_, rfl⟩, trivial⟩⟩, ⟨_, _, rfl, h1⟩, h2⟩)
def T_ref07_Without (W : World) (x1 : Option Addr) (l2 : Nat) (c3 : Nat) (n4 : Int) (x5 : Option Addr) (l6 : Nat) (c7 : Nat) (x8 : Option Addr) (l9 : Nat) (c10 : Nat) (n11 : Int) (R : Ending → Hp → Prop) : Hp → Prop :=
 NEW 26 [(.slice x1 l2 c3), (.int .i64 n4), (.slice x5 l6 c7), (.slice x8 l9 c10)] fun B12 =>
 L_ref07_Without_0 W R n11 ⟨B12, 0, none⟩ 0 0
theorem T_ref07_Without_eq (W : World) (x1 : Option Addr) (l2 : Nat) (c3 : Nat) (n4 : Int) (x5 : Option Addr) (l6 : Nat) (c7 : Nat) (x8 : Option Addr) (l9 : Nat) (c10 : Nat) (n11 : Int) (R : Ending → Hp → Prop) : vfun Pg W an_18 Try.f18 [(.agg #[(.slice x1 l2 c3), (.int .i64 n4), (.slice x5 l6 c7), (.slice x8 l9 c10)]), (.int .i64 n11)] R = T_ref07_Without W x1 l2 c3 n4 x5 l6 c7 x8 l9 c10 n11 R := by kernel_rfl
theorem does_ref07_Without (W : World) (x1 : Option Addr) (l2 : Nat) (c3 : Nat) (n4 : Int) (x5 : Option Addr) (l6 : Nat) (c7 : Nat) (x8 : Option Addr) (l9 : Nat) (c10 : Nat) (n11 : Int) (R : Ending → Hp → Prop) (s : Hp) (h : T_ref07_Without W x1 l2 c3 n4 x5 l6 c7 x8 l9 c10 n11 R s) : Does Pg W F_ref07_Without #[(.agg #[(.slice x1 l2 c3), (.int .i64 n4), (.slice x5 l6 c7), (.slice x8 l9 c10)]), (.int .i64 n11)] s R :=
  does_of_vfun Pg W an_18 Try.func18 rfl (by kernel_rfl) (by rw [T_ref07_Without_eq]; exact h)
def an_19 : Nat → Ann := fun b => match b with
 | 0 => { ms := [0, 3], ks := [.i .i64, .i .i64], us := [13], rt := false, ex := [] }
 | _ => {}
abbrev rv_19 : List ResultVar := [.tmp 2]
abbrev rs_19 : List Nat := [13, 2]
def L_ref07_Size_0 (W : World) (R : Ending → Hp → Prop) (n2 : Int) (n3 : Int) : Hp → Prop :=
 LOOPN [.i .i64, .i .i64] (fun ys next s => ∀ j : Tm, vc Pg W 13 rs_19 an_19 false (sub (bodyOf Try.f19) [1, 1, 0, 0, 0]) 0 (KLoop [0, 3] [13] [(.tuple #[])] next (KBlk 0 (KS Pg W 13 rs_19 an_19 false (sub (bodyOf Try.f19) [1, 1, 1]) 0 (fin Pg W 13 rv_19 R)))) (known [0, 3] ys (known [13] [(.tuple #[])] j)) s) [(.int .i64 n2), (.int .i64 n3)]
def B_ref07_Size_0 (W : World) (R : Ending → Hp → Prop) (n2 : Int) (n3 : Int) (nx0 : List Value → Hp → Prop) : Hp → Prop :=
 BR (decide (n2 > 0))
 (NX [(.tuple #[])] [(.tuple #[])] (nx0 [(.int .i64 (IntKind.wrap .i64 (Int.tdiv n2 2))), (.int .i64 (IntKind.wrap .i64 (n3 + (Int.tmod n2 2))))]))
 (R (.returned (.int .i64 n3)))
theorem B_ref07_Size_0_eq (W : World) (R : Ending → Hp → Prop) (n2 : Int) (n3 : Int) (nx0 : List Value → Hp → Prop) (j : Tm) : vc Pg W 13 rs_19 an_19 false (sub (bodyOf Try.f19) [1, 1, 0, 0, 0]) 0 (KLoop [0, 3] [13] [(.tuple #[])] nx0 (KBlk 0 (KS Pg W 13 rs_19 an_19 false (sub (bodyOf Try.f19) [1, 1, 1]) 0 (fin Pg W 13 rv_19 R)))) (known [0, 3] [(.int .i64 n2), (.int .i64 n3)] (known [13] [(.tuple #[])] j)) = B_ref07_Size_0 W R n2 n3 nx0 := by kernel_rfl
def N_ref07_Size_0 (I : Int → Int → Hp → Prop) (μ : Int → Int → Hp → Nat) (n20 : Int) (n30 : Int) (s : Hp) (vs : List Value) : Hp → Prop := fun s' => ∃ n2 n3, vs = [(.int .i64 n2), (.int .i64 n3)] ∧ I n2 n3 s' ∧ μ n2 n3 s' < μ n20 n30 s
theorem L_ref07_Size_0_rule (W : World) (R : Ending → Hp → Prop) (I : Int → Int → Hp → Prop) (μ : Int → Int → Hp → Nat) (n20 : Int) (n30 : Int) (s : Hp) (h0 : I n20 n30 s)
    (hr : ∀ (n2 : Int) (n3 : Int) (s : Hp), I n2 n3 s → B_ref07_Size_0 W R n2 n3 (fun vs => N_ref07_Size_0 I μ n2 n3 s vs) s) : L_ref07_Size_0 W R n20 n30 s := by
  refine ⟨fun vs s => ∃ n2 n3, vs = [(.int .i64 n2), (.int .i64 n3)] ∧ I n2 n3 s, fun vs s => (match vs with | [.int _ n2, .int _ n3] => μ n2 n3 s | _ => 0), ⟨⟨⟨_, rfl⟩, ⟨⟨_, rfl⟩, trivial⟩⟩, ⟨_, _, rfl, h0⟩⟩, ?_⟩
  intro n2 n3 s hI j
  obtain ⟨n2', n3', hy, hI⟩ := hI
  have hI' : I n2 n3 s := by cases hy; exact hI
  have hh := hr n2 n3 s hI'
  rw [← B_ref07_Size_0_eq W R n2 n3 _ j] at hh
  refine vc_mono ?_ _ _ hh
  exact KLoop_mono (fun vs s' h => by obtain ⟨n21, n31, rfl, h1, h2⟩ := h; exact ⟨⟨⟨_, rfl⟩, ⟨⟨_, rfl⟩, trivial⟩⟩, ⟨_, _, rfl, h1⟩, h2⟩)
def T_ref07_Size (W : World) (n1 : Int) (R : Ending → Hp → Prop) : Hp → Prop :=
 L_ref07_Size_0 W R n1 0
theorem T_ref07_Size_eq (W : World) (n1 : Int) (R : Ending → Hp → Prop) : vfun Pg W an_19 Try.f19 [(.int .i64 n1)] R = T_ref07_Size W n1 R := by kernel_rfl
theorem does_ref07_Size (W : World) (n1 : Int) (R : Ending → Hp → Prop) (s : Hp) (h : T_ref07_Size W n1 R s) : Does Pg W F_ref07_Size #[(.int .i64 n1)] s R :=
  does_of_vfun Pg W an_19 Try.func19 rfl (by kernel_rfl) (by rw [T_ref07_Size_eq]; exact h)
def an_28 : Nat → Ann := fun b => match b with
 | _ => {}
abbrev rv_28 : List ResultVar := [.tmp 4]
abbrev rs_28 : List Nat := [13, 4]
def T_ref07_Show (W : World) (n1 : Int) (n2 : Int) (n3 : Int) (R : Ending → Hp → Prop) : Hp → Prop :=
 NEW 55 [(.int .i64 n1), (.int .i64 n2)] fun B4 =>
 RDI .i64 (Addr.add ⟨B4, 0, none⟩ 0) fun n5 =>
 RDI .i64 (Addr.add ⟨B4, 0, none⟩ 1) fun n6 =>
 R (.returned (.int .i64 (IntKind.wrap .i64 (n5 + (IntKind.wrap .i64 (Int.tdiv (IntKind.wrap .i64 (n3 * n6)) 1000))))))
theorem T_ref07_Show_eq (W : World) (n1 : Int) (n2 : Int) (n3 : Int) (R : Ending → Hp → Prop) : vfun Pg W an_28 Try.f28 [(.agg #[(.int .i64 n1), (.int .i64 n2)]), (.int .i64 n3)] R = T_ref07_Show W n1 n2 n3 R := by kernel_rfl
theorem does_ref07_Show (W : World) (n1 : Int) (n2 : Int) (n3 : Int) (R : Ending → Hp → Prop) (s : Hp) (h : T_ref07_Show W n1 n2 n3 R s) : Does Pg W F_ref07_Show #[(.agg #[(.int .i64 n1), (.int .i64 n2)]), (.int .i64 n3)] s R :=
  does_of_vfun Pg W an_28 Try.func28 rfl (by kernel_rfl) (by rw [T_ref07_Show_eq]; exact h)
def an_31 : Nat → Ann := fun b => match b with
 | _ => {}
abbrev rv_31 : List ResultVar := [.tmp 4]
abbrev rs_31 : List Nat := [10, 4]
def T_ref07_Event (W : World) (x1 : Option Addr) (l2 : Nat) (c3 : Nat) (n4 : Int) (x5 : Option Addr) (l6 : Nat) (c7 : Nat) (x8 : Option Addr) (l9 : Nat) (c10 : Nat) (n11 : Int) (R : Ending → Hp → Prop) : Hp → Prop :=
 NEW 26 [(.slice x1 l2 c3), (.int .i64 n4), (.slice x5 l6 c7), (.slice x8 l9 c10)] fun B12 =>
 RDI .i64 (Addr.add ⟨B12, 0, none⟩ 1) fun n13 =>
 CALL Pg W F_ref07_in [(.int .i64 n11), (.int .i64 0), (.int .i64 (IntKind.wrap .i64 (n13 - 1)))]
 (fun v14 => TYB v14 fun b16 =>
 R (.returned (.bool b16)))
 (fun e15 => R (.panicked e15))
theorem T_ref07_Event_eq (W : World) (x1 : Option Addr) (l2 : Nat) (c3 : Nat) (n4 : Int) (x5 : Option Addr) (l6 : Nat) (c7 : Nat) (x8 : Option Addr) (l9 : Nat) (c10 : Nat) (n11 : Int) (R : Ending → Hp → Prop) : vfun Pg W an_31 Try.f31 [(.agg #[(.slice x1 l2 c3), (.int .i64 n4), (.slice x5 l6 c7), (.slice x8 l9 c10)]), (.int .i64 n11)] R = T_ref07_Event W x1 l2 c3 n4 x5 l6 c7 x8 l9 c10 n11 R := by kernel_rfl
theorem does_ref07_Event (W : World) (x1 : Option Addr) (l2 : Nat) (c3 : Nat) (n4 : Int) (x5 : Option Addr) (l6 : Nat) (c7 : Nat) (x8 : Option Addr) (l9 : Nat) (c10 : Nat) (n11 : Int) (R : Ending → Hp → Prop) (s : Hp) (h : T_ref07_Event W x1 l2 c3 n4 x5 l6 c7 x8 l9 c10 n11 R s) : Does Pg W F_ref07_Event #[(.agg #[(.slice x1 l2 c3), (.int .i64 n4), (.slice x5 l6 c7), (.slice x8 l9 c10)]), (.int .i64 n11)] s R :=
  does_of_vfun Pg W an_31 Try.func31 rfl (by kernel_rfl) (by rw [T_ref07_Event_eq]; exact h)
def an_42 : Nat → Ann := fun b => match b with
 | _ => {}
abbrev rv_42 : List ResultVar := [.tmp 6]
abbrev rs_42 : List Nat := [15, 6]
def T_ref07_in (W : World) (n1 : Int) (n2 : Int) (n3 : Int) (R : Ending → Hp → Prop) : Hp → Prop :=
 BR (decide (n2 ≤ n1))
 (R (.returned (.bool (decide (n1 ≤ n3)))))
 (R (.returned (.bool false)))
theorem T_ref07_in_eq (W : World) (n1 : Int) (n2 : Int) (n3 : Int) (R : Ending → Hp → Prop) : vfun Pg W an_42 Try.f42 [(.int .i64 n1), (.int .i64 n2), (.int .i64 n3)] R = T_ref07_in W n1 n2 n3 R := by kernel_rfl
theorem does_ref07_in (W : World) (n1 : Int) (n2 : Int) (n3 : Int) (R : Ending → Hp → Prop) (s : Hp) (h : T_ref07_in W n1 n2 n3 R s) : Does Pg W F_ref07_in #[(.int .i64 n1), (.int .i64 n2), (.int .i64 n3)] s R :=
  does_of_vfun Pg W an_42 Try.func42 rfl (by kernel_rfl) (by rw [T_ref07_in_eq]; exact h)
def an_43 : Nat → Ann := fun b => match b with
 | _ => {}
abbrev rv_43 : List ResultVar := [.tmp 6]
abbrev rs_43 : List Nat := [24, 6]
def T_ref07_span (W : World) (n1 : Int) (n2 : Int) (n3 : Int) (n4 : Int) (R : Ending → Hp → Prop) : Hp → Prop :=
 NEW 34 [(.int .i64 n1), (.int .i64 n2)] fun B5 =>
 RDI .i64 (Addr.add ⟨B5, 0, none⟩ 0) fun n6 =>
 BR (decide (n3 ≤ n6))
 (RDI .i64 (Addr.add ⟨B5, 0, none⟩ 0) fun n7 =>
 RDI .i64 (Addr.add ⟨B5, 0, none⟩ 1) fun n8 =>
 BR (decide (n7 ≤ n8))
 (RDI .i64 (Addr.add ⟨B5, 0, none⟩ 1) fun n9 =>
 R (.returned (.bool (decide (n9 ≤ n4)))))
 (R (.returned (.bool false))))
 (R (.returned (.bool false)))
theorem T_ref07_span_eq (W : World) (n1 : Int) (n2 : Int) (n3 : Int) (n4 : Int) (R : Ending → Hp → Prop) : vfun Pg W an_43 Try.f43 [(.agg #[(.int .i64 n1), (.int .i64 n2)]), (.int .i64 n3), (.int .i64 n4)] R = T_ref07_span W n1 n2 n3 n4 R := by kernel_rfl
theorem does_ref07_span (W : World) (n1 : Int) (n2 : Int) (n3 : Int) (n4 : Int) (R : Ending → Hp → Prop) (s : Hp) (h : T_ref07_span W n1 n2 n3 n4 R s) : Does Pg W F_ref07_span #[(.agg #[(.int .i64 n1), (.int .i64 n2)]), (.int .i64 n3), (.int .i64 n4)] s R :=
  does_of_vfun Pg W an_43 Try.func43 rfl (by kernel_rfl) (by rw [T_ref07_span_eq]; exact h)
def an_44 : Nat → Ann := fun b => match b with
 | _ => {}
abbrev rv_44 : List ResultVar := [.tmp 4]
abbrev rs_44 : List Nat := [11, 4]
def T_ref07_Watch (W : World) (x1 : Option Addr) (l2 : Nat) (c3 : Nat) (n4 : Int) (x5 : Option Addr) (l6 : Nat) (c7 : Nat) (x8 : Option Addr) (l9 : Nat) (c10 : Nat) (n11 : Int) (R : Ending → Hp → Prop) : Hp → Prop :=
 NEW 26 [(.slice x1 l2 c3), (.int .i64 n4), (.slice x5 l6 c7), (.slice x8 l9 c10)] fun B12 =>
 RDL (Addr.add ⟨B12, 0, none⟩ 0) fun x13 l14 c15 =>
 CALL Pg W F_ref07_in [(.int .i64 n11), (.int .i64 0), (.int .i64 (IntKind.wrap .i64 ((↑l14 : Int) - 1)))]
 (fun v16 => TYB v16 fun b18 =>
 R (.returned (.bool b18)))
 (fun e17 => R (.panicked e17))
theorem T_ref07_Watch_eq (W : World) (x1 : Option Addr) (l2 : Nat) (c3 : Nat) (n4 : Int) (x5 : Option Addr) (l6 : Nat) (c7 : Nat) (x8 : Option Addr) (l9 : Nat) (c10 : Nat) (n11 : Int) (R : Ending → Hp → Prop) : vfun Pg W an_44 Try.f44 [(.agg #[(.slice x1 l2 c3), (.int .i64 n4), (.slice x5 l6 c7), (.slice x8 l9 c10)]), (.int .i64 n11)] R = T_ref07_Watch W x1 l2 c3 n4 x5 l6 c7 x8 l9 c10 n11 R := by kernel_rfl
theorem does_ref07_Watch (W : World) (x1 : Option Addr) (l2 : Nat) (c3 : Nat) (n4 : Int) (x5 : Option Addr) (l6 : Nat) (c7 : Nat) (x8 : Option Addr) (l9 : Nat) (c10 : Nat) (n11 : Int) (R : Ending → Hp → Prop) (s : Hp) (h : T_ref07_Watch W x1 l2 c3 n4 x5 l6 c7 x8 l9 c10 n11 R s) : Does Pg W F_ref07_Watch #[(.agg #[(.slice x1 l2 c3), (.int .i64 n4), (.slice x5 l6 c7), (.slice x8 l9 c10)]), (.int .i64 n11)] s R :=
  does_of_vfun Pg W an_44 Try.func44 rfl (by kernel_rfl) (by rw [T_ref07_Watch_eq]; exact h)
def an_50 : Nat → Ann := fun b => match b with
 | 0 => { ms := [3, 4], ks := [.i .i64, .i .i64], us := [0, 13], rt := false, ex := [] }
 | _ => {}
abbrev rv_50 : List ResultVar := [.tmp 2]
abbrev rs_50 : List Nat := [13, 2]
def L_ref07_power_0 (W : World) (R : Ending → Hp → Prop) (zn0 : Int) (n2 : Int) (n3 : Int) : Hp → Prop :=
 LOOPN [.i .i64, .i .i64] (fun ys next s => ∀ j : Tm, vc Pg W 13 rs_50 an_50 false (sub (bodyOf Try.f50) [1, 1, 0, 1, 0, 0]) 0 (KLoop [3, 4] [0, 13] [(.int .i64 zn0), (.tuple #[])] next (KBlk 0 (KS Pg W 13 rs_50 an_50 false (sub (bodyOf Try.f50) [1, 1, 1]) 0 (fin Pg W 13 rv_50 R)))) (known [3, 4] ys (known [0, 13] [(.int .i64 zn0), (.tuple #[])] j)) s) [(.int .i64 n2), (.int .i64 n3)]
def B_ref07_power_0 (W : World) (R : Ending → Hp → Prop) (zn0 : Int) (n2 : Int) (n3 : Int) (nx0 : List Value → Hp → Prop) : Hp → Prop :=
 BR (decide (n3 < zn0))
 (NX [(.int .i64 zn0), (.tuple #[])] [(.int .i64 zn0), (.tuple #[])] (nx0 [(.int .i64 (IntKind.wrap .i64 (2 * n2))), (.int .i64 (IntKind.wrap .i64 (n3 + 1)))]))
 (R (.returned (.int .i64 n2)))
theorem B_ref07_power_0_eq (W : World) (R : Ending → Hp → Prop) (zn0 : Int) (n2 : Int) (n3 : Int) (nx0 : List Value → Hp → Prop) (j : Tm) : vc Pg W 13 rs_50 an_50 false (sub (bodyOf Try.f50) [1, 1, 0, 1, 0, 0]) 0 (KLoop [3, 4] [0, 13] [(.int .i64 zn0), (.tuple #[])] nx0 (KBlk 0 (KS Pg W 13 rs_50 an_50 false (sub (bodyOf Try.f50) [1, 1, 1]) 0 (fin Pg W 13 rv_50 R)))) (known [3, 4] [(.int .i64 n2), (.int .i64 n3)] (known [0, 13] [(.int .i64 zn0), (.tuple #[])] j)) = B_ref07_power_0 W R zn0 n2 n3 nx0 := by kernel_rfl
def N_ref07_power_0 (I : Int → Int → Hp → Prop) (μ : Int → Int → Hp → Nat) (n20 : Int) (n30 : Int) (s : Hp) (vs : List Value) : Hp → Prop := fun s' => ∃ n2 n3, vs = [(.int .i64 n2), (.int .i64 n3)] ∧ I n2 n3 s' ∧ μ n2 n3 s' < μ n20 n30 s
theorem L_ref07_power_0_rule (W : World) (R : Ending → Hp → Prop) (zn0 : Int) (I : Int → Int → Hp → Prop) (μ : Int → Int → Hp → Nat) (n20 : Int) (n30 : Int) (s : Hp) (h0 : I n20 n30 s)
    (hr : ∀ (n2 : Int) (n3 : Int) (s : Hp), I n2 n3 s → B_ref07_power_0 W R zn0 n2 n3 (fun vs => N_ref07_power_0 I μ n2 n3 s vs) s) : L_ref07_power_0 W R zn0 n20 n30 s := by
  refine ⟨fun vs s => ∃ n2 n3, vs = [(.int .i64 n2), (.int .i64 n3)] ∧ I n2 n3 s, fun vs s => (match vs with | [.int _ n2, .int _ n3] => μ n2 n3 s | _ => 0), ⟨⟨⟨_, rfl⟩, ⟨⟨_, rfl⟩, trivial⟩⟩, ⟨_, _, rfl, h0⟩⟩, ?_⟩
  intro n2 n3 s hI j
  obtain ⟨n2', n3', hy, hI⟩ := hI
  have hI' : I n2 n3 s := by cases hy; exact hI
  have hh := hr n2 n3 s hI'
  rw [← B_ref07_power_0_eq W R zn0 n2 n3 _ j] at hh
  refine vc_mono ?_ _ _ hh
  exact KLoop_mono (fun vs s' h => by obtain ⟨n21, n31, rfl, h1, h2⟩ := h; exact ⟨⟨⟨_, rfl⟩, ⟨⟨_, rfl⟩, trivial⟩⟩, ⟨_, _, rfl, h1⟩, h2⟩)
def T_ref07_power (W : World) (n1 : Int) (R : Ending → Hp → Prop) : Hp → Prop :=
 L_ref07_power_0 W R n1 1 0
theorem T_ref07_power_eq (W : World) (n1 : Int) (R : Ending → Hp → Prop) : vfun Pg W an_50 Try.f50 [(.int .i64 n1)] R = T_ref07_power W n1 R := by kernel_rfl
theorem does_ref07_power (W : World) (n1 : Int) (R : Ending → Hp → Prop) (s : Hp) (h : T_ref07_power W n1 R s) : Does Pg W F_ref07_power #[(.int .i64 n1)] s R :=
  does_of_vfun Pg W an_50 Try.func50 rfl (by kernel_rfl) (by rw [T_ref07_power_eq]; exact h)
end Go.Proofs.Ytknpmijgdfeliaa.G
