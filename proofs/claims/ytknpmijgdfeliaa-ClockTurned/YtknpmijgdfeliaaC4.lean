import Derived.Test.YtknpmijgdfeliaaC3
/- Lemmas: contracts over the visible heap, and that they are sound; no condition. -/
/- Clock: the document's view of whether a clock is valid. -/
set_option linter.unusedSimpArgs false
set_option linter.unusedVariables false
set_option maxRecDepth 20000
namespace Go.Proofs.Ytknpmijgdfeliaa.G
open Go.V
section
variable {W : World} {K : VK} {E : List PanicEntry → Hp → Prop} {s : Hp} {c : Clk} {x y z : Option Addr} {c1 c2 c3 : Nat}
theorem f_Clock (hc : ClV s c x y z) (h : ∀ s', Ext s s' → K (.bool (okC c)) s') : CALL Pg W F_ref07_Clock [clkV c x y z c1 c2 c3] K E s := by
  unfold clkV
  refine does_ref07_Clock W x _ c1 c.n y _ c2 z _ c3 _ s ?_
  unfold T_ref07_Clock
  refine ne4 fun s1 e1 z1 o1 o2 o3 o4 => ⟨_, _, _, o1.cell, ?_⟩
  have hX : ∀ t, Ext s1 t → ClV t c x y z := fun t e => hc.ext (e1.trans e)
  have no : okC c = false → ∀ t, Ext s1 t → K (.bool false) t := fun hn t e => by have := h t (e1.trans e); rw [hn] at this; exact this
  -- the links
  have h2 : ∀ t, Ext s1 t → sizesC c = true → c.ws.any badW = false → c.rs.any (badR c) = false → L_ref07_Clock_2 W (endK K E) ⟨s.size, 0, none⟩ false 0 t := by
    intro t et hs hw hr
    have hsz := of_decide_eq_true hs
    refine L_ref07_Clock_2_rule W _ ⟨s.size, 0, none⟩ (fun _ n u => Ext s1 u ∧ ∃ k : Nat, n = k ∧ k ≤ c.ls.length ∧ ∀ i (hi : i < c.ls.length), i < k → badL c c.ls[i] = false) (fun _ n _ => ((c.ls.length : Int) - n).toNat) false 0 t ⟨et, 0, rfl, Nat.zero_le _, fun i _ h => by omega⟩ ?_
    rintro b n u ⟨eu, k, rfl, hk, hno⟩
    generalize hnx : (fun vs => N_ref07_Clock_2 _ _ b (k : Int) u vs) = nx
    unfold B_ref07_Clock_2
    refine ⟨_, _, _, (eu.own o4).cell, ?_⟩
    refine BR_dec (fun hlt => ?_) (fun hge => ?_)
    rotate_left
    · have hh := h u (e1.trans eu)
      have : okC c = true := by unfold okC; rw [hs, hw, hr, any_no fun i hi => hno i hi (by omega)]; rfl
      rw [this] at hh; exact hh
    have hkl : k < c.ls.length := by omega
    have hgo : ∀ t', Ext u t' → badL c c.ls[k] = false → nx [.bool b, .int .i64 (IntKind.wrap .i64 ((k : Int) + 1))] t' := fun t' e hb => by
      rw [← hnx]
      refine ⟨_, _, rfl, ⟨eu.trans e, k + 1, wrap_succ (by omega), hkl, fun i hi hik => ?_⟩, ms_succ hkl (by omega)⟩
      by_cases e : i = k
      · subst e; exact hb
      · exact hno i hi (by omega)
    clear hnx
    have hbad : badL c c.ls[k] = true → ∀ t, Ext s1 t → K (.bool false) t := fun hb => no (by unfold okC; rw [idx_find hkl hb]; simp)
    obtain ⟨a, hx0, g1, g2, g3, g4⟩ := (hX u eu).ls k hkl
    generalize c.ls[k] = w at *
    subst hx0
    refine ⟨_, _, _, (eu.own o4).cell, IXS_nat hkl ⟨_, g1, ⟨_, g2, ⟨_, g3, ⟨_, g4, ?_⟩⟩⟩⟩⟩
    refine nw4 zc_63 rfl rfl rfl rfl fun u1 f1 y1 p1 p2 p3 p4 => ?_
    have eu1 := eu.trans f1
    refine ⟨_, _, _, (eu1.own o1).cell, ⟨_, (eu1.own o2).cell, ⟨_, _, _, (eu1.own o3).cell, ⟨_, _, _, (eu1.own o4).cell, ⟨_, p1.cell, ?_⟩⟩⟩⟩⟩
    have hJ7 : ∀ q t', Ext u1 t' → q = (!(decide (0 ≤ w.a ∧ w.a < c.n)) || !(decide (0 ≤ w.b ∧ w.b < c.n)) || decide (w.a = w.b)) → J_ref07_Clock_7 W (endK K E) q u.size ⟨s.size, 0, none⟩ nx b (k : Nat) t' := by
      intro q t' e' hq
      unfold J_ref07_Clock_7
      refine BR_bool (fun ht => ?_) (fun hf => ?_)
      · exact hbad (by unfold badL; rw [← hq, ht]; rfl) t' (eu1.trans e')
      · refine ⟨_, (e'.own p3).cell, ⟨_, (e'.own p4).cell, ?_⟩⟩
        refine f_span fun t2 e2 => ?_
        try simp only [TUP_mk, AGG_mk, HD_mk, NL_mk, TYI_mk, TYB_mk, TYP_mk, TYL_mk, TYS_mk, TYM_mk, SO_mk, NX_mk, endK_mk, endK_mk', add_0]
        have hbl : badL c w = !(decide (-600 ≤ w.lo ∧ w.lo ≤ w.hi ∧ w.hi ≤ 600)) := by unfold badL; rw [← hq, hf]; rfl
        refine BR_not (fun h0 => ?_) (fun h1 => ?_)
        · exact hbad (by rw [hbl, h0]; rfl) t2 ((eu1.trans e').trans e2)
        · try simp only [TUP_mk, AGG_mk, HD_mk, NL_mk, TYI_mk, TYB_mk, TYP_mk, TYL_mk, TYS_mk, TYM_mk, SO_mk, NX_mk, endK_mk, endK_mk', add_0]
          exact hgo t2 ((f1.trans e').trans e2) (by rw [hbl, h1]; rfl)
    have hJ8 : ∀ q t', Ext u1 t' → q = (!(decide (0 ≤ w.a ∧ w.a < c.n)) || !(decide (0 ≤ w.b ∧ w.b < c.n))) → J_ref07_Clock_8 W (endK K E) q u.size ⟨s.size, 0, none⟩ nx b (k : Nat) t' := by
      intro q t' e' hq
      unfold J_ref07_Clock_8
      refine BR_bool (fun ht => ?_) (fun hf => ?_)
      · refine hJ7 true t' e' ?_
        rw [← hq, ht]; rfl
      · refine ⟨_, (e'.own p1).cell, ⟨_, (e'.own p2).cell, ?_⟩⟩
        refine hJ7 _ t' e' ?_
        rw [← hq, hf]
        by_cases e : w.a = w.b <;> simp [e]
    refine f_Event ⟨hsz.2.1, hsz.2.2.1⟩ fun u2 f2 => ?_
    try simp only [TUP_mk, AGG_mk, HD_mk, NL_mk, TYI_mk, TYB_mk, TYP_mk, TYL_mk, TYS_mk, TYM_mk, SO_mk, NX_mk, endK_mk, endK_mk', add_0]
    have eu2 := eu1.trans f2
    refine BR_not (fun h0 => ?_) (fun h1 => ?_)
    · refine hJ8 true u2 f2 ?_
      rw [h0]; rfl
    · refine ⟨_, _, _, (eu2.own o1).cell, ⟨_, (eu2.own o2).cell, ⟨_, _, _, (eu2.own o3).cell, ⟨_, _, _, (eu2.own o4).cell, ⟨_, (f2.own p2).cell, ?_⟩⟩⟩⟩⟩
      refine f_Event ⟨hsz.2.1, hsz.2.2.1⟩ fun u3 f3 => ?_
      try simp only [TUP_mk, AGG_mk, HD_mk, NL_mk, TYI_mk, TYB_mk, TYP_mk, TYL_mk, TYS_mk, TYM_mk, SO_mk, NX_mk, endK_mk, endK_mk', add_0]
      refine hJ8 _ u3 (f2.trans f3) ?_
      rw [h1]; rfl
  -- the readings
  have hR : ∀ t, Ext s1 t → sizesC c = true → c.ws.any badW = false → L_ref07_Clock_1 W (endK K E) ⟨s.size, 0, none⟩ false 0 t := by
    intro t et hs hw
    have hsz := of_decide_eq_true hs
    refine L_ref07_Clock_1_rule W _ ⟨s.size, 0, none⟩ (fun b n u => b = false ∧ Ext s1 u ∧ ∃ k : Nat, n = k ∧ k ≤ c.rs.length ∧ ∀ i (hi : i < c.rs.length), i < k → badR c c.rs[i] = false) (fun _ n _ => ((c.rs.length : Int) - n).toNat) false 0 t ⟨rfl, et, 0, rfl, Nat.zero_le _, fun i _ h => by omega⟩ ?_
    rintro b n u ⟨rfl, eu, k, rfl, hk, hno⟩
    generalize hnx : (fun vs => N_ref07_Clock_1 _ _ false (k : Int) u vs) = nx
    unfold B_ref07_Clock_1
    refine ⟨_, _, _, (eu.own o3).cell, ?_⟩
    refine BR_dec (fun hlt => ?_) (fun hge => ?_)
    rotate_left
    · exact h2 u eu hs hw (any_no fun i hi => hno i hi (by omega))
    have hkl : k < c.rs.length := by omega
    have hgo : ∀ t', Ext u t' → badR c c.rs[k] = false → nx [.bool false, .int .i64 (IntKind.wrap .i64 ((k : Int) + 1))] t' := fun t' e hb => by
      rw [← hnx]
      refine ⟨_, _, rfl, ⟨rfl, eu.trans e, k + 1, wrap_succ (by omega), hkl, fun i hi hik => ?_⟩, ms_succ hkl (by omega)⟩
      by_cases e : i = k
      · subst e; exact hb
      · exact hno i hi (by omega)
    clear hnx
    have hbad : badR c c.rs[k] = true → ∀ t, Ext s1 t → K (.bool false) t := fun hb => no (by unfold okC; rw [idx_find hkl hb]; simp)
    obtain ⟨a, hx0, g1, g2, g3⟩ := (hX u eu).rs k hkl
    generalize c.rs[k] = w at *
    subst hx0
    refine ⟨_, _, _, (eu.own o3).cell, IXS_nat hkl ⟨_, g1, ⟨_, g2, ⟨_, g3, ?_⟩⟩⟩⟩
    refine nw3 zc_61 rfl rfl rfl fun u1 f1 y1 p1 p2 p3 => ?_
    have eu1 := eu.trans f1
    refine ⟨_, _, _, (eu1.own o1).cell, ⟨_, (eu1.own o2).cell, ⟨_, _, _, (eu1.own o3).cell, ⟨_, _, _, (eu1.own o4).cell, ⟨_, p1.cell, ?_⟩⟩⟩⟩⟩
    have hJ6 : ∀ q t', Ext u1 t' → q = (!(decide (0 ≤ w.ev ∧ w.ev < c.n)) || !(decide (0 ≤ w.wa ∧ w.wa < c.ws.length))) → J_ref07_Clock_6 W (endK K E) q u.size ⟨s.size, 0, none⟩ nx false (k : Nat) t' := by
      intro q t' e' hq
      unfold J_ref07_Clock_6
      refine BR_bool (fun ht => ?_) (fun hf => ?_)
      · exact hbad (by unfold badR; rw [← hq, ht]; rfl) t' (eu1.trans e')
      · refine ⟨_, (e'.own p3).cell, ?_⟩
        refine f_in ?_
        try simp only [TUP_mk, AGG_mk, HD_mk, NL_mk, TYI_mk, TYB_mk, TYP_mk, TYL_mk, TYS_mk, TYM_mk, SO_mk, NX_mk, endK_mk, endK_mk', add_0]
        have hbl : badR c w = !(decide (0 ≤ w.sh ∧ w.sh ≤ 2000)) := by unfold badR; rw [← hq, hf]; rfl
        refine BR_not (fun h0 => ?_) (fun h1 => ?_)
        · exact hbad (by rw [hbl, h0]; rfl) t' (eu1.trans e')
        · try simp only [TUP_mk, AGG_mk, HD_mk, NL_mk, TYI_mk, TYB_mk, TYP_mk, TYL_mk, TYS_mk, TYM_mk, SO_mk, NX_mk, endK_mk, endK_mk', add_0]
          exact hgo t' (f1.trans e') (by rw [hbl, h1]; rfl)
    refine f_Event ⟨hsz.2.1, hsz.2.2.1⟩ fun u2 f2 => ?_
    try simp only [TUP_mk, AGG_mk, HD_mk, NL_mk, TYI_mk, TYB_mk, TYP_mk, TYL_mk, TYS_mk, TYM_mk, SO_mk, NX_mk, endK_mk, endK_mk', add_0]
    have eu2 := eu1.trans f2
    refine BR_not (fun h0 => ?_) (fun h1 => ?_)
    · refine hJ6 true u2 f2 ?_
      rw [h0]; rfl
    · refine ⟨_, _, _, (eu2.own o1).cell, ⟨_, (eu2.own o2).cell, ⟨_, _, _, (eu2.own o3).cell, ⟨_, _, _, (eu2.own o4).cell, ⟨_, (f2.own p2).cell, ?_⟩⟩⟩⟩⟩
      refine f_Watch (by omega) fun u3 f3 => ?_
      try simp only [TUP_mk, AGG_mk, HD_mk, NL_mk, TYI_mk, TYB_mk, TYP_mk, TYL_mk, TYS_mk, TYM_mk, SO_mk, NX_mk, endK_mk, endK_mk', add_0]
      refine hJ6 _ u3 (f2.trans f3) ?_
      rw [h1]; rfl
  -- the watches
  have hW : ∀ t, Ext s1 t → sizesC c = true → L_ref07_Clock_0 W (endK K E) ⟨s.size, 0, none⟩ false 0 t := by
    intro t et hs
    have hsz := of_decide_eq_true hs
    refine L_ref07_Clock_0_rule W _ ⟨s.size, 0, none⟩ (fun b n u => b = false ∧ Ext s1 u ∧ ∃ k : Nat, n = k ∧ k ≤ c.ws.length ∧ ∀ i (hi : i < c.ws.length), i < k → badW c.ws[i] = false) (fun _ n _ => ((c.ws.length : Int) - n).toNat) false 0 t ⟨rfl, et, 0, rfl, Nat.zero_le _, fun i _ h => by omega⟩ ?_
    rintro b n u ⟨rfl, eu, k, rfl, hk, hno⟩
    generalize hnx : (fun vs => N_ref07_Clock_0 _ _ false (k : Int) u vs) = nx
    unfold B_ref07_Clock_0
    refine ⟨_, _, _, (eu.own o1).cell, ?_⟩
    refine BR_dec (fun hlt => ?_) (fun hge => ?_)
    rotate_left
    · exact hR u eu hs (any_no fun i hi => hno i hi (by omega))
    have hkl : k < c.ws.length := by omega
    have hgo : ∀ t', Ext u t' → badW c.ws[k] = false → nx [.bool false, .int .i64 (IntKind.wrap .i64 ((k : Int) + 1))] t' := fun t' e hb => by
      rw [← hnx]
      refine ⟨_, _, rfl, ⟨rfl, eu.trans e, k + 1, wrap_succ (by omega), hkl, fun i hi hik => ?_⟩, ms_succ hkl (by omega)⟩
      by_cases e : i = k
      · subst e; exact hb
      · exact hno i hi (by omega)
    clear hnx
    have hbad : badW c.ws[k] = true → ∀ t, Ext s1 t → K (.bool false) t := fun hb => no (by unfold okC; rw [idx_find hkl hb]; simp)
    obtain ⟨a, hx0, g1, g2, g3, g4⟩ := (hX u eu).ws k hkl
    generalize c.ws[k] = w at *
    subst hx0
    rw [← addr_add (m := 2) (n := 1)] at g4
    refine ⟨_, _, _, (eu.own o1).cell, IXS_nat hkl ⟨_, g1, ⟨_, g2, ⟨_, _, _, (eu.own o1).cell, IXS_nat hkl ⟨_, g3, ⟨_, g4, ?_⟩⟩⟩⟩⟩⟩
    have hJ3 : ∀ q b2 t' B, Ext u t' → Own t' ⟨B, 0, none⟩ (.int .i64 w.rlo) → Own t' ⟨B, 1, none⟩ (.int .i64 w.rhi) → q = (!(decide (0 ≤ w.zlo ∧ w.zlo ≤ w.zhi ∧ w.zhi ≤ 1000 ∧ w.zhi - w.zlo ≤ 6)) || b2) → b2 = !(decide (900 ≤ w.rlo ∧ w.rlo ≤ w.rhi ∧ w.rhi ≤ 1100)) → J_ref07_Clock_3 W (endK K E) q (some ⟨B, 0, none⟩) ⟨s.size, 0, none⟩ nx false (k : Nat) t' := by
      intro q b2 t' B e' q1 q2 hq hb2
      unfold J_ref07_Clock_3
      refine BR_bool (fun ht => ?_) (fun hf => ?_)
      · exact hbad (by unfold badW; rw [← hb2, ← hq, ht]; rfl) t' (eu.trans e')
      · refine ⟨_, q2.cell, ⟨_, q1.cell, ?_⟩⟩
        have hf2 : b2 = false := by rw [hf] at hq; revert hq; cases b2 <;> simp
        rw [hf2] at hb2
        have hrr : 900 ≤ w.rlo ∧ w.rlo ≤ w.rhi ∧ w.rhi ≤ 1100 := by simpa using hb2
        have hbl : badW w = decide (4 < w.rhi - w.rlo) := by unfold badW; rw [← hb2, ← hf2, ← hq, hf]; rfl
        dsimp only
        rw [wrap_i64 (by omega) (by omega)]
        refine BR_dec (fun h0 => ?_) (fun h1 => ?_)
        · exact hbad (by rw [hbl]; exact decide_eq_true h0) t' (eu.trans e')
        · try simp only [TUP_mk, AGG_mk, HD_mk, NL_mk, TYI_mk, TYB_mk, TYP_mk, TYL_mk, TYS_mk, TYM_mk, SO_mk, NX_mk, endK_mk, endK_mk', add_0]
          exact hgo t' e' (by rw [hbl]; exact decide_eq_false h1)
    have hJ4 : ∀ q t' B, Ext u t' → Own t' ⟨B, 0, none⟩ (.int .i64 w.rlo) → Own t' ⟨B, 1, none⟩ (.int .i64 w.rhi) → q = !(decide (0 ≤ w.zlo ∧ w.zlo ≤ w.zhi ∧ w.zhi ≤ 1000 ∧ w.zhi - w.zlo ≤ 6)) → J_ref07_Clock_4 W (endK K E) q (some ⟨B, 0, none⟩) ⟨s.size, 0, none⟩ nx false (k : Nat) t' := by
      intro q t' B e' q1 q2 hq
      unfold J_ref07_Clock_4
      refine BR_bool (fun ht => ?_) (fun hf => ?_)
      · refine hJ3 true _ t' B e' q1 q2 ?_ rfl
        rw [← hq, ht]; rfl
      · refine ⟨_, q1.cell, ⟨_, q2.cell, ?_⟩⟩
        refine f_span fun t2 e2 => ?_
        try simp only [TUP_mk, AGG_mk, HD_mk, NL_mk, TYI_mk, TYB_mk, TYP_mk, TYL_mk, TYS_mk, TYM_mk, SO_mk, NX_mk, endK_mk, endK_mk', add_0]
        refine hJ3 _ _ t2 B (e'.trans e2) (e2.own q1) (e2.own q2) ?_ rfl
        rw [← hq, hf]; rfl
    have hJ5 : ∀ t' A B, Ext u t' → Own t' ⟨A, 0, none⟩ (.int .i64 w.zlo) → Own t' ⟨A, 1, none⟩ (.int .i64 w.zhi) → Own t' ⟨B, 0, none⟩ (.int .i64 w.rlo) → Own t' ⟨B, 1, none⟩ (.int .i64 w.rhi) → J_ref07_Clock_5 W (endK K E) (some ⟨A, 0, none⟩) (some ⟨B, 0, none⟩) ⟨s.size, 0, none⟩ nx false (k : Nat) t' := by
      intro t' A B e' r1 r2 q1 q2
      unfold J_ref07_Clock_5
      refine ⟨_, r1.cell, ⟨_, r2.cell, ?_⟩⟩
      refine f_span fun t2 e2 => ?_
      try simp only [TUP_mk, AGG_mk, HD_mk, NL_mk, TYI_mk, TYB_mk, TYP_mk, TYL_mk, TYS_mk, TYM_mk, SO_mk, NX_mk, endK_mk, endK_mk', add_0]
      refine BR_not (fun h0 => ?_) (fun h1 => ?_)
      · have hz := of_decide_eq_false h0
        refine hJ4 true t2 B (e'.trans e2) (e2.own q1) (e2.own q2) ?_
        rw [decide_eq_false (by omega)]; rfl
      · have hz := of_decide_eq_true h1
        refine ⟨_, (e2.own r2).cell, ⟨_, (e2.own r1).cell, ?_⟩⟩
        refine hJ4 _ t2 B (e'.trans e2) (e2.own q1) (e2.own q2) ?_
        rw [wrap_i64 (by omega) (by omega)]
        by_cases h6 : w.zhi - w.zlo ≤ 6
        · rw [decide_eq_true (show 0 ≤ w.zlo ∧ w.zlo ≤ w.zhi ∧ w.zhi ≤ 1000 ∧ w.zhi - w.zlo ≤ 6 by omega)]
          exact decide_eq_false (by omega)
        · rw [decide_eq_false (show ¬ (0 ≤ w.zlo ∧ w.zlo ≤ w.zhi ∧ w.zhi ≤ 1000 ∧ w.zhi - w.zlo ≤ 6) by omega)]
          exact decide_eq_true (by omega)
    have A1 : ∀ t', Ext u t' → (RDI .i64 (Addr.add (Addr.add (a.add (k * 4)) 2) 0) fun n97 => RDI .i64 (Addr.add (Addr.add (a.add (k * 4)) 2) 1) fun n98 => fun _ => ((.agg #[(.int .i64 n97), (.int .i64 n98)]) : Value) = (.agg #[(.int .i64 w.rlo), (.int .i64 w.rhi)])) t' := fun t' e => ⟨_, e.cell g3, ⟨_, e.cell g4, rfl⟩⟩
    have A2 : ∀ t', Ext u t' → (RDL (Addr.add ⟨s.size, 0, none⟩ 0) fun x99 l100 c101 => fun _ => ((.slice x99 l100 c101) : Value) = (.slice (some a) c.ws.length c1)) t' := fun t' e => ⟨_, _, _, ((eu.trans e).own o1).cell, rfl⟩
    have A3 : ∀ t', Ext u t' → (RDI .i64 (Addr.add (Addr.add (a.add (k * 4)) 0) 0) fun n97 => RDI .i64 (Addr.add (Addr.add (a.add (k * 4)) 0) 1) fun n98 => fun _ => ((.agg #[(.int .i64 n97), (.int .i64 n98)]) : Value) = (.agg #[(.int .i64 w.zlo), (.int .i64 w.zhi)])) t' := fun t' e => ⟨_, e.cell g1, ⟨_, e.cell g2, rfl⟩⟩
    refine CONJ_two ?_ ?_
    · refine nz2 zc_34 fun u1 f1 y1 b1 b2 => ?_
      refine ANDS_i (A1 u1 f1) (ANDS_i (A2 u1 f1) (ANDS_i (A3 u1 f1) (ANDS_i (A2 u1 f1) ?_)))
      refine nz2 zc_34 fun u2 f2 y2 d1 d2 => ?_
      have f12 := f1.trans f2
      refine ANDS_i (A1 u2 f12) (ANDS_i (A2 u2 f12) (ANDS_i (A3 u2 f12) (ANDS_i (A2 u2 f12) ?_)))
      refine wrB (f2.own b1) (f2.own b2) rfl rfl fun u3 k3 y3 b1' b2' => ?_
      have f3 : Ext u u3 := ext_kp f12 (Nat.le_refl _) k3
      refine ANDS_i (A1 u3 f3) (ANDS_i (A2 u3 f3) ?_)
      have n1 : ¬ u1.size = u.size := by omega
      refine wrB (k3.own n1 d1) (k3.own n1 d2) rfl rfl fun u4 k4 y4 d1' d2' => ?_
      have n2 : ¬ u.size = u1.size := by omega
      exact hJ5 u4 _ _ (ext_kp f3 (by omega) k4) (k4.own n2 b1') (k4.own n2 b2') d1' d2'
    · refine nz2 zc_34 fun u1 f1 y1 d1 d2 => ?_
      refine ANDS_i (A1 u1 f1) (ANDS_i (A2 u1 f1) (ANDS_i (A3 u1 f1) (ANDS_i (A2 u1 f1) ?_)))
      refine nz2 zc_34 fun u2 f2 y2 b1 b2 => ?_
      have f12 := f1.trans f2
      refine ANDS_i (A1 u2 f12) (ANDS_i (A2 u2 f12) (ANDS_i (A3 u2 f12) (ANDS_i (A2 u2 f12) ?_)))
      refine wrB b1 b2 rfl rfl fun u3 k3 y3 b1' b2' => ?_
      have f3 : Ext u u3 := ext_kp f12 (by omega) k3
      refine ANDS_i (A1 u3 f3) (ANDS_i (A2 u3 f3) ?_)
      have n1 : ¬ u.size = u1.size := by omega
      refine wrB (k3.own n1 (f2.own d1)) (k3.own n1 (f2.own d2)) rfl rfl fun u4 k4 y4 d1' d2' => ?_
      have n2 : ¬ u1.size = u.size := by omega
      exact hJ5 u4 _ _ (ext_kp f3 (by omega) k4) (k4.own n2 b1') (k4.own n2 b2') d1' d2'
  have hJ0 : ∀ q t, Ext s1 t → q = !(sizesC c) → J_ref07_Clock_0 W (endK K E) q s.size t := by
    intro q t et hq
    unfold J_ref07_Clock_0
    refine BR_bool (fun ht => ?_) (fun hf => ?_)
    · have : sizesC c = false := by rw [ht] at hq; revert hq; cases sizesC c <;> simp
      exact no (by unfold okC; rw [this]; rfl) t et
    · have : sizesC c = true := by rw [hf] at hq; revert hq; cases sizesC c <;> simp
      exact hW t et this
  have hJ1 : ∀ q t, Ext s1 t → q = !(decide (c.ws.length ≤ 2 ∧ 0 ≤ c.n ∧ c.n ≤ 5 ∧ c.rs.length ≤ 8)) → J_ref07_Clock_1 W (endK K E) q s.size t := by
    intro q t et hq
    unfold J_ref07_Clock_1
    refine BR_bool (fun ht => ?_) (fun hf => ?_)
    · rw [ht] at hq
      have h4 : ¬ (c.ws.length ≤ 2 ∧ 0 ≤ c.n ∧ c.n ≤ 5 ∧ c.rs.length ≤ 8) := fun hh => by rw [decide_eq_true hh] at hq; cases hq
      refine hJ0 true t et ?_
      unfold sizesC
      rw [decide_eq_false (by omega)]; rfl
    · rw [hf] at hq
      have h4 : c.ws.length ≤ 2 ∧ 0 ≤ c.n ∧ c.n ≤ 5 ∧ c.rs.length ≤ 8 := by simpa using hq
      refine ⟨_, _, _, (et.own o4).cell, ?_⟩
      refine hJ0 _ t et ?_
      unfold sizesC
      by_cases h5 : c.ls.length ≤ 5
      · rw [decide_eq_true (show c.ws.length ≤ 2 ∧ 0 ≤ c.n ∧ c.n ≤ 5 ∧ c.rs.length ≤ 8 ∧ c.ls.length ≤ 5 by omega)]
        exact decide_eq_false (by omega)
      · rw [decide_eq_false (show ¬ (c.ws.length ≤ 2 ∧ 0 ≤ c.n ∧ c.n ≤ 5 ∧ c.rs.length ≤ 8 ∧ c.ls.length ≤ 5) by omega)]
        exact decide_eq_true (by omega)
  have hJ2 : ∀ q t, Ext s1 t → q = !(decide (c.ws.length ≤ 2 ∧ 0 ≤ c.n ∧ c.n ≤ 5)) → J_ref07_Clock_2 W (endK K E) q s.size t := by
    intro q t et hq
    unfold J_ref07_Clock_2
    refine BR_bool (fun ht => ?_) (fun hf => ?_)
    · rw [ht] at hq
      have h4 : ¬ (c.ws.length ≤ 2 ∧ 0 ≤ c.n ∧ c.n ≤ 5) := fun hh => by rw [decide_eq_true hh] at hq; cases hq
      refine hJ1 true t et ?_
      rw [decide_eq_false (by omega)]; rfl
    · rw [hf] at hq
      have h4 : c.ws.length ≤ 2 ∧ 0 ≤ c.n ∧ c.n ≤ 5 := by simpa using hq
      refine ⟨_, _, _, (et.own o3).cell, ?_⟩
      refine hJ1 _ t et ?_
      by_cases h5 : c.rs.length ≤ 8
      · rw [decide_eq_true (show c.ws.length ≤ 2 ∧ 0 ≤ c.n ∧ c.n ≤ 5 ∧ c.rs.length ≤ 8 by omega)]
        exact decide_eq_false (by omega)
      · rw [decide_eq_false (show ¬ (c.ws.length ≤ 2 ∧ 0 ≤ c.n ∧ c.n ≤ 5 ∧ c.rs.length ≤ 8) by omega)]
        exact decide_eq_true (by omega)
  refine BR_dec (fun h1 => ?_) (fun h1 => ?_)
  · refine hJ2 true s1 (Ext.refl _) ?_
    rw [decide_eq_false (by omega)]; rfl
  · refine ⟨_, o2.cell, ?_⟩
    refine f_in ?_
    try simp only [TUP_mk, AGG_mk, HD_mk, NL_mk, TYI_mk, TYB_mk, TYP_mk, TYL_mk, TYS_mk, TYM_mk, SO_mk, NX_mk, endK_mk, endK_mk', add_0]
    refine hJ2 _ s1 (Ext.refl _) ?_
    congr 1
    congr 1; apply propext; omega
end
end Go.Proofs.Ytknpmijgdfeliaa.G

/- Clock: plain: the document's examples. -/
set_option linter.unusedSimpArgs false
set_option linter.unusedVariables false
set_option maxRecDepth 20000
namespace Go.Proofs.Ytknpmijgdfeliaa.G
open Go.V
def CL (last : Int) : Clk := ⟨[⟨0, 0, 1000, 1000⟩, ⟨5, 6, 998, 1002⟩], 3, [⟨0, 0, 10⟩, ⟨1, 1, 66⟩, ⟨2, 0, 130⟩, ⟨2, 1, last⟩], [⟨0, 1, 40, 60⟩, ⟨1, 2, 60, 70⟩]⟩
theorem cl_ok : okC (CL 136) = true ∧ okC (CL 140) = true := by decide
theorem cl_goes {l : Int} {g : List Go'} (h : GoesOk (CL l).ws g) : ∃ z r, g = [(0, 1000), (z, r)] ∧ (z = 5 ∨ z = 6) ∧ (r = 998 ∨ r = 999 ∨ r = 1000 ∨ r = 1001 ∨ r = 1002) := by
  cases h with
  | cons h t =>
    rename_i g0 gs
    cases t with
    | cons h2 t2 =>
      rename_i g1 gs2
      cases t2
      obtain ⟨a, b⟩ := g0
      obtain ⟨z, r⟩ := g1
      obtain ⟨x1, x2, x3, x4⟩ := h
      obtain ⟨y1, y2, y3, y4⟩ := h2
      simp only at x1 x2 x3 x4 y1 y2 y3 y4
      have e1 : a = 0 := by omega
      have e2 : b = 1000 := by omega
      subst e1; subst e2
      exact ⟨z, r, rfl, by omega, by omega⟩
theorem cl_mk {l z r : Int} (hz : z = 5 ∨ z = 6) (hr : 998 ≤ r ∧ r ≤ 1002) : GoesOk (CL l).ws [(0, 1000), (z, r)] :=
  .cons ⟨by decide, by decide, by decide, by decide⟩ (.cons ⟨by show 5 ≤ z; omega, by show z ≤ 6; omega, hr.1, hr.2⟩ .nil)
theorem cl_truth {l : Int} {S : Nat} {g : List Go'} {m : Int → Int} (h : Truth (CL l) S g m) : ∃ z r, g = [(0, 1000), (z, r)] ∧ (z = 5 ∨ z = 6) ∧ (r = 998 ∨ r = 999 ∨ r = 1000 ∨ r = 1001 ∨ r = 1002) ∧
    (0 ≤ m 0 ∧ m 0 ≤ 600) ∧ (0 ≤ m 1 ∧ m 1 ≤ 600) ∧ (0 ≤ m 2 ∧ m 2 ≤ 600) ∧ (S.testBit 0 = true → m 0 = 10) ∧ (S.testBit 1 = true → z + m 1 * r / 1000 = 66) ∧ (S.testBit 2 = true → m 2 = 130) ∧ (S.testBit 3 = true → z + m 2 * r / 1000 = l) ∧
    (40 ≤ m 1 - m 0 ∧ m 1 - m 0 ≤ 60) ∧ (60 ≤ m 2 - m 1 ∧ m 2 - m 1 ≤ 70) := by
  obtain ⟨z, r, rfl, hz, hr⟩ := cl_goes h.goes
  refine ⟨z, r, rfl, hz, hr, h.days 0 (by decide) (show (0 : Int) < 3 by decide), h.days 1 (by decide) (show (1 : Int) < 3 by decide), h.days 2 (by decide) (show (2 : Int) < 3 by decide), fun hb => ?_, fun hb => h.shows 1 (show 1 < 4 by decide) hb, fun hb => ?_, fun hb => h.shows 3 (show 3 < 4 by decide) hb, h.links ⟨0, 1, 40, 60⟩ (by simp [CL]), h.links ⟨1, 2, 60, 70⟩ (by simp [CL])⟩
  · have : 0 + m 0 * 1000 / 1000 = 10 := h.shows 0 (show 0 < 4 by decide) hb
    omega
  · have : 0 + m 2 * 1000 / 1000 = 130 := h.shows 2 (show 2 < 4 by decide) hb
    omega
def mm (a b c : Int) : Int → Int := fun e => if e = 0 then a else if e = 1 then b else if e = 2 then c else 0
theorem cl_made {l z r a b c : Int} {S : Nat} (hz : z = 5 ∨ z = 6) (hr : 998 ≤ r ∧ r ≤ 1002) (ha : 0 ≤ a ∧ a ≤ 600) (hb : 0 ≤ b ∧ b ≤ 600) (hc : 0 ≤ c ∧ c ≤ 600) (s0 : S.testBit 0 = true → a = 10) (s1 : S.testBit 1 = true → z + b * r / 1000 = 66) (s2 : S.testBit 2 = true → c = 130) (s3 : S.testBit 3 = true → z + c * r / 1000 = l)
    (l1 : 40 ≤ b - a ∧ b - a ≤ 60) (l2 : 60 ≤ c - b ∧ c - b ≤ 70) : Truth (CL l) S [(0, 1000), (z, r)] (mm a b c) where
  goes := cl_mk hz hr
  days := fun e h0 h1 => by
    have h1' : e < 3 := h1
    have : e = 0 ∨ e = 1 ∨ e = 2 := by omega
    rcases this with rfl | rfl | rfl
    · exact ha
    · exact hb
    · exact hc
  shows := fun i hi hs => by
    have hi' : i < 4 := hi
    have : i = 0 ∨ i = 1 ∨ i = 2 ∨ i = 3 := by omega
    rcases this with rfl | rfl | rfl | rfl
    · show 0 + a * 1000 / 1000 = 10
      have := s0 hs; omega
    · exact s1 hs
    · show 0 + c * 1000 / 1000 = 130
      have := s2 hs; omega
    · exact s3 hs
  links := fun q hq => by
    simp [CL] at hq
    rcases hq with rfl | rfl
    · exact l1
    · exact l2
theorem ev_15 (l : Int) : everyN (CL l) = 15 := rfl
/-- What is true of the first example. -/
theorem cl_136 {g : List Go'} {m : Int → Int} (h : Truth (CL 136) 15 g m) : m 0 = 10 ∧ m 1 = 60 ∧ m 2 = 130 ∧ ∃ r, 1000 ≤ r ∧ r ≤ 1002 ∧ g = [(0, 1000), (6, r)] := by
  obtain ⟨z, r, rfl, hz, hr, d0, d1, d2, s0, s1, s2, s3, l1, l2⟩ := cl_truth h
  have t0 := s0 (by decide)
  have t1 := s1 (by decide)
  have t2 := s2 (by decide)
  have t3 := s3 (by decide)
  rw [t2] at t3
  rcases hz with rfl | rfl <;> rcases hr with rfl | rfl | rfl | rfl | rfl <;> first | omega | exact ⟨t0, by omega, t2, _, by decide, by decide, rfl⟩
theorem cl_136' {r : Int} (hr : r = 1000 ∨ r = 1001 ∨ r = 1002) : Truth (CL 136) 15 [(0, 1000), (6, r)] (mm 10 60 130) := by
  rcases hr with rfl | rfl | rfl <;> exact cl_made (.inr rfl) (by decide) (by decide) (by decide) (by decide) (fun _ => rfl) (fun _ => by decide) (fun _ => rfl) (fun _ => by decide) (by decide) (by decide)
theorem cl_can : CanC (CL 136) 15 := ⟨_, _, cl_136' (.inl rfl)⟩
theorem cl_140 {S : Nat} (h1 : S.testBit 3 = true) (h2 : S.testBit 2 = true ∨ S.testBit 1 = true) : ¬ CanC (CL 140) S := by
  rintro ⟨g, m, h⟩
  obtain ⟨z, r, rfl, hz, hr, d0, d1, d2, s0, s1, s2, s3, l1, l2⟩ := cl_truth h
  have t3 := s3 h1
  rcases h2 with h2 | h2
  · have t2 := s2 h2
    rw [t2] at t3
    rcases hz with rfl | rfl <;> rcases hr with rfl | rfl | rfl | rfl | rfl <;> omega
  · have t1 := s1 h2
    rcases hz with rfl | rfl <;> rcases hr with rfl | rfl | rfl | rfl | rfl <;> omega
theorem cl_drop7 : CanC (CL 140) 7 := ⟨_, _, cl_made (l := 140) (S := 7) (z := 5) (r := 1000) (a := 10) (b := 61) (c := 130) (.inl rfl) (by decide) (by decide) (by decide) (by decide) (fun _ => rfl) (fun _ => by decide) (fun _ => rfl) (fun h => by revert h; decide) (by decide) (by decide)⟩
theorem cl_wo5 : CanC (CL 140) 5 := ⟨_, _, cl_made (l := 140) (S := 5) (z := 5) (r := 1000) (a := 10) (b := 65) (c := 130) (.inl rfl) (by decide) (by decide) (by decide) (by decide) (fun _ => rfl) (fun h => by revert h; decide) (fun _ => rfl) (fun h => by revert h; decide) (by decide) (by decide)⟩
theorem span_one {c : Clk} {S : Nat} {val : List Go' → (Int → Int) → Int} {lo hi v : Int} (h : SpanC c S val lo hi) (hv : ∀ g m, Truth c S g m → val g m = v) : lo = v ∧ hi = v := by
  obtain ⟨⟨g1, m1, t1, v1⟩, ⟨g2, m2, t2, v2⟩, _⟩ := h
  exact ⟨by rw [← v1]; exact hv _ _ t1, by rw [← v2]; exact hv _ _ t2⟩
theorem qr_good {c : Clk} {is : Bool} {val : List Go' → (Int → Int) → Int} {lo hi err : Int} (h : QR c is val lo hi err) (ho : okC c = true) (hi' : is = true) (hc : CanC c (everyN c)) : SpanC c (everyN c) val lo hi ∧ err = 0 := by
  rcases h with ⟨h1, _⟩ | ⟨_, h1, _⟩ | ⟨_, _, h1, _⟩ | ⟨_, _, _, h1, h2⟩
  · rw [ho] at h1; cases h1
  · rw [hi'] at h1; cases h1
  · exact absurd hc h1
  · exact ⟨h1, h2⟩
theorem at_0 (m : Int → Int) : atM m 0 = m 0 := rfl
theorem at_1 (m : Int → Int) : atM m 1 = m 1 := rfl
theorem at_2 (m : Int → Int) : atM m 2 = m 2 := rfl
theorem at_g (m : Int → Int) : atM m (-1) = 0 := rfl
theorem cl_when1 {lo hi err : Int} (h : QR (CL 136) (decide ((0 : Int) ≤ 1 ∧ (1 : Int) < (CL 136).n)) (laterV (-1) 1) lo hi err) : lo = 60 ∧ hi = 60 ∧ err = 0 := by
  obtain ⟨h1, h2⟩ := qr_good h cl_ok.1 rfl cl_can
  obtain ⟨h3, h4⟩ := span_one (v := 60) h1 fun g m t => by have := cl_136 t; show atM m 1 - atM m (-1) = 60; rw [at_1, at_g]; omega
  exact ⟨h3, h4, h2⟩
theorem cl_when2 {lo hi err : Int} (h : QR (CL 136) (decide ((0 : Int) ≤ 2 ∧ (2 : Int) < (CL 136).n)) (laterV (-1) 2) lo hi err) : lo = 130 ∧ hi = 130 ∧ err = 0 := by
  obtain ⟨h1, h2⟩ := qr_good h cl_ok.1 rfl cl_can
  obtain ⟨h3, h4⟩ := span_one (v := 130) h1 fun g m t => by have := cl_136 t; show atM m 2 - atM m (-1) = 130; rw [at_2, at_g]; omega
  exact ⟨h3, h4, h2⟩
theorem cl_lasted21 {lo hi err : Int} (h : QR (CL 136) (decide ((0 : Int) ≤ 2 ∧ (2 : Int) < (CL 136).n) && decide ((0 : Int) ≤ 1 ∧ (1 : Int) < (CL 136).n)) (laterV 2 1) lo hi err) : lo = -70 ∧ hi = -70 ∧ err = 0 := by
  obtain ⟨h1, h2⟩ := qr_good h cl_ok.1 rfl cl_can
  obtain ⟨h3, h4⟩ := span_one (v := -70) h1 fun g m t => by have := cl_136 t; show atM m 1 - atM m 2 = -70; rw [at_1, at_2]; omega
  exact ⟨h3, h4, h2⟩
theorem cl_lasted01 {lo hi err : Int} (h : QR (CL 136) (decide ((0 : Int) ≤ 0 ∧ (0 : Int) < (CL 136).n) && decide ((0 : Int) ≤ 1 ∧ (1 : Int) < (CL 136).n)) (laterV 0 1) lo hi err) : lo = 50 ∧ hi = 50 ∧ err = 0 := by
  obtain ⟨h1, h2⟩ := qr_good h cl_ok.1 rfl cl_can
  obtain ⟨h3, h4⟩ := span_one (v := 50) h1 fun g m t => by have := cl_136 t; show atM m 1 - atM m 0 = 50; rw [at_1, at_0]; omega
  exact ⟨h3, h4, h2⟩
theorem cl_lasted10 {lo hi err : Int} (h : QR (CL 136) (decide ((0 : Int) ≤ 1 ∧ (1 : Int) < (CL 136).n) && decide ((0 : Int) ≤ 0 ∧ (0 : Int) < (CL 136).n)) (laterV 1 0) lo hi err) : lo = -50 ∧ hi = -50 ∧ err = 0 := by
  obtain ⟨h1, h2⟩ := qr_good h cl_ok.1 rfl cl_can
  obtain ⟨h3, h4⟩ := span_one (v := -50) h1 fun g m t => by have := cl_136 t; show atM m 0 - atM m 1 = -50; rw [at_1, at_0]; omega
  exact ⟨h3, h4, h2⟩
theorem cl_shows {lo hi err : Int} (h : QR (CL 136) (decide ((0 : Int) ≤ 1 ∧ (1 : Int) < (CL 136).ws.length) && decide ((0 : Int) ≤ 0 ∧ (0 : Int) < (CL 136).n)) (showV 1 0) lo hi err) : lo = 16 ∧ hi = 16 ∧ err = 0 := by
  obtain ⟨h1, h2⟩ := qr_good h cl_ok.1 rfl cl_can
  obtain ⟨h3, h4⟩ := span_one (v := 16) h1 fun g m t => by
    obtain ⟨m0, _, _, r, r1, r2, rfl⟩ := cl_136 t
    show 6 + atM m 0 * r / 1000 = 16
    rw [at_0, m0]; omega
  exact ⟨h3, h4, h2⟩
theorem cl_zero {lo hi err : Int} (h : QR (CL 136) (decide ((0 : Int) ≤ 1 ∧ (1 : Int) < (CL 136).ws.length)) (zeroV 1) lo hi err) : lo = 6 ∧ hi = 6 ∧ err = 0 := by
  obtain ⟨h1, h2⟩ := qr_good h cl_ok.1 rfl cl_can
  obtain ⟨h3, h4⟩ := span_one (v := 6) h1 fun g m t => by
    obtain ⟨_, _, _, r, r1, r2, rfl⟩ := cl_136 t
    rfl
  exact ⟨h3, h4, h2⟩
theorem cl_rate {lo hi err : Int} (h : QR (CL 136) (decide ((0 : Int) ≤ 1 ∧ (1 : Int) < (CL 136).ws.length)) (rateV 1) lo hi err) : lo = 1000 ∧ hi = 1002 ∧ err = 0 := by
  obtain ⟨⟨⟨g1, m1, t1, v1⟩, ⟨g2, m2, t2, v2⟩, hall⟩, h2⟩ := qr_good h cl_ok.1 rfl cl_can
  obtain ⟨_, _, _, r, r1, r2, rfl⟩ := cl_136 t1
  obtain ⟨_, _, _, r', r1', r2', rfl⟩ := cl_136 t2
  have a1 : lo ≤ 1000 := (hall _ _ (cl_136' (.inl rfl))).1
  have a2 : 1002 ≤ hi := (hall _ _ (cl_136' (.inr (.inr rfl)))).2
  have b1 : r = lo := v1
  have b2 : r' = hi := v2
  exact ⟨by omega, by omega, h2⟩
theorem cl_first {lo hi err : Int} (h : QR (CL 136) (decide ((0 : Int) ≤ 0 ∧ (0 : Int) < (CL 136).n) && decide ((0 : Int) ≤ 1 ∧ (1 : Int) < (CL 136).n)) (laterV 0 1) lo hi err) : firstN lo hi err = 2 ∧ err = 0 := by
  obtain ⟨rfl, rfl, rfl⟩ := cl_lasted01 h
  exact ⟨by decide, rfl⟩
theorem cl_first' {lo hi err : Int} (h : QR (CL 136) (decide ((0 : Int) ≤ 1 ∧ (1 : Int) < (CL 136).n) && decide ((0 : Int) ≤ 0 ∧ (0 : Int) < (CL 136).n)) (laterV 1 0) lo hi err) : firstN lo hi err = 0 ∧ err = 0 := by
  obtain ⟨rfl, rfl, rfl⟩ := cl_lasted10 h
  exact ⟨by decide, rfl⟩
theorem cl_clash {lo hi err : Int} (h : QR (CL 140) (decide ((0 : Int) ≤ 0 ∧ (0 : Int) < (CL 140).n)) (laterV (-1) 0) lo hi err) : err = 10 := by
  rcases h with ⟨h1, _⟩ | ⟨_, h1, _⟩ | ⟨_, _, _, _, _, h1⟩ | ⟨_, _, h1, _⟩
  · rw [cl_ok.2] at h1; cases h1
  · cases h1
  · exact h1
  · exact absurd h1 (cl_140 (by decide) (.inl (by decide)))
theorem cl_wrong {w err : Int} (h : WrongR (CL 140) w err) : w = 2 ∧ err = 0 := by
  rcases h with ⟨h1, _⟩ | ⟨_, h1, _⟩ | ⟨_, _, h1, n, rfl, hn, hb⟩
  · rw [cl_ok.2] at h1; cases h1
  · exact absurd h1 (cl_140 (by decide) (.inl (by decide)))
  · refine ⟨?_, h1⟩
    have hn4 : n < 4 := hn
    have b0 : ¬ n.testBit 0 = true := fun h => by
      obtain ⟨S, hs, hc⟩ := (hb 0 (show 0 < 2 by decide)).1 h
      exact cl_140 (hs 3 (show 3 < 4 by decide)) (.inr (hs 1 (show 1 < 4 by decide))) hc
    have b1 : n.testBit 1 = true := (hb 1 (show 1 < 2 by decide)).2 ⟨5, fun i hi => by
      have hi' : i < 4 := hi
      have : i = 0 ∨ i = 1 ∨ i = 2 ∨ i = 3 := by omega
      rcases this with rfl | rfl | rfl | rfl <;> rfl, cl_wo5⟩
    have : n = 0 ∨ n = 1 ∨ n = 2 ∨ n = 3 := by omega
    rcases this with rfl | rfl | rfl | rfl
    · revert b1; decide
    · revert b1; decide
    · rfl
    · revert b0; decide
theorem cl_wrong' {w err : Int} (h : WrongR (CL 136) w err) : err = 4 := by
  rcases h with ⟨h1, _⟩ | ⟨_, _, _, h1⟩ | ⟨_, h1, _⟩
  · rw [cl_ok.1] at h1; cases h1
  · exact h1
  · exact absurd cl_can h1
theorem cl_drop {d err : Int} (h : DropR (CL 140) d err) : d = 8 ∧ err = 0 := by
  rcases h with ⟨h1, _⟩ | ⟨_, h1, _⟩ | ⟨_, _, h1, n, rfl, hn, hc, hmin⟩
  · rw [cl_ok.2] at h1; cases h1
  · exact absurd (cl_drop7.congr fun i _ hb => by simp at hb) h1
  · refine ⟨?_, h1⟩
    have hle := hmin 8 (by decide) cl_drop7
    have hn15 : n ≤ 15 := hn
    have hcases : ∀ k : Nat, k ≤ 15 → setLe k 8 → k = 0 ∨ k = 1 ∨ k = 2 ∨ k = 4 ∨ k = 8 := by
      intro k hk
      have h0 : ((List.range 16).all fun (k : Nat) => !(decide (popN k < popN 8 ∨ (popN k = popN 8 ∧ k ≤ 8))) || decide (k = 0 ∨ k = 1 ∨ k = 2 ∨ k = 4 ∨ k = 8)) = true := by decide +kernel
      have h1 := List.all_eq_true.1 h0 k (by simp; omega)
      intro hs
      unfold setLe at hs
      rw [decide_eq_true hs] at h1
      simpa using h1
    rcases hcases n hn15 hle with rfl | rfl | rfl | rfl | rfl
    · exact absurd hc (cl_140 (by decide) (.inl (by decide)))
    · exact absurd hc (cl_140 (by decide) (.inl (by decide)))
    · exact absurd hc (cl_140 (by decide) (.inl (by decide)))
    · exact absurd hc (cl_140 (by decide) (.inr (by decide)))
    · rfl
theorem cl_drop' {d err : Int} (h : DropR (CL 136) d err) : d = 0 ∧ err = 0 := by
  rcases h with ⟨h1, _⟩ | ⟨_, h1, _⟩ | ⟨_, _, h1, n, rfl, hn, hc, hmin⟩
  · rw [cl_ok.1] at h1; cases h1
  · exact absurd (cl_can.congr fun i _ hb => by simp at hb) h1
  · refine ⟨?_, h1⟩
    have hle := hmin 0 (by decide) cl_can
    rcases hle with hle | hle
    · have : popN 0 = 0 := by decide
      omega
    · have := hle.2
      have : n = 0 := by omega
      rw [this]; rfl
end Go.Proofs.Ytknpmijgdfeliaa.G

/- More of the functions' shallow texts, by gen.py. -/
set_option linter.unusedVariables false
set_option maxRecDepth 100000
namespace Go.Proofs.Ytknpmijgdfeliaa.G
open Go.V
def an_9 : Nat → Ann := fun b => match b with
 | 0 => { ms := [7, 27], ks := [.i .i64, .i .i64], us := [1, 2, 3, 6, 25, 26, 61], rt := false, ex := [] }
 | _ => {}
abbrev rv_9 : List ResultVar := [.tmp 6]
abbrev rs_9 : List Nat := [61, 6]
def L_law07_heavy_0 (W : World) (R : Ending → Hp → Prop) (zn0 : Int) (zn1 : Int) (za2 : Addr) (zp3 : Option Addr) (zl4 : Nat) (zl5 : Nat) (zn6 : Int) (n39 : Int) (n40 : Int) : Hp → Prop :=
 LOOPN [.i .i64, .i .i64] (fun ys next s => ∀ j : Tm, vc Pg W 61 rs_9 an_9 false (sub (bodyOf Try.f9) [1, 1, 1, 1, 0, 1, 0, 0]) 0 (KLoop [7, 27] [1, 2, 3, 6, 25, 26, 61] [(.int .i64 zn0), (.int .i64 zn1), (.pointer (some za2)), (.bool false), (.slice zp3 zl4 zl5), (.int .i64 zn6), (.tuple #[])] next (KBlk 0 (KS Pg W 61 rs_9 an_9 false (sub (bodyOf Try.f9) [1, 1, 1, 1, 1]) 0 (fin Pg W 61 rv_9 R)))) (known [7, 27] ys (known [1, 2, 3, 6, 25, 26, 61] [(.int .i64 zn0), (.int .i64 zn1), (.pointer (some za2)), (.bool false), (.slice zp3 zl4 zl5), (.int .i64 zn6), (.tuple #[])] j)) s) [(.int .i64 n39), (.int .i64 n40)]
def B_law07_heavy_0 (W : World) (R : Ending → Hp → Prop) (zn0 : Int) (zn1 : Int) (za2 : Addr) (zp3 : Option Addr) (zl4 : Nat) (zl5 : Nat) (zn6 : Int) (n39 : Int) (n40 : Int) (nx0 : List Value → Hp → Prop) : Hp → Prop :=
 BR (decide (n40 < zn6))
 (IXS zp3 zl4 n40 4 fun a41 =>
 RDI .i64 (Addr.add a41 0) fun n42 =>
 RDI .i64 (Addr.add a41 1) fun n43 =>
 RDI .i64 (Addr.add a41 2) fun n44 =>
 RDI .i64 (Addr.add a41 3) fun n45 =>
 NEWZ Pg 66 fun B46 =>
 WR (Addr.add ⟨B46, 0, none⟩ 0) (.int .i64 n42) <|
 WR (Addr.add ⟨B46, 0, none⟩ 1) (.int .i64 n43) <|
 WR (Addr.add ⟨B46, 0, none⟩ 2) (.int .i64 n44) <|
 WR (Addr.add ⟨B46, 0, none⟩ 3) (.int .i64 n45) <|
 RDI .i64 (Addr.add (Addr.add ⟨B46, 0, none⟩ 0) 1) fun n47 =>
 RDI .i64 (Addr.add (Addr.add ⟨B46, 0, none⟩ 0) 0) fun n48 =>
 RDI .i64 (Addr.add (Addr.add ⟨B46, 0, none⟩ 2) 1) fun n49 =>
 RDI .i64 (Addr.add (Addr.add ⟨B46, 0, none⟩ 2) 0) fun n50 =>
 NX [(.int .i64 zn0), (.int .i64 zn1), (.pointer (some za2)), (.bool false), (.slice zp3 zl4 zl5), (.int .i64 zn6), (.tuple #[])] [(.int .i64 zn0), (.int .i64 zn1), (.pointer (some za2)), (.bool false), (.slice zp3 zl4 zl5), (.int .i64 zn6), (.tuple #[])] (nx0 [(.int .i64 (IntKind.wrap .i64 (n39 * (IntKind.wrap .i64 ((IntKind.wrap .i64 ((IntKind.wrap .i64 (n47 - n48)) + 1)) * (IntKind.wrap .i64 ((IntKind.wrap .i64 (n49 - n50)) + 1))))))), (.int .i64 (IntKind.wrap .i64 (n40 + 1)))]))
 (BR (decide (n39 > zn0))
 (R (.returned (.bool true)))
 (RDL (Addr.add za2 2) fun x51 l52 c53 =>
 R (.returned (.bool (decide ((↑l52 : Int) > zn1))))))
theorem B_law07_heavy_0_eq (W : World) (R : Ending → Hp → Prop) (zn0 : Int) (zn1 : Int) (za2 : Addr) (zp3 : Option Addr) (zl4 : Nat) (zl5 : Nat) (zn6 : Int) (n39 : Int) (n40 : Int) (nx0 : List Value → Hp → Prop) (j : Tm) : vc Pg W 61 rs_9 an_9 false (sub (bodyOf Try.f9) [1, 1, 1, 1, 0, 1, 0, 0]) 0 (KLoop [7, 27] [1, 2, 3, 6, 25, 26, 61] [(.int .i64 zn0), (.int .i64 zn1), (.pointer (some za2)), (.bool false), (.slice zp3 zl4 zl5), (.int .i64 zn6), (.tuple #[])] nx0 (KBlk 0 (KS Pg W 61 rs_9 an_9 false (sub (bodyOf Try.f9) [1, 1, 1, 1, 1]) 0 (fin Pg W 61 rv_9 R)))) (known [7, 27] [(.int .i64 n39), (.int .i64 n40)] (known [1, 2, 3, 6, 25, 26, 61] [(.int .i64 zn0), (.int .i64 zn1), (.pointer (some za2)), (.bool false), (.slice zp3 zl4 zl5), (.int .i64 zn6), (.tuple #[])] j)) = B_law07_heavy_0 W R zn0 zn1 za2 zp3 zl4 zl5 zn6 n39 n40 nx0 := by kernel_rfl
def N_law07_heavy_0 (I : Int → Int → Hp → Prop) (μ : Int → Int → Hp → Nat) (n390 : Int) (n400 : Int) (s : Hp) (vs : List Value) : Hp → Prop := fun s' => ∃ n39 n40, vs = [(.int .i64 n39), (.int .i64 n40)] ∧ I n39 n40 s' ∧ μ n39 n40 s' < μ n390 n400 s
theorem L_law07_heavy_0_rule (W : World) (R : Ending → Hp → Prop) (zn0 : Int) (zn1 : Int) (za2 : Addr) (zp3 : Option Addr) (zl4 : Nat) (zl5 : Nat) (zn6 : Int) (I : Int → Int → Hp → Prop) (μ : Int → Int → Hp → Nat) (n390 : Int) (n400 : Int) (s : Hp) (h0 : I n390 n400 s)
    (hr : ∀ (n39 : Int) (n40 : Int) (s : Hp), I n39 n40 s → B_law07_heavy_0 W R zn0 zn1 za2 zp3 zl4 zl5 zn6 n39 n40 (fun vs => N_law07_heavy_0 I μ n39 n40 s vs) s) : L_law07_heavy_0 W R zn0 zn1 za2 zp3 zl4 zl5 zn6 n390 n400 s := by
  refine ⟨fun vs s => ∃ n39 n40, vs = [(.int .i64 n39), (.int .i64 n40)] ∧ I n39 n40 s, fun vs s => (match vs with | [.int _ n39, .int _ n40] => μ n39 n40 s | _ => 0), ⟨⟨⟨_, rfl⟩, ⟨⟨_, rfl⟩, trivial⟩⟩, ⟨_, _, rfl, h0⟩⟩, ?_⟩
  intro n39 n40 s hI j
  obtain ⟨n39', n40', hy, hI⟩ := hI
  have hI' : I n39 n40 s := by cases hy; exact hI
  have hh := hr n39 n40 s hI'
  rw [← B_law07_heavy_0_eq W R zn0 zn1 za2 zp3 zl4 zl5 zn6 n39 n40 _ j] at hh
  refine vc_mono ?_ _ _ hh
  exact KLoop_mono (fun vs s' h => by obtain ⟨n391, n401, rfl, h1, h2⟩ := h; exact ⟨⟨⟨_, rfl⟩, ⟨⟨_, rfl⟩, trivial⟩⟩, ⟨_, _, rfl, h1⟩, h2⟩)
def T_law07_heavy (W : World) (x1 : Option Addr) (l2 : Nat) (c3 : Nat) (n4 : Int) (x5 : Option Addr) (l6 : Nat) (c7 : Nat) (x8 : Option Addr) (l9 : Nat) (c10 : Nat) (n11 : Int) (n12 : Int) (R : Ending → Hp → Prop) : Hp → Prop :=
 NEW 26 [(.slice x1 l2 c3), (.int .i64 n4), (.slice x5 l6 c7), (.slice x8 l9 c10)] fun B13 =>
 RDL (Addr.add ⟨B13, 0, none⟩ 0) fun x14 l15 c16 =>
 RDL (Addr.add ⟨B13, 0, none⟩ 2) fun x17 l18 c19 =>
 RDL (Addr.add ⟨B13, 0, none⟩ 3) fun x20 l21 c22 =>
 BR (decide ((if (↑l21 : Int) > (if (↑l18 : Int) > (↑l15 : Int) then (↑l18 : Int) else (↑l15 : Int)) then (↑l21 : Int) else (if (↑l18 : Int) > (↑l15 : Int) then (↑l18 : Int) else (↑l15 : Int))) > 40))
 (R (.returned (.bool true)))
 (RDL (Addr.add ⟨B13, 0, none⟩ 0) fun x23 l24 c25 =>
 RDI .i64 (Addr.add ⟨B13, 0, none⟩ 1) fun n26 =>
 RDL (Addr.add ⟨B13, 0, none⟩ 2) fun x27 l28 c29 =>
 RDL (Addr.add ⟨B13, 0, none⟩ 3) fun x30 l31 c32 =>
 CALL Pg W F_ref07_Clock [(.agg #[(.slice x23 l24 c25), (.int .i64 n26), (.slice x27 l28 c29), (.slice x30 l31 c32)])]
 (fun v33 => TYB v33 fun b35 =>
 BR (!b35)
 (R (.returned (.bool false)))
 (RDL (Addr.add ⟨B13, 0, none⟩ 0) fun x36 l37 c38 =>
 L_law07_heavy_0 W R n11 n12 ⟨B13, 0, none⟩ x36 l37 c38 (↑l37 : Int) 1 0))
 (fun e34 => R (.panicked e34)))
theorem T_law07_heavy_eq (W : World) (x1 : Option Addr) (l2 : Nat) (c3 : Nat) (n4 : Int) (x5 : Option Addr) (l6 : Nat) (c7 : Nat) (x8 : Option Addr) (l9 : Nat) (c10 : Nat) (n11 : Int) (n12 : Int) (R : Ending → Hp → Prop) : vfun Pg W an_9 Try.f9 [(.agg #[(.slice x1 l2 c3), (.int .i64 n4), (.slice x5 l6 c7), (.slice x8 l9 c10)]), (.int .i64 n11), (.int .i64 n12)] R = T_law07_heavy W x1 l2 c3 n4 x5 l6 c7 x8 l9 c10 n11 n12 R := by kernel_rfl
theorem does_law07_heavy (W : World) (x1 : Option Addr) (l2 : Nat) (c3 : Nat) (n4 : Int) (x5 : Option Addr) (l6 : Nat) (c7 : Nat) (x8 : Option Addr) (l9 : Nat) (c10 : Nat) (n11 : Int) (n12 : Int) (R : Ending → Hp → Prop) (s : Hp) (h : T_law07_heavy W x1 l2 c3 n4 x5 l6 c7 x8 l9 c10 n11 n12 R s) : Does Pg W F_law07_heavy #[(.agg #[(.slice x1 l2 c3), (.int .i64 n4), (.slice x5 l6 c7), (.slice x8 l9 c10)]), (.int .i64 n11), (.int .i64 n12)] s R :=
  does_of_vfun Pg W an_9 Try.func9 rfl (by kernel_rfl) (by rw [T_law07_heavy_eq]; exact h)
def an_16 : Nat → Ann := fun b => match b with
 | 0 => { ms := [13], ks := [.i .i64], us := [1, 4, 5, 11, 12, 31], rt := false, ex := [] }
 | _ => {}
abbrev rv_16 : List ResultVar := [.cell 4 26]
abbrev rs_16 : List Nat := [31, 4]
def L_law07_part_0 (W : World) (R : Ending → Hp → Prop) (zn0 : Int) (za1 : Addr) (za2 : Addr) (zp3 : Option Addr) (zl4 : Nat) (zl5 : Nat) (zn6 : Int) (n28 : Int) : Hp → Prop :=
 LOOPN [.i .i64] (fun ys next s => ∀ j : Tm, vc Pg W 31 rs_16 an_16 false (sub (bodyOf Try.f16) [1, 1, 1, 0, 1, 0, 0]) 0 (KLoop [13] [1, 4, 5, 11, 12, 31] [(.int .i64 zn0), (.pointer (some za1)), (.pointer (some za2)), (.slice zp3 zl4 zl5), (.int .i64 zn6), (.tuple #[])] next (KBlk 0 (KS Pg W 31 rs_16 an_16 false (sub (bodyOf Try.f16) [1, 1, 1, 1]) 0 (fin Pg W 31 rv_16 R)))) (known [13] ys (known [1, 4, 5, 11, 12, 31] [(.int .i64 zn0), (.pointer (some za1)), (.pointer (some za2)), (.slice zp3 zl4 zl5), (.int .i64 zn6), (.tuple #[])] j)) s) [(.int .i64 n28)]
def J_law07_part_0 (W : World) (R : Ending → Hp → Prop) (zn0 : Int) (za1 : Addr) (za2 : Addr) (zp3 : Option Addr) (zl4 : Nat) (zl5 : Nat) (zn6 : Int) (nx0 : List Value → Hp → Prop) (n28 : Int) : Hp → Prop :=
 NX [(.int .i64 zn0), (.pointer (some za1)), (.pointer (some za2)), (.slice zp3 zl4 zl5), (.int .i64 zn6), (.tuple #[])] [(.int .i64 zn0), (.pointer (some za1)), (.pointer (some za2)), (.slice zp3 zl4 zl5), (.int .i64 zn6), (.tuple #[])] (nx0 [(.int .i64 (IntKind.wrap .i64 (n28 + 1)))])
def B_law07_part_0 (W : World) (R : Ending → Hp → Prop) (zn0 : Int) (za1 : Addr) (za2 : Addr) (zp3 : Option Addr) (zl4 : Nat) (zl5 : Nat) (zn6 : Int) (n28 : Int) (nx0 : List Value → Hp → Prop) : Hp → Prop :=
 BR (decide (n28 < zn6))
 (IXS zp3 zl4 n28 3 fun a29 =>
 RDI .i64 (Addr.add a29 0) fun n30 =>
 RDI .i64 (Addr.add a29 1) fun n31 =>
 RDI .i64 (Addr.add a29 2) fun n32 =>
 NEWZ Pg 61 fun B33 =>
 WR (Addr.add ⟨B33, 0, none⟩ 0) (.int .i64 n30) <|
 WR (Addr.add ⟨B33, 0, none⟩ 1) (.int .i64 n31) <|
 WR (Addr.add ⟨B33, 0, none⟩ 2) (.int .i64 n32) <|
 NNI n28 <|
 BR ((andv .i64 (shrv .i64 zn0 n28) 1) == 1)
 (RDL (Addr.add za2 2) fun x34 l35 c36 =>
 RDI .i64 (Addr.add ⟨B33, 0, none⟩ 0) fun n37 =>
 RDI .i64 (Addr.add ⟨B33, 0, none⟩ 1) fun n38 =>
 RDI .i64 (Addr.add ⟨B33, 0, none⟩ 2) fun n39 =>
 NEW 61 [(.int .i64 n37), (.int .i64 n38), (.int .i64 n39)] fun B40 =>
 APP Pg 61 3 x34 l35 c36 (some ⟨B40, 0, none⟩) 1 fun x41 l42 c43 =>
 WR (Addr.add (Addr.add za2 2) 0) (.slice x41 l42 c43) <|
 J_law07_part_0 W R zn0 za1 za2 zp3 zl4 zl5 zn6 nx0 n28)
 (J_law07_part_0 W R zn0 za1 za2 zp3 zl4 zl5 zn6 nx0 n28))
 (RDL (Addr.add za2 0) fun x44 l45 c46 =>
 RDI .i64 (Addr.add za2 1) fun n47 =>
 RDL (Addr.add za2 2) fun x48 l49 c50 =>
 RDL (Addr.add za2 3) fun x51 l52 c53 =>
 WR (Addr.add za1 0) (.slice x44 l45 c46) <|
 WR (Addr.add za1 1) (.int .i64 n47) <|
 WR (Addr.add za1 2) (.slice x48 l49 c50) <|
 WR (Addr.add za1 3) (.slice x51 l52 c53) <|
 RDL (Addr.add za1 0) fun x54 l55 c56 =>
 RDI .i64 (Addr.add za1 1) fun n57 =>
 RDL (Addr.add za1 2) fun x58 l59 c60 =>
 RDL (Addr.add za1 3) fun x61 l62 c63 =>
 R (.returned (.agg #[(.slice x54 l55 c56), (.int .i64 n57), (.slice x58 l59 c60), (.slice x61 l62 c63)])))
theorem B_law07_part_0_eq (W : World) (R : Ending → Hp → Prop) (zn0 : Int) (za1 : Addr) (za2 : Addr) (zp3 : Option Addr) (zl4 : Nat) (zl5 : Nat) (zn6 : Int) (n28 : Int) (nx0 : List Value → Hp → Prop) (j : Tm) : vc Pg W 31 rs_16 an_16 false (sub (bodyOf Try.f16) [1, 1, 1, 0, 1, 0, 0]) 0 (KLoop [13] [1, 4, 5, 11, 12, 31] [(.int .i64 zn0), (.pointer (some za1)), (.pointer (some za2)), (.slice zp3 zl4 zl5), (.int .i64 zn6), (.tuple #[])] nx0 (KBlk 0 (KS Pg W 31 rs_16 an_16 false (sub (bodyOf Try.f16) [1, 1, 1, 1]) 0 (fin Pg W 31 rv_16 R)))) (known [13] [(.int .i64 n28)] (known [1, 4, 5, 11, 12, 31] [(.int .i64 zn0), (.pointer (some za1)), (.pointer (some za2)), (.slice zp3 zl4 zl5), (.int .i64 zn6), (.tuple #[])] j)) = B_law07_part_0 W R zn0 za1 za2 zp3 zl4 zl5 zn6 n28 nx0 := by kernel_rfl
def N_law07_part_0 (I : Int → Hp → Prop) (μ : Int → Hp → Nat) (n280 : Int) (s : Hp) (vs : List Value) : Hp → Prop := fun s' => ∃ n28, vs = [(.int .i64 n28)] ∧ I n28 s' ∧ μ n28 s' < μ n280 s
theorem L_law07_part_0_rule (W : World) (R : Ending → Hp → Prop) (zn0 : Int) (za1 : Addr) (za2 : Addr) (zp3 : Option Addr) (zl4 : Nat) (zl5 : Nat) (zn6 : Int) (I : Int → Hp → Prop) (μ : Int → Hp → Nat) (n280 : Int) (s : Hp) (h0 : I n280 s)
    (hr : ∀ (n28 : Int) (s : Hp), I n28 s → B_law07_part_0 W R zn0 za1 za2 zp3 zl4 zl5 zn6 n28 (fun vs => N_law07_part_0 I μ n28 s vs) s) : L_law07_part_0 W R zn0 za1 za2 zp3 zl4 zl5 zn6 n280 s := by
  refine ⟨fun vs s => ∃ n28, vs = [(.int .i64 n28)] ∧ I n28 s, fun vs s => (match vs with | [.int _ n28] => μ n28 s | _ => 0), ⟨⟨⟨_, rfl⟩, trivial⟩, ⟨_, rfl, h0⟩⟩, ?_⟩
  intro n28 s hI j
  obtain ⟨n28', hy, hI⟩ := hI
  have hI' : I n28 s := by cases hy; exact hI
  have hh := hr n28 s hI'
  rw [← B_law07_part_0_eq W R zn0 za1 za2 zp3 zl4 zl5 zn6 n28 _ j] at hh
  refine vc_mono ?_ _ _ hh
  exact KLoop_mono (fun vs s' h => by obtain ⟨n281, rfl, h1, h2⟩ := h; exact ⟨⟨⟨_, rfl⟩, trivial⟩, ⟨_, rfl, h1⟩, h2⟩)
def T_law07_part (W : World) (x1 : Option Addr) (l2 : Nat) (c3 : Nat) (n4 : Int) (x5 : Option Addr) (l6 : Nat) (c7 : Nat) (x8 : Option Addr) (l9 : Nat) (c10 : Nat) (n11 : Int) (R : Ending → Hp → Prop) : Hp → Prop :=
 NEW 26 [(.slice x1 l2 c3), (.int .i64 n4), (.slice x5 l6 c7), (.slice x8 l9 c10)] fun B12 =>
 NEWZ Pg 26 fun B13 =>
 RDL (Addr.add ⟨B12, 0, none⟩ 0) fun x14 l15 c16 =>
 RDI .i64 (Addr.add ⟨B12, 0, none⟩ 1) fun n17 =>
 RDL (Addr.add ⟨B12, 0, none⟩ 2) fun x18 l19 c20 =>
 RDL (Addr.add ⟨B12, 0, none⟩ 3) fun x21 l22 c23 =>
 NEWZ Pg 26 fun B24 =>
 WR (Addr.add ⟨B24, 0, none⟩ 0) (.slice x14 l15 c16) <|
 WR (Addr.add ⟨B24, 0, none⟩ 1) (.int .i64 n17) <|
 WR (Addr.add ⟨B24, 0, none⟩ 2) (.slice x18 l19 c20) <|
 WR (Addr.add ⟨B24, 0, none⟩ 3) (.slice x21 l22 c23) <|
 WR (Addr.add (Addr.add ⟨B24, 0, none⟩ 2) 0) (.slice none 0 0) <|
 RDL (Addr.add ⟨B12, 0, none⟩ 2) fun x25 l26 c27 =>
 L_law07_part_0 W R n11 ⟨B13, 0, none⟩ ⟨B24, 0, none⟩ x25 l26 c27 (↑l26 : Int) 0
theorem T_law07_part_eq (W : World) (x1 : Option Addr) (l2 : Nat) (c3 : Nat) (n4 : Int) (x5 : Option Addr) (l6 : Nat) (c7 : Nat) (x8 : Option Addr) (l9 : Nat) (c10 : Nat) (n11 : Int) (R : Ending → Hp → Prop) : vfun Pg W an_16 Try.f16 [(.agg #[(.slice x1 l2 c3), (.int .i64 n4), (.slice x5 l6 c7), (.slice x8 l9 c10)]), (.int .i64 n11)] R = T_law07_part W x1 l2 c3 n4 x5 l6 c7 x8 l9 c10 n11 R := by kernel_rfl
theorem does_law07_part (W : World) (x1 : Option Addr) (l2 : Nat) (c3 : Nat) (n4 : Int) (x5 : Option Addr) (l6 : Nat) (c7 : Nat) (x8 : Option Addr) (l9 : Nat) (c10 : Nat) (n11 : Int) (R : Ending → Hp → Prop) (s : Hp) (h : T_law07_part W x1 l2 c3 n4 x5 l6 c7 x8 l9 c10 n11 R s) : Does Pg W F_law07_part #[(.agg #[(.slice x1 l2 c3), (.int .i64 n4), (.slice x5 l6 c7), (.slice x8 l9 c10)]), (.int .i64 n11)] s R :=
  does_of_vfun Pg W an_16 Try.func16 rfl (by kernel_rfl) (by rw [T_law07_part_eq]; exact h)
def an_20 : Nat → Ann := fun b => match b with
 | _ => {}
abbrev rv_20 : List ResultVar := [.cell 2 26]
abbrev rs_20 : List Nat := [22, 2]
def T_law07_sample (W : World) (n1 : Int) (R : Ending → Hp → Prop) : Hp → Prop :=
 NEWZ Pg 26 fun B2 =>
 CALL Pg W F_law07_span [(.int .i64 0), (.int .i64 0)]
 (fun v3 => AGG v3 fun q5 => HD q5 fun v6 r7 => TYI .i64 v6 fun n8 =>
 HD r7 fun v9 r10 => TYI .i64 v9 fun n11 =>
 NL r10 <|
 CALL Pg W F_law07_span [(.int .i64 1000), (.int .i64 1000)]
 (fun v12 => AGG v12 fun q14 => HD q14 fun v15 r16 => TYI .i64 v15 fun n17 =>
 HD r16 fun v18 r19 => TYI .i64 v18 fun n20 =>
 NL r19 <|
 CALL Pg W F_law07_span [(.int .i64 5), (.int .i64 6)]
 (fun v21 => AGG v21 fun q23 => HD q23 fun v24 r25 => TYI .i64 v24 fun n26 =>
 HD r25 fun v27 r28 => TYI .i64 v27 fun n29 =>
 NL r28 <|
 CALL Pg W F_law07_span [(.int .i64 998), (.int .i64 1002)]
 (fun v30 => AGG v30 fun q32 => HD q32 fun v33 r34 => TYI .i64 v33 fun n35 =>
 HD r34 fun v36 r37 => TYI .i64 v36 fun n38 =>
 NL r37 <|
 NEW 66 [(.int .i64 n8), (.int .i64 n11), (.int .i64 n17), (.int .i64 n20), (.int .i64 n26), (.int .i64 n29), (.int .i64 n35), (.int .i64 n38)] fun B39 =>
 NEW 61 [(.int .i64 0), (.int .i64 0), (.int .i64 10), (.int .i64 1), (.int .i64 1), (.int .i64 66), (.int .i64 2), (.int .i64 0), (.int .i64 130), (.int .i64 2), (.int .i64 1), (.int .i64 n1)] fun B40 =>
 CALL Pg W F_law07_span [(.int .i64 40), (.int .i64 60)]
 (fun v41 => AGG v41 fun q43 => HD q43 fun v44 r45 => TYI .i64 v44 fun n46 =>
 HD r45 fun v47 r48 => TYI .i64 v47 fun n49 =>
 NL r48 <|
 CALL Pg W F_law07_span [(.int .i64 60), (.int .i64 70)]
 (fun v50 => AGG v50 fun q52 => HD q52 fun v53 r54 => TYI .i64 v53 fun n55 =>
 HD r54 fun v56 r57 => TYI .i64 v56 fun n58 =>
 NL r57 <|
 NEW 63 [(.int .i64 0), (.int .i64 1), (.int .i64 n46), (.int .i64 n49), (.int .i64 1), (.int .i64 2), (.int .i64 n55), (.int .i64 n58)] fun B59 =>
 WR (Addr.add ⟨B2, 0, none⟩ 0) (.slice (some ⟨B39, 0, none⟩) 2 2) <|
 WR (Addr.add ⟨B2, 0, none⟩ 1) (.int .i64 3) <|
 WR (Addr.add ⟨B2, 0, none⟩ 2) (.slice (some ⟨B40, 0, none⟩) 4 4) <|
 WR (Addr.add ⟨B2, 0, none⟩ 3) (.slice (some ⟨B59, 0, none⟩) 2 2) <|
 RDL (Addr.add ⟨B2, 0, none⟩ 0) fun x60 l61 c62 =>
 RDI .i64 (Addr.add ⟨B2, 0, none⟩ 1) fun n63 =>
 RDL (Addr.add ⟨B2, 0, none⟩ 2) fun x64 l65 c66 =>
 RDL (Addr.add ⟨B2, 0, none⟩ 3) fun x67 l68 c69 =>
 R (.returned (.agg #[(.slice x60 l61 c62), (.int .i64 n63), (.slice x64 l65 c66), (.slice x67 l68 c69)])))
 (fun e51 => R (.panicked e51)))
 (fun e42 => R (.panicked e42)))
 (fun e31 => R (.panicked e31)))
 (fun e22 => R (.panicked e22)))
 (fun e13 => R (.panicked e13)))
 (fun e4 => R (.panicked e4))
theorem T_law07_sample_eq (W : World) (n1 : Int) (R : Ending → Hp → Prop) : vfun Pg W an_20 Try.f20 [(.int .i64 n1)] R = T_law07_sample W n1 R := by kernel_rfl
theorem does_law07_sample (W : World) (n1 : Int) (R : Ending → Hp → Prop) (s : Hp) (h : T_law07_sample W n1 R s) : Does Pg W F_law07_sample #[(.int .i64 n1)] s R :=
  does_of_vfun Pg W an_20 Try.func20 rfl (by kernel_rfl) (by rw [T_law07_sample_eq]; exact h)
def an_24 : Nat → Ann := fun b => match b with
 | _ => {}
abbrev rv_24 : List ResultVar := [.cell 4 34]
abbrev rs_24 : List Nat := [8, 4]
def T_law07_span (W : World) (n1 : Int) (n2 : Int) (R : Ending → Hp → Prop) : Hp → Prop :=
 NEWZ Pg 34 fun B3 =>
 WR (Addr.add ⟨B3, 0, none⟩ 0) (.int .i64 n1) <|
 WR (Addr.add ⟨B3, 0, none⟩ 1) (.int .i64 n2) <|
 RDI .i64 (Addr.add ⟨B3, 0, none⟩ 0) fun n4 =>
 RDI .i64 (Addr.add ⟨B3, 0, none⟩ 1) fun n5 =>
 R (.returned (.agg #[(.int .i64 n4), (.int .i64 n5)]))
theorem T_law07_span_eq (W : World) (n1 : Int) (n2 : Int) (R : Ending → Hp → Prop) : vfun Pg W an_24 Try.f24 [(.int .i64 n1), (.int .i64 n2)] R = T_law07_span W n1 n2 R := by kernel_rfl
theorem does_law07_span (W : World) (n1 : Int) (n2 : Int) (R : Ending → Hp → Prop) (s : Hp) (h : T_law07_span W n1 n2 R s) : Does Pg W F_law07_span #[(.int .i64 n1), (.int .i64 n2)] s R :=
  does_of_vfun Pg W an_24 Try.func24 rfl (by kernel_rfl) (by rw [T_law07_span_eq]; exact h)
def an_27 : Nat → Ann := fun b => match b with
 | _ => {}
abbrev rv_27 : List ResultVar := [.tmp 4]
abbrev rs_27 : List Nat := [15, 4]
def T_law07_inside (W : World) (n1 : Int) (n2 : Int) (n3 : Int) (R : Ending → Hp → Prop) : Hp → Prop :=
 NEW 34 [(.int .i64 n2), (.int .i64 n3)] fun B4 =>
 RDI .i64 (Addr.add ⟨B4, 0, none⟩ 0) fun n5 =>
 BR (decide (n5 ≤ n1))
 (RDI .i64 (Addr.add ⟨B4, 0, none⟩ 1) fun n6 =>
 R (.returned (.bool (decide (n1 ≤ n6)))))
 (R (.returned (.bool false)))
theorem T_law07_inside_eq (W : World) (n1 : Int) (n2 : Int) (n3 : Int) (R : Ending → Hp → Prop) : vfun Pg W an_27 Try.f27 [(.int .i64 n1), (.agg #[(.int .i64 n2), (.int .i64 n3)])] R = T_law07_inside W n1 n2 n3 R := by kernel_rfl
theorem does_law07_inside (W : World) (n1 : Int) (n2 : Int) (n3 : Int) (R : Ending → Hp → Prop) (s : Hp) (h : T_law07_inside W n1 n2 n3 R s) : Does Pg W F_law07_inside #[(.int .i64 n1), (.agg #[(.int .i64 n2), (.int .i64 n3)])] s R :=
  does_of_vfun Pg W an_27 Try.func27 rfl (by kernel_rfl) (by rw [T_law07_inside_eq]; exact h)
end Go.Proofs.Ytknpmijgdfeliaa.G

/- More of the functions' shallow texts, by gen.py. -/
set_option linter.unusedVariables false
set_option maxRecDepth 100000
namespace Go.Proofs.Ytknpmijgdfeliaa.G
open Go.V
def an_10 : Nat → Ann := fun b => match b with
 | _ => {}
abbrev rv_10 : List ResultVar := [.tmp 0]
abbrev rs_10 : List Nat := [99, 0]
def J_law07_alive_0 (W : World) (R : Ending → Hp → Prop) (b317 : Bool) (n149 : Int) (n178 : Int) (n181 : Int) (n208 : Int) (n211 : Int) : Hp → Prop :=
 BR b317
 (BR (n149 == 0)
 (BR (n178 == 2)
 (BR (n181 == 0)
 (BR (n208 == 8)
 (R (.returned (.bool (n211 == 0))))
 (R (.returned (.bool false))))
 (R (.returned (.bool false))))
 (R (.returned (.bool false))))
 (R (.returned (.bool false))))
 (R (.returned (.bool false)))
def J_law07_alive_1 (W : World) (R : Ending → Hp → Prop) (b290 : Bool) (B151 : Nat) (n149 : Int) (n178 : Int) (n181 : Int) (n208 : Int) (n211 : Int) : Hp → Prop :=
 BR b290
 (RDI .i64 (Addr.add ⟨B151, 0, none⟩ 0) fun n291 =>
 RDI .i64 (Addr.add ⟨B151, 0, none⟩ 1) fun n292 =>
 CALL Pg W F_law07_span [(.int .i64 1000), (.int .i64 1002)]
 (fun v293 => AGG v293 fun q295 => HD q295 fun v296 r297 => TYI .i64 v296 fun n298 =>
 HD r297 fun v299 r300 => TYI .i64 v299 fun n301 =>
 NL r300 <|
 ANDS (RDI .i64 (Addr.add ⟨B151, 0, none⟩ 0) fun n304 =>
 RDI .i64 (Addr.add ⟨B151, 0, none⟩ 1) fun n305 =>
 fun _ => ((.agg #[(.int .i64 n304), (.int .i64 n305)]) : Value) = (.agg #[(.int .i64 n291), (.int .i64 n292)])) <|
 J_law07_alive_0 W R ((n291 == n298) && (n292 == n301)) n149 n178 n181 n208 n211)
 (fun e294 => R (.panicked e294)))
 (J_law07_alive_0 W R false n149 n178 n181 n208 n211)
def J_law07_alive_2 (W : World) (R : Ending → Hp → Prop) (b266 : Bool) (B150 : Nat) (B151 : Nat) (n149 : Int) (n178 : Int) (n181 : Int) (n208 : Int) (n211 : Int) : Hp → Prop :=
 BR b266
 (RDI .i64 (Addr.add ⟨B150, 0, none⟩ 0) fun n267 =>
 RDI .i64 (Addr.add ⟨B150, 0, none⟩ 1) fun n268 =>
 CALL Pg W F_law07_span [(.int .i64 6), (.int .i64 6)]
 (fun v269 => AGG v269 fun q271 => HD q271 fun v272 r273 => TYI .i64 v272 fun n274 =>
 HD r273 fun v275 r276 => TYI .i64 v275 fun n277 =>
 NL r276 <|
 ANDS (RDI .i64 (Addr.add ⟨B150, 0, none⟩ 0) fun n280 =>
 RDI .i64 (Addr.add ⟨B150, 0, none⟩ 1) fun n281 =>
 fun _ => ((.agg #[(.int .i64 n280), (.int .i64 n281)]) : Value) = (.agg #[(.int .i64 n267), (.int .i64 n268)])) <|
 J_law07_alive_1 W R ((n267 == n274) && (n268 == n277)) B151 n149 n178 n181 n208 n211)
 (fun e270 => R (.panicked e270)))
 (J_law07_alive_1 W R false B151 n149 n178 n181 n208 n211)
def J_law07_alive_3 (W : World) (R : Ending → Hp → Prop) (b260 : Bool) (n104 : Int) (B150 : Nat) (B151 : Nat) (n149 : Int) (n178 : Int) (n181 : Int) (n208 : Int) (n211 : Int) : Hp → Prop :=
 BR b260
 (J_law07_alive_2 W R (n104 == 0) B150 B151 n149 n178 n181 n208 n211)
 (J_law07_alive_2 W R false B150 B151 n149 n178 n181 n208 n211)
def J_law07_alive_4 (W : World) (R : Ending → Hp → Prop) (b254 : Bool) (n101 : Int) (n104 : Int) (B150 : Nat) (B151 : Nat) (n149 : Int) (n178 : Int) (n181 : Int) (n208 : Int) (n211 : Int) : Hp → Prop :=
 BR b254
 (J_law07_alive_3 W R (n101 == 2) n104 B150 B151 n149 n178 n181 n208 n211)
 (J_law07_alive_3 W R false n104 B150 B151 n149 n178 n181 n208 n211)
def J_law07_alive_5 (W : World) (R : Ending → Hp → Prop) (b248 : Bool) (n73 : Int) (n101 : Int) (n104 : Int) (B150 : Nat) (B151 : Nat) (n149 : Int) (n178 : Int) (n181 : Int) (n208 : Int) (n211 : Int) : Hp → Prop :=
 BR b248
 (J_law07_alive_4 W R (n73 == 0) n101 n104 B150 B151 n149 n178 n181 n208 n211)
 (J_law07_alive_4 W R false n101 n104 B150 B151 n149 n178 n181 n208 n211)
def J_law07_alive_6 (W : World) (R : Ending → Hp → Prop) (b227 : Bool) (B74 : Nat) (n73 : Int) (n101 : Int) (n104 : Int) (B150 : Nat) (B151 : Nat) (n149 : Int) (n178 : Int) (n181 : Int) (n208 : Int) (n211 : Int) : Hp → Prop :=
 BR b227
 (RDI .i64 (Addr.add ⟨B74, 0, none⟩ 0) fun n228 =>
 RDI .i64 (Addr.add ⟨B74, 0, none⟩ 1) fun n229 =>
 CALL Pg W F_law07_span [(.int .i64 (-70)), (.int .i64 (-70))]
 (fun v230 => AGG v230 fun q232 => HD q232 fun v233 r234 => TYI .i64 v233 fun n235 =>
 HD r234 fun v236 r237 => TYI .i64 v236 fun n238 =>
 NL r237 <|
 ANDS (RDI .i64 (Addr.add ⟨B74, 0, none⟩ 0) fun n241 =>
 RDI .i64 (Addr.add ⟨B74, 0, none⟩ 1) fun n242 =>
 fun _ => ((.agg #[(.int .i64 n241), (.int .i64 n242)]) : Value) = (.agg #[(.int .i64 n228), (.int .i64 n229)])) <|
 J_law07_alive_5 W R ((n228 == n235) && (n229 == n238)) n73 n101 n104 B150 B151 n149 n178 n181 n208 n211)
 (fun e231 => R (.panicked e231)))
 (J_law07_alive_5 W R false n73 n101 n104 B150 B151 n149 n178 n181 n208 n211)
def T_law07_alive (W : World) (R : Ending → Hp → Prop) : Hp → Prop :=
 CALL Pg W F_law07_sample [(.int .i64 136)]
 (fun v1 => AGG v1 fun q3 => HD q3 fun v4 r5 => TYL v4 fun x6 l7 c8 =>
 HD r5 fun v9 r10 => TYI .i64 v9 fun n11 =>
 HD r10 fun v12 r13 => TYL v12 fun x14 l15 c16 =>
 HD r13 fun v17 r18 => TYL v17 fun x19 l20 c21 =>
 NL r18 <|
 CALL Pg W F_clock_When [(.agg #[(.slice x6 l7 c8), (.int .i64 n11), (.slice x14 l15 c16), (.slice x19 l20 c21)]), (.int .i64 1)]
 (fun v22 => TUP v22 fun q24 => HD q24 fun v25 r26 => AGG v25 fun q27 => HD q27 fun v28 r29 => TYI .i64 v28 fun n30 =>
 HD r29 fun v31 r32 => TYI .i64 v31 fun n33 =>
 NL r32 <|
 HD r26 fun v34 r35 => TYI .i64 v34 fun n36 =>
 NL r35 <|
 NEWZ Pg 34 fun B37 =>
 WR (Addr.add ⟨B37, 0, none⟩ 0) (.int .i64 n30) <|
 WR (Addr.add ⟨B37, 0, none⟩ 1) (.int .i64 n33) <|
 CALL Pg W F_law07_sample [(.int .i64 136)]
 (fun v38 => AGG v38 fun q40 => HD q40 fun v41 r42 => TYL v41 fun x43 l44 c45 =>
 HD r42 fun v46 r47 => TYI .i64 v46 fun n48 =>
 HD r47 fun v49 r50 => TYL v49 fun x51 l52 c53 =>
 HD r50 fun v54 r55 => TYL v54 fun x56 l57 c58 =>
 NL r55 <|
 CALL Pg W F_clock_Lasted [(.agg #[(.slice x43 l44 c45), (.int .i64 n48), (.slice x51 l52 c53), (.slice x56 l57 c58)]), (.int .i64 2), (.int .i64 1)]
 (fun v59 => TUP v59 fun q61 => HD q61 fun v62 r63 => AGG v62 fun q64 => HD q64 fun v65 r66 => TYI .i64 v65 fun n67 =>
 HD r66 fun v68 r69 => TYI .i64 v68 fun n70 =>
 NL r69 <|
 HD r63 fun v71 r72 => TYI .i64 v71 fun n73 =>
 NL r72 <|
 NEWZ Pg 34 fun B74 =>
 WR (Addr.add ⟨B74, 0, none⟩ 0) (.int .i64 n67) <|
 WR (Addr.add ⟨B74, 0, none⟩ 1) (.int .i64 n70) <|
 CALL Pg W F_law07_sample [(.int .i64 136)]
 (fun v75 => AGG v75 fun q77 => HD q77 fun v78 r79 => TYL v78 fun x80 l81 c82 =>
 HD r79 fun v83 r84 => TYI .i64 v83 fun n85 =>
 HD r84 fun v86 r87 => TYL v86 fun x88 l89 c90 =>
 HD r87 fun v91 r92 => TYL v91 fun x93 l94 c95 =>
 NL r92 <|
 CALL Pg W F_clock_First [(.agg #[(.slice x80 l81 c82), (.int .i64 n85), (.slice x88 l89 c90), (.slice x93 l94 c95)]), (.int .i64 0), (.int .i64 1)]
 (fun v96 => TUP v96 fun q98 => HD q98 fun v99 r100 => TYI .i64 v99 fun n101 =>
 HD r100 fun v102 r103 => TYI .i64 v102 fun n104 =>
 NL r103 <|
 CALL Pg W F_law07_sample [(.int .i64 136)]
 (fun v105 => AGG v105 fun q107 => HD q107 fun v108 r109 => TYL v108 fun x110 l111 c112 =>
 HD r109 fun v113 r114 => TYI .i64 v113 fun n115 =>
 HD r114 fun v116 r117 => TYL v116 fun x118 l119 c120 =>
 HD r117 fun v121 r122 => TYL v121 fun x123 l124 c125 =>
 NL r122 <|
 CALL Pg W F_clock_Goes [(.agg #[(.slice x110 l111 c112), (.int .i64 n115), (.slice x118 l119 c120), (.slice x123 l124 c125)]), (.int .i64 1)]
 (fun v126 => TUP v126 fun q128 => HD q128 fun v129 r130 => AGG v129 fun q131 => HD q131 fun v132 r133 => TYI .i64 v132 fun n134 =>
 HD r133 fun v135 r136 => TYI .i64 v135 fun n137 =>
 NL r136 <|
 HD r130 fun v138 r139 => AGG v138 fun q140 => HD q140 fun v141 r142 => TYI .i64 v141 fun n143 =>
 HD r142 fun v144 r145 => TYI .i64 v144 fun n146 =>
 NL r145 <|
 HD r139 fun v147 r148 => TYI .i64 v147 fun n149 =>
 NL r148 <|
 NEWZ Pg 34 fun B150 =>
 NEWZ Pg 34 fun B151 =>
 WR (Addr.add ⟨B150, 0, none⟩ 0) (.int .i64 n134) <|
 WR (Addr.add ⟨B150, 0, none⟩ 1) (.int .i64 n137) <|
 WR (Addr.add ⟨B151, 0, none⟩ 0) (.int .i64 n143) <|
 WR (Addr.add ⟨B151, 0, none⟩ 1) (.int .i64 n146) <|
 CALL Pg W F_law07_sample [(.int .i64 140)]
 (fun v152 => AGG v152 fun q154 => HD q154 fun v155 r156 => TYL v155 fun x157 l158 c159 =>
 HD r156 fun v160 r161 => TYI .i64 v160 fun n162 =>
 HD r161 fun v163 r164 => TYL v163 fun x165 l166 c167 =>
 HD r164 fun v168 r169 => TYL v168 fun x170 l171 c172 =>
 NL r169 <|
 CALL Pg W F_clock_Wrong [(.agg #[(.slice x157 l158 c159), (.int .i64 n162), (.slice x165 l166 c167), (.slice x170 l171 c172)])]
 (fun v173 => TUP v173 fun q175 => HD q175 fun v176 r177 => TYI .i64 v176 fun n178 =>
 HD r177 fun v179 r180 => TYI .i64 v179 fun n181 =>
 NL r180 <|
 CALL Pg W F_law07_sample [(.int .i64 140)]
 (fun v182 => AGG v182 fun q184 => HD q184 fun v185 r186 => TYL v185 fun x187 l188 c189 =>
 HD r186 fun v190 r191 => TYI .i64 v190 fun n192 =>
 HD r191 fun v193 r194 => TYL v193 fun x195 l196 c197 =>
 HD r194 fun v198 r199 => TYL v198 fun x200 l201 c202 =>
 NL r199 <|
 CALL Pg W F_clock_Drop [(.agg #[(.slice x187 l188 c189), (.int .i64 n192), (.slice x195 l196 c197), (.slice x200 l201 c202)])]
 (fun v203 => TUP v203 fun q205 => HD q205 fun v206 r207 => TYI .i64 v206 fun n208 =>
 HD r207 fun v209 r210 => TYI .i64 v209 fun n211 =>
 NL r210 <|
 RDI .i64 (Addr.add ⟨B37, 0, none⟩ 0) fun n212 =>
 RDI .i64 (Addr.add ⟨B37, 0, none⟩ 1) fun n213 =>
 CALL Pg W F_law07_span [(.int .i64 60), (.int .i64 60)]
 (fun v214 => AGG v214 fun q216 => HD q216 fun v217 r218 => TYI .i64 v217 fun n219 =>
 HD r218 fun v220 r221 => TYI .i64 v220 fun n222 =>
 NL r221 <|
 ANDS (RDI .i64 (Addr.add ⟨B37, 0, none⟩ 0) fun n223 =>
 RDI .i64 (Addr.add ⟨B37, 0, none⟩ 1) fun n224 =>
 fun _ => ((.agg #[(.int .i64 n223), (.int .i64 n224)]) : Value) = (.agg #[(.int .i64 n212), (.int .i64 n213)])) <|
 BR ((n212 == n219) && (n213 == n222))
 (J_law07_alive_6 W R (n36 == 0) B74 n73 n101 n104 B150 B151 n149 n178 n181 n208 n211)
 (J_law07_alive_6 W R false B74 n73 n101 n104 B150 B151 n149 n178 n181 n208 n211))
 (fun e215 => R (.panicked e215)))
 (fun e204 => R (.panicked e204)))
 (fun e183 => R (.panicked e183)))
 (fun e174 => R (.panicked e174)))
 (fun e153 => R (.panicked e153)))
 (fun e127 => R (.panicked e127)))
 (fun e106 => R (.panicked e106)))
 (fun e97 => R (.panicked e97)))
 (fun e76 => R (.panicked e76)))
 (fun e60 => R (.panicked e60)))
 (fun e39 => R (.panicked e39)))
 (fun e23 => R (.panicked e23)))
 (fun e2 => R (.panicked e2))
theorem T_law07_alive_eq (W : World) (R : Ending → Hp → Prop) : vfun Pg W an_10 Try.f10 [] R = T_law07_alive W R := by kernel_rfl
theorem does_law07_alive (W : World) (R : Ending → Hp → Prop) (s : Hp) (h : T_law07_alive W R s) : Does Pg W F_law07_alive #[] s R :=
  does_of_vfun Pg W an_10 Try.func10 rfl (by kernel_rfl) (by rw [T_law07_alive_eq]; exact h)
end Go.Proofs.Ytknpmijgdfeliaa.G

/- Clock: the document's examples hold. -/
set_option linter.unusedSimpArgs false
set_option linter.unusedVariables false
set_option maxRecDepth 20000
namespace Go.Proofs.Ytknpmijgdfeliaa.G
open Go.V
section
variable {W : World} {K : VK} {E : List PanicEntry → Hp → Prop} {s : Hp}
theorem c_span {a b : Int} (h : ∀ s', Ext s s' → K (.agg #[.int .i64 a, .int .i64 b]) s') : CALL Pg W F_law07_span [.int .i64 a, .int .i64 b] K E s := by
  refine does_law07_span W a b _ s ?_
  unfold T_law07_span
  refine nw2 zc_34 rfl rfl fun s1 e1 z1 o1 o2 => ⟨_, o1.cell, ⟨_, o2.cell, ?_⟩⟩
  exact h s1 e1
theorem c_sample {l : Int} (h : ∀ s' x y z, Ext s s' → ClV s' (CL l) x y z → K (clkV (CL l) x y z 2 4 2) s') : CALL Pg W F_law07_sample [.int .i64 l] K E s := by
  refine does_law07_sample W l _ s ?_
  unfold T_law07_sample
  refine nz4 zc_26 fun s1 e1 z1 p1 p2 p3 p4 => ?_
  refine c_span fun s2 e2 => ?_
  try simp only [TUP_mk, AGG_mk, HD_mk, NL_mk, TYI_mk, TYB_mk, TYP_mk, TYL_mk, TYS_mk, TYM_mk, SO_mk, NX_mk, endK_mk, endK_mk', add_0]
  refine c_span fun s3 e3 => ?_
  try simp only [TUP_mk, AGG_mk, HD_mk, NL_mk, TYI_mk, TYB_mk, TYP_mk, TYL_mk, TYS_mk, TYM_mk, SO_mk, NX_mk, endK_mk, endK_mk', add_0]
  refine c_span fun s4 e4 => ?_
  try simp only [TUP_mk, AGG_mk, HD_mk, NL_mk, TYI_mk, TYB_mk, TYP_mk, TYL_mk, TYS_mk, TYM_mk, SO_mk, NX_mk, endK_mk, endK_mk', add_0]
  refine c_span fun s5 e5 => ?_
  try simp only [TUP_mk, AGG_mk, HD_mk, NL_mk, TYI_mk, TYB_mk, TYP_mk, TYL_mk, TYS_mk, TYM_mk, SO_mk, NX_mk, endK_mk, endK_mk', add_0]
  refine NEW_rule fun s6 e6 z6 n6 _ => ?_
  refine NEW_rule fun s7 e7 z7 n7 _ => ?_
  refine c_span fun s8 e8 => ?_
  try simp only [TUP_mk, AGG_mk, HD_mk, NL_mk, TYI_mk, TYB_mk, TYP_mk, TYL_mk, TYS_mk, TYM_mk, SO_mk, NX_mk, endK_mk, endK_mk', add_0]
  refine c_span fun s9 e9 => ?_
  try simp only [TUP_mk, AGG_mk, HD_mk, NL_mk, TYI_mk, TYB_mk, TYP_mk, TYL_mk, TYS_mk, TYM_mk, SO_mk, NX_mk, endK_mk, endK_mk', add_0]
  refine NEW_rule fun t et zt nt _ => ?_
  have e15 := ((e2.trans e3).trans e4).trans e5
  have e1t := (((e15.trans e6).trans e7).trans (e8.trans e9)).trans et
  have hlt : s.size < s1.size := by omega
  have h15 : s1.size ≤ s5.size := e15.1
  have h6 : s5.size < s6.size := by omega
  have h9 : s7.size ≤ s9.size := (e8.trans e9).1
  show wrN [_, _, _, _] ⟨s.size, 0, none⟩ 0 _ t
  refine wrN_rule _ _ 0 _ t (fun i hi => ?_) ?_ ?_
  · match i, hi with
    | 0, _ => exact ⟨_, e1t.own p1⟩
    | 1, _ => exact ⟨_, e1t.own p2⟩
    | 2, _ => exact ⟨_, e1t.own p3⟩
    | 3, _ => exact ⟨_, e1t.own p4⟩
  · intro w hw
    simp at hw
    rcases hw with rfl | rfl | rfl | rfl <;> rfl
  · intro u k zu ho _
    have q0 := ho 0 (by simp)
    have q1 := ho 1 (by simp)
    have q2 := ho 2 (by simp)
    have q3 := ho 3 (by simp)
    refine ⟨_, _, _, q0.cell, ⟨_, q1.cell, ⟨_, _, _, q2.cell, ⟨_, _, _, q3.cell, ?_⟩⟩⟩⟩
    refine h u (some ⟨s5.size, 0, none⟩) (some ⟨s6.size, 0, none⟩) (some ⟨s9.size, 0, none⟩) (ext_kp (e1.trans e1t) (Nat.le_refl _) k) ⟨?_, ?_, ?_⟩
    · intro i hi
      have hi' : i < 2 := hi
      have f := (e7.trans (e8.trans e9)).trans et
      have g : ∀ j v, _ → Own u ⟨s5.size, j, none⟩ v := fun j v hv => k.own (by show ¬ s5.size = s.size; omega) (f.own (n6 j v hv))
      refine ⟨_, rfl, ?_⟩
      match i, hi' with
      | 0, _ => exact ⟨(g 0 _ rfl).cell, (g 1 _ rfl).cell, (g 2 _ rfl).cell, (g 3 _ rfl).cell⟩
      | 1, _ => exact ⟨(g 4 _ rfl).cell, (g 5 _ rfl).cell, (g 6 _ rfl).cell, (g 7 _ rfl).cell⟩
    · intro i hi
      have hi' : i < 4 := hi
      have f := (e8.trans e9).trans et
      have g : ∀ j v, _ → Own u ⟨s6.size, j, none⟩ v := fun j v hv => k.own (by show ¬ s6.size = s.size; omega) (f.own (n7 j v hv))
      refine ⟨_, rfl, ?_⟩
      match i, hi' with
      | 0, _ => exact ⟨(g 0 _ rfl).cell, (g 1 _ rfl).cell, (g 2 _ rfl).cell⟩
      | 1, _ => exact ⟨(g 3 _ rfl).cell, (g 4 _ rfl).cell, (g 5 _ rfl).cell⟩
      | 2, _ => exact ⟨(g 6 _ rfl).cell, (g 7 _ rfl).cell, (g 8 _ rfl).cell⟩
      | 3, _ => exact ⟨(g 9 _ rfl).cell, (g 10 _ rfl).cell, (g 11 _ rfl).cell⟩
    · intro i hi
      have hi' : i < 2 := hi
      have g : ∀ j v, _ → Own u ⟨s9.size, j, none⟩ v := fun j v hv => k.own (by show ¬ s9.size = s.size; omega) (nt j v hv)
      refine ⟨_, rfl, ?_⟩
      match i, hi' with
      | 0, _ => exact ⟨(g 0 _ rfl).cell, (g 1 _ rfl).cell, (g 2 _ rfl).cell, (g 3 _ rfl).cell⟩
      | 1, _ => exact ⟨(g 4 _ rfl).cell, (g 5 _ rfl).cell, (g 6 _ rfl).cell, (g 7 _ rfl).cell⟩
theorem c_alive (h : ∀ s', Ext s s' → K (.bool true) s') : CALL Pg W F_law07_alive [] K E s := by
  refine does_law07_alive W _ s ?_
  unfold T_law07_alive
  refine c_sample fun s1 xa ya za e1 ca => ?_
  unfold clkV
  try simp only [TUP_mk, AGG_mk, HD_mk, NL_mk, TYI_mk, TYB_mk, TYP_mk, TYL_mk, TYS_mk, TYM_mk, SO_mk, NX_mk, endK_mk, endK_mk', add_0]
  refine c_When (c := CL 136) ca fun s2 lo1 hi1 er1 e2 q1 => ?_
  obtain ⟨rfl, rfl, rfl⟩ := cl_when1 q1
  try simp only [TUP_mk, AGG_mk, HD_mk, NL_mk, TYI_mk, TYB_mk, TYP_mk, TYL_mk, TYS_mk, TYM_mk, SO_mk, NX_mk, endK_mk, endK_mk', add_0]
  refine nw2 zc_34 rfl rfl fun s3 e3 z3 a1 a2 => ?_
  refine c_sample fun s4 xb yb zb e4 cb => ?_
  unfold clkV
  try simp only [TUP_mk, AGG_mk, HD_mk, NL_mk, TYI_mk, TYB_mk, TYP_mk, TYL_mk, TYS_mk, TYM_mk, SO_mk, NX_mk, endK_mk, endK_mk', add_0]
  refine c_Lasted (c := CL 136) cb fun s5 lo2 hi2 er2 e5 q2 => ?_
  obtain ⟨rfl, rfl, rfl⟩ := cl_lasted21 q2
  try simp only [TUP_mk, AGG_mk, HD_mk, NL_mk, TYI_mk, TYB_mk, TYP_mk, TYL_mk, TYS_mk, TYM_mk, SO_mk, NX_mk, endK_mk, endK_mk', add_0]
  refine nw2 zc_34 rfl rfl fun s6 e6 z6 b1 b2 => ?_
  refine c_sample fun s7 xc yc zc e7 cc => ?_
  unfold clkV
  try simp only [TUP_mk, AGG_mk, HD_mk, NL_mk, TYI_mk, TYB_mk, TYP_mk, TYL_mk, TYS_mk, TYM_mk, SO_mk, NX_mk, endK_mk, endK_mk', add_0]
  refine c_First (c := CL 136) cc fun s8 lo3 hi3 er3 e8 q3 => ?_
  obtain ⟨f3, rfl⟩ := cl_first q3
  rw [f3]
  try simp only [TUP_mk, AGG_mk, HD_mk, NL_mk, TYI_mk, TYB_mk, TYP_mk, TYL_mk, TYS_mk, TYM_mk, SO_mk, NX_mk, endK_mk, endK_mk', add_0]
  refine c_sample fun s9 xd yd zd e9 cd => ?_
  unfold clkV
  try simp only [TUP_mk, AGG_mk, HD_mk, NL_mk, TYI_mk, TYB_mk, TYP_mk, TYL_mk, TYS_mk, TYM_mk, SO_mk, NX_mk, endK_mk, endK_mk', add_0]
  refine c_Goes (c := CL 136) cd (by decide) fun s10 zl zh rl rh er4 e10 q4 q5 => ?_
  obtain ⟨rfl, rfl, rfl⟩ := cl_zero q4
  obtain ⟨rfl, rfl, _⟩ := cl_rate q5
  try simp only [TUP_mk, AGG_mk, HD_mk, NL_mk, TYI_mk, TYB_mk, TYP_mk, TYL_mk, TYS_mk, TYM_mk, SO_mk, NX_mk, endK_mk, endK_mk', add_0]
  refine nz2 zc_34 fun s11 e11 z11 d1 d2 => ?_
  refine nz2 zc_34 fun s12 e12 z12 g1 g2 => ?_
  refine wrB (e12.own d1) (e12.own d2) rfl rfl fun s13 k13 z13 d1' d2' => ?_
  have n1 : ¬ s11.size = s10.size := by omega
  refine wrB (k13.own n1 g1) (k13.own n1 g2) rfl rfl fun s14 k14 z14 g1' g2' => ?_
  have n2 : ¬ s10.size = s11.size := by omega
  have d1'' := k14.own n2 d1'
  have d2'' := k14.own n2 d2'
  have e1014 : Ext s10 s14 := kp_nil (kp_nil (e11.trans e12) (fun b hb => by have : b = s10.size := hb; omega) k13) (fun b hb => by have : b = s11.size := hb; omega) k14
  refine c_sample fun s15 xe ye ze e15 ce => ?_
  unfold clkV
  try simp only [TUP_mk, AGG_mk, HD_mk, NL_mk, TYI_mk, TYB_mk, TYP_mk, TYL_mk, TYS_mk, TYM_mk, SO_mk, NX_mk, endK_mk, endK_mk', add_0]
  refine c_Wrong (c := CL 140) ce fun s16 w er5 e16 q6 => ?_
  obtain ⟨rfl, rfl⟩ := cl_wrong q6
  try simp only [TUP_mk, AGG_mk, HD_mk, NL_mk, TYI_mk, TYB_mk, TYP_mk, TYL_mk, TYS_mk, TYM_mk, SO_mk, NX_mk, endK_mk, endK_mk', add_0]
  refine c_sample fun s17 xf yf zf e17 cf => ?_
  unfold clkV
  try simp only [TUP_mk, AGG_mk, HD_mk, NL_mk, TYI_mk, TYB_mk, TYP_mk, TYL_mk, TYS_mk, TYM_mk, SO_mk, NX_mk, endK_mk, endK_mk', add_0]
  refine c_Drop (c := CL 140) cf fun s18 d er6 e18 q7 => ?_
  obtain ⟨rfl, rfl⟩ := cl_drop q7
  try simp only [TUP_mk, AGG_mk, HD_mk, NL_mk, TYI_mk, TYB_mk, TYP_mk, TYL_mk, TYS_mk, TYM_mk, SO_mk, NX_mk, endK_mk, endK_mk', add_0]
  have e1418 := ((e15.trans e16).trans e17).trans e18
  have e610 := ((e7.trans e8).trans e9).trans e10
  have e36 := (e4.trans e5).trans e6
  have e318 := ((e36.trans e610).trans e1014).trans e1418
  have e618 := (e610.trans e1014).trans e1418
  have ea : Ext s s18 := ((e1.trans e2).trans e3).trans e318
  refine ⟨_, (e318.own a1).cell, ⟨_, (e318.own a2).cell, ?_⟩⟩
  refine c_span fun s19 e19 => ?_
  try simp only [TUP_mk, AGG_mk, HD_mk, NL_mk, TYI_mk, TYB_mk, TYP_mk, TYL_mk, TYS_mk, TYM_mk, SO_mk, NX_mk, endK_mk, endK_mk', add_0]
  refine ANDS_i ⟨_, ((e318.trans e19).own a1).cell, ⟨_, ((e318.trans e19).own a2).cell, rfl⟩⟩ ?_
  refine BR_tt rfl ?_
  unfold J_law07_alive_6
  refine BR_tt rfl ⟨_, ((e618.trans e19).own b1).cell, ⟨_, ((e618.trans e19).own b2).cell, ?_⟩⟩
  refine c_span fun s20 e20 => ?_
  try simp only [TUP_mk, AGG_mk, HD_mk, NL_mk, TYI_mk, TYB_mk, TYP_mk, TYL_mk, TYS_mk, TYM_mk, SO_mk, NX_mk, endK_mk, endK_mk', add_0]
  have e1920 := e19.trans e20
  refine ANDS_i ⟨_, ((e618.trans e1920).own b1).cell, ⟨_, ((e618.trans e1920).own b2).cell, rfl⟩⟩ ?_
  unfold J_law07_alive_5
  refine BR_tt rfl ?_
  unfold J_law07_alive_4
  refine BR_tt rfl ?_
  unfold J_law07_alive_3
  refine BR_tt rfl ?_
  unfold J_law07_alive_2
  refine BR_tt rfl ⟨_, ((e1418.trans e1920).own d1'').cell, ⟨_, ((e1418.trans e1920).own d2'').cell, ?_⟩⟩
  refine c_span fun s21 e21 => ?_
  try simp only [TUP_mk, AGG_mk, HD_mk, NL_mk, TYI_mk, TYB_mk, TYP_mk, TYL_mk, TYS_mk, TYM_mk, SO_mk, NX_mk, endK_mk, endK_mk', add_0]
  have e1921 := e1920.trans e21
  refine ANDS_i ⟨_, ((e1418.trans e1921).own d1'').cell, ⟨_, ((e1418.trans e1921).own d2'').cell, rfl⟩⟩ ?_
  unfold J_law07_alive_1
  refine BR_tt rfl ⟨_, ((e1418.trans e1921).own g1').cell, ⟨_, ((e1418.trans e1921).own g2').cell, ?_⟩⟩
  refine c_span fun s22 e22 => ?_
  try simp only [TUP_mk, AGG_mk, HD_mk, NL_mk, TYI_mk, TYB_mk, TYP_mk, TYL_mk, TYS_mk, TYM_mk, SO_mk, NX_mk, endK_mk, endK_mk', add_0]
  have e1922 := e1921.trans e22
  refine ANDS_i ⟨_, ((e1418.trans e1922).own g1').cell, ⟨_, ((e1418.trans e1922).own g2').cell, rfl⟩⟩ ?_
  unfold J_law07_alive_0
  refine BR_tt rfl (BR_tt rfl (BR_tt rfl (BR_tt rfl (BR_tt rfl ?_))))
  exact h s22 (ea.trans e1922)
end
end Go.Proofs.Ytknpmijgdfeliaa.G

/- Clock: what the statements ask with: clocks that are heavy, clocks with some readings. -/
set_option linter.unusedSimpArgs false
set_option linter.unusedVariables false
set_option maxRecDepth 20000
namespace Go.Proofs.Ytknpmijgdfeliaa.G
open Go.V
/-- The readings of a set. -/
def partL (S : Nat) : List Rd → Nat → List Rd
  | [], _ => []
  | r :: rs, i => if S.testBit i then r :: partL S rs (i + 1) else partL S rs (i + 1)
def partC (c : Clk) (S : Nat) : Clk := { c with rs := partL S c.rs 0 }
theorem part_app {S : Nat} {r : Rd} : ∀ (l : List Rd) (j : Nat), partL S (l ++ [r]) j = partL S l j ++ (if S.testBit (j + l.length) then [r] else [])
  | [], j => by
    show (if S.testBit j then _ else _) = _
    simp [partL]
  | x :: l, j => by
    have ih := part_app (S := S) (r := r) l (j + 1)
    show (if S.testBit j then x :: partL S (l ++ [r]) (j + 1) else partL S (l ++ [r]) (j + 1)) = (if S.testBit j then x :: partL S l (j + 1) else partL S l (j + 1)) ++ _
    rw [ih, show j + 1 + l.length = j + (x :: l).length by simp; omega]
    split <;> rfl
theorem part_len {S : Nat} : ∀ (l : List Rd) (j : Nat), (partL S l j).length ≤ l.length
  | [], _ => Nat.le_refl _
  | x :: l, j => by
    have := part_len (S := S) l (j + 1)
    unfold partL
    split <;> simp <;> omega
theorem part_mem {S : Nat} {r : Rd} : ∀ (l : List Rd) (j : Nat), r ∈ partL S l j ↔ ∃ i, ∃ h : i < l.length, S.testBit (j + i) = true ∧ l[i] = r
  | [], j => by simp [partL]
  | x :: l, j => by
    have ih := part_mem (S := S) (r := r) l (j + 1)
    have hs : (∃ i, ∃ h : i < l.length, S.testBit (j + 1 + i) = true ∧ l[i] = r) ↔ ∃ i, ∃ h : i + 1 < (x :: l).length, S.testBit (j + (i + 1)) = true ∧ (x :: l)[i + 1] = r := by
      constructor
      · rintro ⟨i, h, h1, h2⟩; exact ⟨i, by simpa using h, by rw [show j + (i + 1) = j + 1 + i by omega]; exact h1, h2⟩
      · rintro ⟨i, h, h1, h2⟩; exact ⟨i, by simpa using h, by rw [show j + 1 + i = j + (i + 1) by omega]; exact h1, h2⟩
    have hiff : r ∈ partL S (x :: l) j ↔ (S.testBit j = true ∧ x = r) ∨ r ∈ partL S l (j + 1) := by
      show r ∈ (if S.testBit j then x :: partL S l (j + 1) else partL S l (j + 1)) ↔ _
      by_cases hb : S.testBit j = true
      · rw [if_pos hb, List.mem_cons]
        constructor
        · rintro (rfl | h)
          · exact .inl ⟨hb, rfl⟩
          · exact .inr h
        · rintro (⟨_, rfl⟩ | h)
          · exact .inl rfl
          · exact .inr h
      · rw [if_neg hb]
        exact ⟨.inr, fun h => h.resolve_left fun h' => hb h'.1⟩
    rw [hiff, ih, hs]
    constructor
    · rintro (⟨h1, h2⟩ | ⟨i, h, h1, h2⟩)
      · exact ⟨0, by simp, h1, h2⟩
      · exact ⟨i + 1, h, h1, h2⟩
    · rintro ⟨i, h, h1, h2⟩
      cases i with
      | zero => exact .inl ⟨h1, h2⟩
      | succ i => exact .inr ⟨i, h, h1, h2⟩
theorem part_ok {c : Clk} {S : Nat} (hv : VdC c) : VdC (partC c S) where
  w2 := hv.w2
  n0 := hv.n0
  n5 := hv.n5
  r8 := Nat.le_trans (part_len _ _) hv.r8
  l5 := hv.l5
  wt := hv.wt
  rd := fun r hr => by
    obtain ⟨i, hi, _, rfl⟩ := (part_mem _ _).1 hr
    exact hv.rd _ (List.getElem_mem hi)
  lk := hv.lk
theorem part_truth {c : Clk} {S : Nat} {g : List Go'} {m : Int → Int} : Truth (partC c S) (everyN (partC c S)) g m ↔ Truth c S g m := by
  constructor
  · intro h
    refine ⟨h.goes, h.days, fun i hi hb => ?_, h.links⟩
    have hm : c.rs[i] ∈ partL S c.rs 0 := (part_mem _ _).2 ⟨i, hi, by rw [Nat.zero_add]; exact hb, rfl⟩
    obtain ⟨j, hj, he⟩ := List.getElem_of_mem hm
    have := h.shows j hj (every_bit hj)
    have e2 : (partC c S).rs[j] = c.rs[i] := he
    rw [e2] at this
    exact this
  · intro h
    refine ⟨h.goes, h.days, fun i hi hb => ?_, h.links⟩
    obtain ⟨j, hj, hb2, he⟩ := (part_mem c.rs 0).1 (List.getElem_mem (l := partL S c.rs 0) hi)
    have := h.shows j hj (by rw [Nat.zero_add] at hb2; exact hb2)
    rw [he] at this
    exact this
theorem part_can {c : Clk} {S : Nat} : CanC (partC c S) (everyN (partC c S)) ↔ CanC c S :=
  ⟨fun ⟨g, m, h⟩ => ⟨g, m, part_truth.1 h⟩, fun ⟨g, m, h⟩ => ⟨g, m, part_truth.2 h⟩⟩
def rd3 (r : Rd) : List Value := [.int .i64 r.ev, .int .i64 r.wa, .int .i64 r.sh]
def rdV (l : List Rd) : List Value := l.flatMap rd3
theorem rdV_len (l : List Rd) : (rdV l).length = l.length * 3 := by unfold rdV; exact flat_len (M := 3) (f := rd3) l fun x _ => rfl
theorem rdV_app (a b : List Rd) : rdV (a ++ b) = rdV a ++ rdV b := by unfold rdV; rw [List.flatMap_append]
theorem row_rd {s : Hp} {x : Option Addr} {l : List Rd} (h : RowAt s x (rdV l)) : RdAt s x l := fun i hi => by
  have hl := rdV_len l
  have hg : ∀ t : Nat, t < 3 → (rdV l)[i * 3 + t]? = (rd3 l[i])[t]? := fun t ht => flat_get (M := 3) (f := rd3) l (fun x _ => rfl) i hi t ht
  have hc : ∀ t (ht : t < 3) (a : Addr), x = some a → cellAt s ((a.add (i * 3)).add t) = some ((rd3 l[i])[t]'ht) := fun t ht a ha => by
    have hlt : i * 3 + t < (rdV l).length := by rw [hl]; omega
    obtain ⟨b, hb, hcell⟩ := h (i * 3 + t) hlt
    rw [ha] at hb; cases hb
    have := hg t ht
    rw [List.getElem?_eq_getElem hlt, List.getElem?_eq_getElem (show t < (rd3 l[i]).length from ht)] at this
    rw [Nat.mul_one] at hcell
    rw [addr_add, hcell]
    exact this
  obtain ⟨a, ha, _⟩ := h (i * 3) (by rw [hl]; omega)
  exact ⟨a, ha, hc 0 (by omega) a ha, hc 1 (by omega) a ha, hc 2 (by omega) a ha⟩
theorem bit_i64 : ∀ S : Nat, S < 256 → ∀ i : Nat, i < 8 → (andv .i64 (shrv .i64 (S : Int) (i : Int)) 1 == 1) = S.testBit i := by
  have h : ((List.range 256).all fun (S : Nat) => (List.range 8).all fun (i : Nat) => decide ((andv .i64 (shrv .i64 (S : Int) (i : Int)) 1 == 1) = S.testBit i)) = true := by decide +kernel
  intro x hx i hi
  have h1 := List.all_eq_true.1 h x (by simpa using hx)
  have h2 := List.all_eq_true.1 h1 i (by simpa using hi)
  exact of_decide_eq_true h2
section
variable {W : World} {K : VK} {E : List PanicEntry → Hp → Prop} {s : Hp} {c : Clk} {x y z : Option Addr} {c1 c2 c3 : Nat}
theorem c_heavy {a b : Int} (hc : ClV s c x y z) (h : ∀ s' q, Ext s s' → (q = false → okC c = true → (c.rs.length : Int) ≤ b) → K (.bool q) s') : CALL Pg W F_law07_heavy [clkV c x y z c1 c2 c3, .int .i64 a, .int .i64 b] K E s := by
  unfold clkV
  refine does_law07_heavy W x _ c1 c.n y _ c2 z _ c3 a b _ s ?_
  unfold T_law07_heavy
  refine ne4 fun s1 e1 z1 o1 o2 o3 o4 => ⟨_, _, _, o1.cell, ⟨_, _, _, o3.cell, ⟨_, _, _, o4.cell, ?_⟩⟩⟩
  refine BR_bool (fun _ => h s1 true e1 (fun h => by cases h)) (fun _ => ?_)
  refine ⟨_, _, _, o1.cell, ⟨_, o2.cell, ⟨_, _, _, o3.cell, ⟨_, _, _, o4.cell, ?_⟩⟩⟩⟩
  refine f_Clock (hc.ext e1) fun s2 e2 => ?_
  try simp only [TUP_mk, AGG_mk, HD_mk, NL_mk, TYI_mk, TYB_mk, TYP_mk, TYL_mk, TYS_mk, TYM_mk, SO_mk, NX_mk, endK_mk, endK_mk', add_0]
  refine BR_not (fun hno => h s2 false (e1.trans e2) (fun _ h => by rw [hno] at h; cases h)) (fun hok => ?_)
  have hv := okC_iff.1 hok
  have hw2 := hv.w2
  refine ⟨_, _, _, (e2.own o1).cell, ?_⟩
  refine L_law07_heavy_0_rule W _ a b ⟨s.size, 0, none⟩ x _ c1 _ (fun _ n t => Ext s2 t ∧ ∃ k : Nat, n = k ∧ k ≤ c.ws.length) (fun _ n _ => ((c.ws.length : Int) - n).toNat) 1 0 s2 ⟨Ext.refl _, 0, rfl, Nat.zero_le _⟩ ?_
  rintro v n t ⟨et, k, rfl, hk⟩
  unfold B_law07_heavy_0
  have e12 := (e1.trans e2).trans et
  refine BR_dec (fun hlt => ?_) (fun hge => ?_)
  · have hkl : k < c.ws.length := by omega
    obtain ⟨a, hx0, g1, g2, g3, g4⟩ := (hc.ext e12).ws k hkl
    subst hx0
    refine IXS_nat hkl ⟨_, g1, ⟨_, g2, ⟨_, g3, ⟨_, g4, ?_⟩⟩⟩⟩
    refine nw4 zc_66 rfl rfl rfl rfl fun u f zu p1 p2 p3 p4 => ?_
    refine ⟨_, p2.cell, ⟨_, p1.cell, ⟨_, p4.cell, ⟨_, p3.cell, ?_⟩⟩⟩⟩
    try simp only [TUP_mk, AGG_mk, HD_mk, NL_mk, TYI_mk, TYB_mk, TYP_mk, TYL_mk, TYS_mk, TYM_mk, SO_mk, NX_mk, endK_mk, endK_mk', add_0]
    exact ⟨_, _, rfl, ⟨et.trans f, k + 1, wrap_succ (by omega), hkl⟩, ms_succ hkl (by omega)⟩
  · refine BR_bool (fun _ => h t true e12 (fun h => by cases h)) (fun _ => ⟨_, _, _, ((e2.trans et).own o3).cell, h t _ e12 fun hq _ => ?_⟩)
    have := of_decide_eq_false hq
    omega
theorem c_part {S : Nat} (hc : ClV s c x y z) (hr8 : c.rs.length ≤ 8) (hS : S < 256) (h : ∀ s' y' cc, Ext s s' → ClV s' (partC c S) x y' z → (∀ q, y' = some q → s.size ≤ q.block) → K (clkV (partC c S) x y' z c1 cc c3) s') : CALL Pg W F_law07_part [clkV c x y z c1 c2 c3, .int .i64 (S : Nat)] K E s := by
  unfold clkV
  refine does_law07_part W x _ c1 c.n y _ c2 z _ c3 S _ s ?_
  unfold T_law07_part
  refine ne4 fun s1 e1 z1 o1 o2 o3 o4 => ?_
  refine nz4 zc_26 fun s2 e2 z2 r1 r2 r3 r4 => ?_
  refine ⟨_, _, _, (e2.own o1).cell, ⟨_, (e2.own o2).cell, ⟨_, _, _, (e2.own o3).cell, ⟨_, _, _, (e2.own o4).cell, ?_⟩⟩⟩⟩
  refine nw4 zc_26 rfl rfl rfl rfl fun s3 e3 z3 q1 q2 q3 q4 => ?_
  refine wrOne (i := 2) q3 rfl fun s4 k4 z4 q3' qk => ?_
  have q1' := qk 0 _ (by omega) q1
  have q2' := qk 1 _ (by omega) q2
  have q4' := qk 3 _ (by omega) q4
  have e13 := e2.trans e3
  have e03 := e1.trans e13
  have e04 : Ext s s4 := ext_kp e03 (show s.size ≤ s2.size by omega) k4
  have n1 : ¬ s.size = s2.size := by omega
  have n2 : ¬ s1.size = s2.size := by omega
  refine ⟨_, _, _, (k4.own n1 (e13.own o3)).cell, ?_⟩
  have r1' := k4.own n2 (e3.own r1)
  have r2' := k4.own n2 (e3.own r2)
  have r3' := k4.own n2 (e3.own r3)
  have r4' := k4.own n2 (e3.own r4)
  have hlt : s2.size < s4.size := by omega
  refine L_law07_part_0_rule W _ (S : Nat) ⟨s1.size, 0, none⟩ ⟨s2.size, 0, none⟩ y _ c2 _ (fun n t => ∃ (k : Nat) (x' : Option Addr) (l cc : Nat), n = k ∧ k ≤ c.rs.length ∧ Kp (· = s2.size) s4 t ∧ Own t ⟨s2.size, 0, none⟩ (.slice x c.ws.length c1) ∧ Own t ⟨s2.size, 1, none⟩ (.int .i64 c.n) ∧ Own t ⟨s2.size, 2, none⟩ (.slice x' l cc) ∧ Own t ⟨s2.size, 3, none⟩ (.slice z c.ls.length c3) ∧ Fr s4.size t x' l cc 3 (rdV (partL S (c.rs.take k) 0))) (fun n _ => ((c.rs.length : Int) - n).toNat) 0 s4
    ⟨0, none, 0, 0, rfl, Nat.zero_le _, Kp.refl _, q1', q2', q3', q4', Fr.nil _ _ _⟩ ?_
  rintro n t ⟨k, x', l, cc, rfl, hk, kt, w1, w2, w3, w4, fr⟩
  have et : Ext s t := ext_kp e04 (show s.size ≤ s2.size by omega) kt
  have hl : l = (partL S (c.rs.take k) 0).length := by have := fr.len; rw [rdV_len] at this; omega
  have hl8 : l ≤ 8 := by have := part_len (S := S) (c.rs.take k) 0; simp at this; omega
  unfold B_law07_part_0
  refine BR_dec (fun hlt2 => ?_) (fun hge => ?_)
  · have hkl : k < c.rs.length := by omega
    obtain ⟨a, hx0, g1, g2, g3⟩ := (hc.ext et).rs k hkl
    have htk : partL S (c.rs.take (k + 1)) 0 = partL S (c.rs.take k) 0 ++ (if S.testBit k then [c.rs[k]] else []) := by
      rw [take_succ' hkl, part_app]
      simp [Nat.min_eq_left (Nat.le_of_lt hkl)]
    subst hx0
    refine IXS_nat hkl ⟨_, g1, ⟨_, g2, ⟨_, g3, ?_⟩⟩⟩
    refine nw3 zc_61 rfl rfl rfl fun u1 f1 y1 p1 p2 p3 => ?_
    refine NNI_of (by omega) ?_
    rw [bit_i64 S hS k (by omega)]
    have kt1 : Kp (· = s2.size) s4 u1 := kt.ext f1
    refine BR_bool (fun hb => ?_) (fun hb => ?_)
    · refine ⟨_, _, _, (f1.own w3).cell, ⟨_, p1.cell, ⟨_, p2.cell, ⟨_, p3.cell, ?_⟩⟩⟩⟩
      refine NEW_rule fun u2 f2 y2 n2' _ => ?_
      have f12 := f1.trans f2
      have hz4 : s4.size ≤ t.size := kt.1
      refine APP_fr (lo := s4.size) (fr.ext f12) (by have := f12.1; omega) (ws := rd3 c.rs[k]) (fun i hi => ⟨⟨u1.size, 0, none⟩, rfl, ?_⟩) rfl zc_61 rfl (by omega) (by simp [rd3, oneCell]) (by omega) fun u3 x3 c3' k3 hx3 fr3 => ?_
      · have hi3 : i < 3 := hi
        match i, hi3 with
        | 0, _ => exact (n2' 0 _ rfl).cell
        | 1, _ => exact (n2' 1 _ rfl).cell
        | 2, _ => exact (n2' 2 _ rfl).cell
      · have hnD : ¬ (∃ a', x' = some a' ∧ a'.block = s2.size) := by
          rintro ⟨a', ha', hb'⟩
          have := fr.fr a' ha'
          omega
        have f2o : ∀ {j v}, Own t ⟨s2.size, j, none⟩ v → Own u3 ⟨s2.size, j, none⟩ v := fun o => k3.own hnD (f12.own o)
        refine wrOne (i := 2) (f2o w3) rfl fun u4 k5 y5 w3' wk => ?_
        unfold J_law07_part_0
        try simp only [TUP_mk, AGG_mk, HD_mk, NL_mk, TYI_mk, TYB_mk, TYP_mk, TYL_mk, TYS_mk, TYM_mk, SO_mk, NX_mk, endK_mk, endK_mk', add_0]
        have kt3 : Kp (· = s2.size) s4 u3 := ⟨by have := f12.1; have := k3.1; omega, fun b hb0 hb1 => by
          rw [k3.2 b (by have := f12.1; omega) (by
            rintro ⟨a', ha', hb'⟩
            have h6 := fr.fr a' ha'
            omega), f12.2 b (by omega)]
          exact kt.2 b hb0 hb1⟩
        refine ⟨_, rfl, ⟨k + 1, x3, l + 1, c3', wrap_succ (by omega), hkl, kt3.trans k5, wk 0 _ (by omega) (f2o w1), wk 1 _ (by omega) (f2o w2), w3', wk 3 _ (by omega) (f2o w4), ?_⟩, ms_succ hkl (by omega)⟩
        rw [htk, if_pos hb, rdV_app]
        have e1 : rdV [c.rs[k]] = rd3 c.rs[k] := by unfold rdV; simp
        rw [e1]
        exact fr3.kp k5 fun a' ha' hb' => by have := fr3.fr a' ha'; have : a'.block = s2.size := hb'; omega
    · unfold J_law07_part_0
      try simp only [TUP_mk, AGG_mk, HD_mk, NL_mk, TYI_mk, TYB_mk, TYP_mk, TYL_mk, TYS_mk, TYM_mk, SO_mk, NX_mk, endK_mk, endK_mk', add_0]
      refine ⟨_, rfl, ⟨k + 1, x', l, cc, wrap_succ (by omega), hkl, kt1, f1.own w1, f1.own w2, f1.own w3, f1.own w4, ?_⟩, ms_succ hkl (by omega)⟩
      rw [htk, if_neg (by rw [hb]; simp), List.append_nil]
      exact fr.ext f1
  · have hkl : k = c.rs.length := by omega
    subst hkl
    rw [List.take_length] at fr hl
    refine ⟨_, _, _, w1.cell, ⟨_, w2.cell, ⟨_, _, _, w3.cell, ⟨_, _, _, w4.cell, ?_⟩⟩⟩⟩
    have n3 : ¬ s1.size = s2.size := by omega
    have t1 := kt.own n3 r1'
    have t2 := kt.own n3 r2'
    have t3 := kt.own n3 r3'
    have t4 := kt.own n3 r4'
    show wrN [_, _, _, _] ⟨s1.size, 0, none⟩ 0 _ t
    refine wrN_rule _ _ 0 _ t (fun i hi => ?_) ?_ ?_
    · match i, hi with
      | 0, _ => exact ⟨_, t1⟩
      | 1, _ => exact ⟨_, t2⟩
      | 2, _ => exact ⟨_, t3⟩
      | 3, _ => exact ⟨_, t4⟩
    · intro w hw
      simp at hw
      rcases hw with rfl | rfl | rfl | rfl <;> rfl
    · intro u k zu ho _
      have q0 := ho 0 (by simp)
      have q1 := ho 1 (by simp)
      have q2 := ho 2 (by simp)
      have q3 := ho 3 (by simp)
      refine ⟨_, _, _, q0.cell, ⟨_, q1.cell, ⟨_, _, _, q2.cell, ⟨_, _, _, q3.cell, ?_⟩⟩⟩⟩
      have eu : Ext s u := ext_kp et (show s.size ≤ s1.size by omega) k
      have hcu := hc.ext eu
      have hro : RowAt u x' (rdV (partL S c.rs 0)) := fr.row.keep k fun a' ha' hb' => by have := fr.fr a' ha'; have : a'.block = s1.size := hb'; omega
      have hh := h u x' cc eu ⟨hcu.ws, row_rd hro, hcu.ls⟩ (fun q hq => by have := fr.fr q hq; omega)
      rw [hl]
      exact hh
end
end Go.Proofs.Ytknpmijgdfeliaa.G

/- Clock: plain: a watch without readings; a reading that tells nothing more. -/
set_option linter.unusedSimpArgs false
set_option linter.unusedVariables false
set_option maxRecDepth 20000
namespace Go.Proofs.Ytknpmijgdfeliaa.G
open Go.V
theorem goes_set : ∀ {ws : List Wt} {g : List Go'}, GoesOk ws g → ∀ (i : Nat) (hi : i < ws.length) (q : Go'), GoOk ws[i] q → GoesOk ws (g.set i q)
  | _, _, .nil, i, hi, _, _ => by simp at hi
  | _, _, .cons h t, 0, _, q, hq => .cons hq t
  | _, _, .cons h t, i + 1, hi, q, hq => .cons h (goes_set t i (by simpa using hi) q hq)
theorem getD_set_ne {g : List Go'} {i j : Nat} {q : Go'} (h : i ≠ j) : (g.set i q).getD j (0, 0) = g.getD j (0, 0) := by
  simp only [List.getD_eq_getElem?_getD, List.getElem?_set, if_neg h]
theorem getD_set_eq {g : List Go'} {i : Nat} {q : Go'} (h : i < g.length) : (g.set i q).getD i (0, 0) = q := by
  simp only [List.getD_eq_getElem?_getD, List.getElem?_set, if_pos h, if_true, Option.getD_some]
/-- A watch whose readings are not asked for can go in any way. -/
theorem truth_set {c : Clk} {S : Nat} {g : List Go'} {m : Int → Int} {w : Nat} {q : Go'} (hv : VdC c) (h : Truth c S g m) (hw : w < c.ws.length) (hq : GoOk c.ws[w] q) (hno : ∀ i (hi : i < c.rs.length), S.testBit i = true → c.rs[i].wa ≠ (w : Int)) : Truth c S (g.set w q) m where
  goes := goes_set h.goes w hw q hq
  days := h.days
  shows := fun i hi hb => by
    have h1 := hno i hi hb
    have h2 := hv.rd _ (List.getElem_mem hi)
    rw [getD_set_ne (by omega)]
    exact h.shows i hi hb
  links := h.links
theorem alone_span {c : Clk} {S : Nat} {w : Nat} {zl zh rl rh : Int} (hv : VdC c) (hw : w < c.ws.length) (hno : ∀ i (hi : i < c.rs.length), S.testBit i = true → c.rs[i].wa ≠ (w : Int)) (hz : SpanC c S (zeroV (w : Int)) zl zh) (hr : SpanC c S (rateV (w : Int)) rl rh) :
    zl = c.ws[w].zlo ∧ zh = c.ws[w].zhi ∧ rl = c.ws[w].rlo ∧ rh = c.ws[w].rhi := by
  obtain ⟨⟨g1, m1, t1, v1⟩, ⟨g2, m2, t2, v2⟩, hz3⟩ := hz
  obtain ⟨⟨g3, m3, t3, v3⟩, ⟨g4, m4, t4, v4⟩, hr3⟩ := hr
  have hwv := hv.wt _ (List.getElem_mem hw)
  have hb : ∀ g m, Truth c S g m → GoOk c.ws[w] (g.getD w (0, 0)) := fun g m t => t.goes.get w hw
  have hlen : ∀ g m, Truth c S g m → w < g.length := fun g m t => by rw [t.goes.len]; exact hw
  have hzv : ∀ g : List Go', ∀ m, zeroV (w : Int) g m = (g.getD w (0, 0)).1 := fun g m => by unfold zeroV; rw [Int.toNat_natCast]
  have hrv : ∀ g : List Go', ∀ m, rateV (w : Int) g m = (g.getD w (0, 0)).2 := fun g m => by unfold rateV; rw [Int.toNat_natCast]
  rw [hzv] at v1 v2
  rw [hrv] at v3 v4
  have b1 := hb g1 m1 t1
  have b2 := hb g2 m2 t2
  have b3 := hb g3 m3 t3
  have b4 := hb g4 m4 t4
  have hput : ∀ q : Go', GoOk c.ws[w] q → zl ≤ q.1 ∧ q.1 ≤ zh ∧ rl ≤ q.2 ∧ q.2 ≤ rh := fun q hq => by
    have t := truth_set hv t1 hw hq hno
    have x := hz3 _ _ t
    have y := hr3 _ _ t
    rw [hzv, getD_set_eq (hlen g1 m1 t1)] at x
    rw [hrv, getD_set_eq (hlen g1 m1 t1)] at y
    exact ⟨x.1, x.2, y.1, y.2⟩
  have p1 := hput (c.ws[w].zlo, c.ws[w].rlo) ⟨Int.le_refl _, hwv.2.1, Int.le_refl _, hwv.2.2.2.2.2.1⟩
  have p2 := hput (c.ws[w].zhi, c.ws[w].rhi) ⟨hwv.2.1, Int.le_refl _, hwv.2.2.2.2.2.1, Int.le_refl _⟩
  unfold GoOk at b1 b2 b3 b4
  simp only at p1 p2
  omega
/-- A clock with a reading more. -/
def moreR (c : Clk) (r : Rd) : Clk := { c with rs := c.rs ++ [r] }
theorem moreR_ok {c : Clk} {r : Rd} (hv : VdC c) (h7 : c.rs.length ≤ 7) (hr : 0 ≤ r.ev ∧ r.ev < c.n ∧ 0 ≤ r.wa ∧ r.wa < c.ws.length ∧ 0 ≤ r.sh ∧ r.sh ≤ 2000) : VdC (moreR c r) where
  w2 := hv.w2
  n0 := hv.n0
  n5 := hv.n5
  r8 := by show (c.rs ++ [r]).length ≤ 8; simp; omega
  l5 := hv.l5
  wt := hv.wt
  rd := fun q hq => by
    rcases List.mem_append.1 hq with hq | hq
    · exact hv.rd q hq
    · rw [List.mem_singleton] at hq; subst hq; exact hr
  lk := hv.lk
theorem truth_every {c : Clk} {g : List Go'} {m : Int → Int} : Truth c (everyN c) g m ↔ GoesOk c.ws g ∧ (∀ e, 0 ≤ e → e < c.n → 0 ≤ m e ∧ m e ≤ 600) ∧ (∀ r ∈ c.rs, showP (g.getD r.wa.toNat (0, 0)) (m r.ev) = r.sh) ∧ ∀ l ∈ c.ls, l.lo ≤ m l.b - m l.a ∧ m l.b - m l.a ≤ l.hi := by
  constructor
  · intro h
    refine ⟨h.goes, h.days, fun r hr => ?_, h.links⟩
    obtain ⟨i, hi, rfl⟩ := List.getElem_of_mem hr
    exact h.shows i hi (every_bit hi)
  · rintro ⟨h1, h2, h3, h4⟩
    exact ⟨h1, h2, fun i hi _ => h3 _ (List.getElem_mem hi), h4⟩
theorem moreR_truth {c : Clk} {r : Rd} {g : List Go'} {m : Int → Int} : Truth (moreR c r) (everyN (moreR c r)) g m ↔ Truth c (everyN c) g m ∧ showP (g.getD r.wa.toNat (0, 0)) (m r.ev) = r.sh := by
  rw [truth_every, truth_every]
  constructor
  · rintro ⟨h1, h2, h3, h4⟩
    exact ⟨⟨h1, h2, fun q hq => h3 q (List.mem_append_left _ hq), h4⟩, h3 r (List.mem_append_right _ (by simp))⟩
  · rintro ⟨⟨h1, h2, h3, h4⟩, h5⟩
    refine ⟨h1, h2, fun q hq => ?_, h4⟩
    rcases List.mem_append.1 hq with hq | hq
    · exact h3 q hq
    · rw [List.mem_singleton] at hq; subst hq; exact h5
theorem span_uniq {c c' : Clk} {S S' : Nat} {val : List Go' → (Int → Int) → Int} {lo hi lo' hi' : Int} (h : SpanC c S val lo hi) (h' : SpanC c' S' val lo' hi') (he : ∀ g m, Truth c S g m ↔ Truth c' S' g m) : lo = lo' ∧ hi = hi' := by
  obtain ⟨⟨g1, m1, t1, v1⟩, ⟨g2, m2, t2, v2⟩, h3⟩ := h
  obtain ⟨⟨g1', m1', t1', v1'⟩, ⟨g2', m2', t2', v2'⟩, h3'⟩ := h'
  have a1 := h3' _ _ ((he _ _).1 t1)
  have a2 := h3' _ _ ((he _ _).1 t2)
  have a3 := h3 _ _ ((he _ _).2 t1')
  have a4 := h3 _ _ ((he _ _).2 t2')
  omega
theorem span_sub {c c' : Clk} {S S' : Nat} {val : List Go' → (Int → Int) → Int} {lo hi lo' hi' : Int} (h : SpanC c S val lo hi) (h' : SpanC c' S' val lo' hi') (he : ∀ g m, Truth c' S' g m → Truth c S g m) : lo ≤ lo' ∧ hi' ≤ hi := by
  obtain ⟨_, _, h3⟩ := h
  obtain ⟨⟨g1', m1', t1', v1'⟩, ⟨g2', m2', t2', v2'⟩, _⟩ := h'
  have a3 := h3 _ _ (he _ _ t1')
  have a4 := h3 _ _ (he _ _ t2')
  omega
end Go.Proofs.Ytknpmijgdfeliaa.G

/- More of the functions' shallow texts, by gen.py. -/
set_option linter.unusedVariables false
set_option maxRecDepth 100000
namespace Go.Proofs.Ytknpmijgdfeliaa.G
open Go.V
def an_8 : Nat → Ann := fun b => match b with
 | 0 => { ms := [6, 150], ks := [.b, .i .i64], us := [3, 15, 149, 178], rt := false, ex := [] }
 | _ => {}
abbrev rv_8 : List ResultVar := [.tmp 6]
abbrev rs_8 : List Nat := [178, 6]
def L_law07_ClockAlone_0 (W : World) (R : Ending → Hp → Prop) (za0 : Addr) (za1 : Addr) (zn2 : Int) (b404 : Bool) (n405 : Int) : Hp → Prop :=
 LOOPN [.b, .i .i64] (fun ys next s => ∀ j : Tm, vc Pg W 178 rs_8 an_8 false (sub (bodyOf Try.f8) [1, 1, 1, 1, 1, 1, 1, 1, 1, 1, 0, 1, 0, 0]) 0 (KLoop [6, 150] [3, 15, 149, 178] [(.pointer (some za0)), (.pointer (some za1)), (.int .i64 zn2), (.tuple #[])] next (KBlk 0 (KS Pg W 178 rs_8 an_8 false (sub (bodyOf Try.f8) [1, 1, 1, 1, 1, 1, 1, 1, 1, 1, 1]) 0 (fin Pg W 178 rv_8 R)))) (known [6, 150] ys (known [3, 15, 149, 178] [(.pointer (some za0)), (.pointer (some za1)), (.int .i64 zn2), (.tuple #[])] j)) s) [(.bool b404), (.int .i64 n405)]
def J_law07_ClockAlone_0 (W : World) (R : Ending → Hp → Prop) (b212 : Bool) (n205 : Int) : Hp → Prop :=
 BR b212
 (CALL Pg W F_law07_alive []
 (fun v213 => TYB v213 fun b215 =>
 R (.returned (.bool b215)))
 (fun e214 => R (.panicked e214)))
 (BR (n205 == 10)
 (CALL Pg W F_law07_alive []
 (fun v216 => TYB v216 fun b218 =>
 R (.returned (.bool b218)))
 (fun e217 => R (.panicked e217)))
 (R (.returned (.bool false))))
def J_law07_ClockAlone_1 (W : World) (R : Ending → Hp → Prop) (B13 : Nat) (B229 : Nat) : Hp → Prop :=
 RDI .i64 (Addr.add ⟨B13, 0, none⟩ 1) fun n250 =>
 L_law07_ClockAlone_0 W R ⟨B13, 0, none⟩ ⟨B229, 0, none⟩ n250 false 0
def J_law07_ClockAlone_2 (W : World) (R : Ending → Hp → Prop) (b209 : Bool) (n205 : Int) (B206 : Nat) (B13 : Nat) (n12 : Int) (n36 : Int) (n11 : Int) (l34 : Nat) : Hp → Prop :=
 BR b209
 (BR (n205 == 0)
 (RDI .i64 (Addr.add ⟨B206, 0, none⟩ 0) fun n210 =>
 RDI .i64 (Addr.add ⟨B206, 0, none⟩ 1) fun n211 =>
 J_law07_ClockAlone_0 W R (decide (n210 ≤ n211)) n205)
 (J_law07_ClockAlone_0 W R false n205))
 (RDL (Addr.add ⟨B13, 0, none⟩ 0) fun x219 l220 c221 =>
 RDI .i64 (Addr.add ⟨B13, 0, none⟩ 1) fun n222 =>
 RDL (Addr.add ⟨B13, 0, none⟩ 2) fun x223 l224 c225 =>
 RDL (Addr.add ⟨B13, 0, none⟩ 3) fun x226 l227 c228 =>
 NEWZ Pg 26 fun B229 =>
 WR (Addr.add ⟨B229, 0, none⟩ 0) (.slice x219 l220 c221) <|
 WR (Addr.add ⟨B229, 0, none⟩ 1) (.int .i64 n222) <|
 WR (Addr.add ⟨B229, 0, none⟩ 2) (.slice x223 l224 c225) <|
 WR (Addr.add ⟨B229, 0, none⟩ 3) (.slice x226 l227 c228) <|
 RDL (Addr.add ⟨B13, 0, none⟩ 2) fun x230 l231 c232 =>
 RDI .i64 (Addr.add ⟨B206, 0, none⟩ 0) fun n233 =>
 CONJ [
 NEW 61 [] fun B234 =>
 ANDS (RDI .i64 (Addr.add ⟨B206, 0, none⟩ 0) fun n235 =>
 fun _ => ((.int .i64 n235) : Value) = (.int .i64 n233)) <|
 ANDS (RDL (Addr.add ⟨B13, 0, none⟩ 2) fun x236 l237 c238 =>
 fun _ => ((.slice x236 l237 c238) : Value) = (.slice x230 l231 c232)) <|
 CONJ [
 APP Pg 61 3 (some ⟨B234, 0, none⟩) 0 0 x230 l231 fun x239 l240 c241 =>
 ANDS (RDI .i64 (Addr.add ⟨B206, 0, none⟩ 0) fun n242 =>
 fun _ => ((.int .i64 n242) : Value) = (.int .i64 n233)) <|
 NEW 61 [(.int .i64 (Int.tmod (IntKind.wrap .i64 n12) n36)), (.int .i64 (Int.tmod (IntKind.wrap .i64 n11) (↑l34 : Int))), (.int .i64 n233)] fun B243 =>
 ANDS (RDL (Addr.add ⟨B13, 0, none⟩ 2) fun x244 l245 c246 =>
 fun _ => ((.slice x244 l245 c246) : Value) = (.slice x230 l231 c232)) <|
 APP Pg 61 3 x239 l240 c241 (some ⟨B243, 0, none⟩) 1 fun x247 l248 c249 =>
 WR (Addr.add (Addr.add ⟨B229, 0, none⟩ 2) 0) (.slice x247 l248 c249) <|
 J_law07_ClockAlone_1 W R B13 B229,
 NEW 61 [(.int .i64 (Int.tmod (IntKind.wrap .i64 n12) n36)), (.int .i64 (Int.tmod (IntKind.wrap .i64 n11) (↑l34 : Int))), (.int .i64 n233)] fun B251 =>
 ANDS (RDL (Addr.add ⟨B13, 0, none⟩ 2) fun x252 l253 c254 =>
 fun _ => ((.slice x252 l253 c254) : Value) = (.slice x230 l231 c232)) <|
 APP Pg 61 3 (some ⟨B234, 0, none⟩) 0 0 x230 l231 fun x255 l256 c257 =>
 ANDS (RDI .i64 (Addr.add ⟨B206, 0, none⟩ 0) fun n258 =>
 fun _ => ((.int .i64 n258) : Value) = (.int .i64 n233)) <|
 APP Pg 61 3 x255 l256 c257 (some ⟨B251, 0, none⟩) 1 fun x259 l260 c261 =>
 WR (Addr.add (Addr.add ⟨B229, 0, none⟩ 2) 0) (.slice x259 l260 c261) <|
 J_law07_ClockAlone_1 W R B13 B229],
 NEW 61 [(.int .i64 (Int.tmod (IntKind.wrap .i64 n12) n36)), (.int .i64 (Int.tmod (IntKind.wrap .i64 n11) (↑l34 : Int))), (.int .i64 n233)] fun B262 =>
 ANDS (RDL (Addr.add ⟨B13, 0, none⟩ 2) fun x263 l264 c265 =>
 fun _ => ((.slice x263 l264 c265) : Value) = (.slice x230 l231 c232)) <|
 NEW 61 [] fun B266 =>
 ANDS (RDI .i64 (Addr.add ⟨B206, 0, none⟩ 0) fun n267 =>
 fun _ => ((.int .i64 n267) : Value) = (.int .i64 n233)) <|
 ANDS (RDL (Addr.add ⟨B13, 0, none⟩ 2) fun x268 l269 c270 =>
 fun _ => ((.slice x268 l269 c270) : Value) = (.slice x230 l231 c232)) <|
 APP Pg 61 3 (some ⟨B266, 0, none⟩) 0 0 x230 l231 fun x271 l272 c273 =>
 ANDS (RDI .i64 (Addr.add ⟨B206, 0, none⟩ 0) fun n274 =>
 fun _ => ((.int .i64 n274) : Value) = (.int .i64 n233)) <|
 APP Pg 61 3 x271 l272 c273 (some ⟨B262, 0, none⟩) 1 fun x275 l276 c277 =>
 WR (Addr.add (Addr.add ⟨B229, 0, none⟩ 2) 0) (.slice x275 l276 c277) <|
 J_law07_ClockAlone_1 W R B13 B229])
def J_law07_ClockAlone_3 (W : World) (R : Ending → Hp → Prop) (b208 : Bool) (n205 : Int) (B206 : Nat) (B13 : Nat) (n12 : Int) (n36 : Int) (n11 : Int) (l34 : Nat) : Hp → Prop :=
 BR b208
 (J_law07_ClockAlone_2 W R true n205 B206 B13 n12 n36 n11 l34)
 (RDI .i64 (Addr.add ⟨B206, 0, none⟩ 0) fun n278 =>
 J_law07_ClockAlone_2 W R (decide (n278 > 2000)) n205 B206 B13 n12 n36 n11 l34)
def J_law07_ClockAlone_4 (W : World) (R : Ending → Hp → Prop) (b207 : Bool) (n205 : Int) (B206 : Nat) (B13 : Nat) (n12 : Int) (n36 : Int) (n11 : Int) (l34 : Nat) : Hp → Prop :=
 BR b207
 (J_law07_ClockAlone_3 W R true n205 B206 B13 n12 n36 n11 l34)
 (RDI .i64 (Addr.add ⟨B206, 0, none⟩ 0) fun n279 =>
 J_law07_ClockAlone_3 W R (decide (n279 < 0)) n205 B206 B13 n12 n36 n11 l34)
def J_law07_ClockAlone_5 (W : World) (R : Ending → Hp → Prop) (b180 : Bool) (B13 : Nat) (n11 : Int) (l34 : Nat) (n12 : Int) (n36 : Int) : Hp → Prop :=
 BR b180
 (R (.returned (.bool false)))
 (RDL (Addr.add ⟨B13, 0, none⟩ 0) fun x181 l182 c183 =>
 RDI .i64 (Addr.add ⟨B13, 0, none⟩ 1) fun n184 =>
 RDL (Addr.add ⟨B13, 0, none⟩ 2) fun x185 l186 c187 =>
 RDL (Addr.add ⟨B13, 0, none⟩ 3) fun x188 l189 c190 =>
 CALL Pg W F_clock_Shows [(.agg #[(.slice x181 l182 c183), (.int .i64 n184), (.slice x185 l186 c187), (.slice x188 l189 c190)]), (.int .i64 (Int.tmod (IntKind.wrap .i64 n11) (↑l34 : Int))), (.int .i64 (Int.tmod (IntKind.wrap .i64 n12) n36))]
 (fun v191 => TUP v191 fun q193 => HD q193 fun v194 r195 => AGG v194 fun q196 => HD q196 fun v197 r198 => TYI .i64 v197 fun n199 =>
 HD r198 fun v200 r201 => TYI .i64 v200 fun n202 =>
 NL r201 <|
 HD r195 fun v203 r204 => TYI .i64 v203 fun n205 =>
 NL r204 <|
 NEWZ Pg 34 fun B206 =>
 WR (Addr.add ⟨B206, 0, none⟩ 0) (.int .i64 n199) <|
 WR (Addr.add ⟨B206, 0, none⟩ 1) (.int .i64 n202) <|
 BR (n205 != 0)
 (J_law07_ClockAlone_4 W R true n205 B206 B13 n12 n36 n11 l34)
 (RDI .i64 (Addr.add ⟨B206, 0, none⟩ 0) fun n280 =>
 RDI .i64 (Addr.add ⟨B206, 0, none⟩ 1) fun n281 =>
 J_law07_ClockAlone_4 W R (n280 != n281) n205 B206 B13 n12 n36 n11 l34))
 (fun e192 => R (.panicked e192)))
def J_law07_ClockAlone_6 (W : World) (R : Ending → Hp → Prop) (b179 : Bool) (B13 : Nat) (n11 : Int) (l34 : Nat) (n12 : Int) (n36 : Int) (n148 : Int) : Hp → Prop :=
 BR b179
 (J_law07_ClockAlone_5 W R true B13 n11 l34 n12 n36)
 (BR (n148 != 0)
 (J_law07_ClockAlone_5 W R (n148 != 10) B13 n11 l34 n12 n36)
 (J_law07_ClockAlone_5 W R false B13 n11 l34 n12 n36))
def J_law07_ClockAlone_7 (W : World) (R : Ending → Hp → Prop) (p113 : Option Addr) (n11 : Int) (l34 : Nat) (B13 : Nat) (n12 : Int) (n36 : Int) : Hp → Prop :=
 SO p113 fun a114 =>
 RDL (Addr.add a114 0) fun x115 l116 c117 =>
 RDI .i64 (Addr.add a114 1) fun n118 =>
 RDL (Addr.add a114 2) fun x119 l120 c121 =>
 RDL (Addr.add a114 3) fun x122 l123 c124 =>
 CALL Pg W F_clock_Goes [(.agg #[(.slice x115 l116 c117), (.int .i64 n118), (.slice x119 l120 c121), (.slice x122 l123 c124)]), (.int .i64 (Int.tmod (IntKind.wrap .i64 n11) (↑l34 : Int)))]
 (fun v125 => TUP v125 fun q127 => HD q127 fun v128 r129 => AGG v128 fun q130 => HD q130 fun v131 r132 => TYI .i64 v131 fun n133 =>
 HD r132 fun v134 r135 => TYI .i64 v134 fun n136 =>
 NL r135 <|
 HD r129 fun v137 r138 => AGG v137 fun q139 => HD q139 fun v140 r141 => TYI .i64 v140 fun n142 =>
 HD r141 fun v143 r144 => TYI .i64 v143 fun n145 =>
 NL r144 <|
 HD r138 fun v146 r147 => TYI .i64 v146 fun n148 =>
 NL r147 <|
 NEWZ Pg 34 fun B149 =>
 NEWZ Pg 34 fun B150 =>
 WR (Addr.add ⟨B149, 0, none⟩ 0) (.int .i64 n133) <|
 WR (Addr.add ⟨B149, 0, none⟩ 1) (.int .i64 n136) <|
 WR (Addr.add ⟨B150, 0, none⟩ 0) (.int .i64 n142) <|
 WR (Addr.add ⟨B150, 0, none⟩ 1) (.int .i64 n145) <|
 BR (n148 == 0)
 (RDI .i64 (Addr.add ⟨B149, 0, none⟩ 0) fun n151 =>
 RDI .i64 (Addr.add ⟨B149, 0, none⟩ 1) fun n152 =>
 RDL (Addr.add ⟨B13, 0, none⟩ 0) fun x153 l154 c155 =>
 IXS x153 l154 (Int.tmod (IntKind.wrap .i64 n11) (↑l34 : Int)) 4 fun a156 =>
 RDI .i64 (Addr.add (Addr.add a156 0) 0) fun n157 =>
 RDI .i64 (Addr.add (Addr.add a156 0) 1) fun n158 =>
 BR (!((n151 == n157) && (n152 == n158)))
 (J_law07_ClockAlone_6 W R true B13 n11 l34 n12 n36 n148)
 (RDI .i64 (Addr.add ⟨B150, 0, none⟩ 0) fun n282 =>
 RDI .i64 (Addr.add ⟨B150, 0, none⟩ 1) fun n283 =>
 RDL (Addr.add ⟨B13, 0, none⟩ 0) fun x284 l285 c286 =>
 IXS x284 l285 (Int.tmod (IntKind.wrap .i64 n11) (↑l34 : Int)) 4 fun a287 =>
 RDI .i64 (Addr.add (Addr.add a287 2) 0) fun n288 =>
 RDI .i64 (Addr.add (Addr.add a287 2) 1) fun n289 =>
 J_law07_ClockAlone_6 W R (!((n282 == n288) && (n283 == n289))) B13 n11 l34 n12 n36 n148))
 (J_law07_ClockAlone_6 W R false B13 n11 l34 n12 n36 n148))
 (fun e126 => R (.panicked e126))
def J_law07_ClockAlone_8 (W : World) (R : Ending → Hp → Prop) (b29 : Bool) (B13 : Nat) (n11 : Int) (n12 : Int) : Hp → Prop :=
 BR b29
 (CALL Pg W F_law07_alive []
 (fun v30 => TYB v30 fun b32 =>
 R (.returned (.bool b32)))
 (fun e31 => R (.panicked e31)))
 (RDL (Addr.add ⟨B13, 0, none⟩ 0) fun x33 l34 c35 =>
 NZI (↑l34 : Int) <|
 RDI .i64 (Addr.add ⟨B13, 0, none⟩ 1) fun n36 =>
 NZI n36 <|
 ANDS (RDI .i64 (Addr.add ⟨B13, 0, none⟩ 1) fun n37 =>
 fun _ => ((.int .i64 n37) : Value) = (.int .i64 n36)) <|
 RDL (Addr.add ⟨B13, 0, none⟩ 0) fun x38 l39 c40 =>
 RDI .i64 (Addr.add ⟨B13, 0, none⟩ 1) fun n41 =>
 RDL (Addr.add ⟨B13, 0, none⟩ 2) fun x42 l43 c44 =>
 RDL (Addr.add ⟨B13, 0, none⟩ 3) fun x45 l46 c47 =>
 RDL (Addr.add ⟨B13, 0, none⟩ 0) fun x48 l49 c50 =>
 RDI .i64 (Addr.add ⟨B13, 0, none⟩ 1) fun n51 =>
 RDL (Addr.add ⟨B13, 0, none⟩ 2) fun x52 l53 c54 =>
 RDL (Addr.add ⟨B13, 0, none⟩ 3) fun x55 l56 c57 =>
 CONJ [
 CALL Pg W F_ref07_Without [(.agg #[(.slice x48 l49 c50), (.int .i64 n51), (.slice x52 l53 c54), (.slice x55 l56 c57)]), (.int .i64 (Int.tmod (IntKind.wrap .i64 n11) (↑l34 : Int)))]
 (fun v58 => TYI .i64 v58 fun n60 =>
 ANDS (RDL (Addr.add ⟨B13, 0, none⟩ 0) fun x61 l62 c63 =>
 RDI .i64 (Addr.add ⟨B13, 0, none⟩ 1) fun n64 =>
 RDL (Addr.add ⟨B13, 0, none⟩ 2) fun x65 l66 c67 =>
 RDL (Addr.add ⟨B13, 0, none⟩ 3) fun x68 l69 c70 =>
 fun _ => ((.agg #[(.slice x61 l62 c63), (.int .i64 n64), (.slice x65 l66 c67), (.slice x68 l69 c70)]) : Value) = (.agg #[(.slice x38 l39 c40), (.int .i64 n41), (.slice x42 l43 c44), (.slice x45 l46 c47)])) <|
 CONJ [
 CALL Pg W F_law07_part [(.agg #[(.slice x38 l39 c40), (.int .i64 n41), (.slice x42 l43 c44), (.slice x45 l46 c47)]), (.int .i64 n60)]
 (fun v71 => AGG v71 fun q73 => HD q73 fun v74 r75 => TYL v74 fun x76 l77 c78 =>
 HD r75 fun v79 r80 => TYI .i64 v79 fun n81 =>
 HD r80 fun v82 r83 => TYL v82 fun x84 l85 c86 =>
 HD r83 fun v87 r88 => TYL v87 fun x89 l90 c91 =>
 NL r88 <|
 NEWZ Pg 26 fun B92 =>
 ANDS (RDL (Addr.add ⟨B13, 0, none⟩ 0) fun x93 l94 c95 =>
 RDI .i64 (Addr.add ⟨B13, 0, none⟩ 1) fun n96 =>
 RDL (Addr.add ⟨B13, 0, none⟩ 2) fun x97 l98 c99 =>
 RDL (Addr.add ⟨B13, 0, none⟩ 3) fun x100 l101 c102 =>
 fun _ => ((.agg #[(.slice x93 l94 c95), (.int .i64 n96), (.slice x97 l98 c99), (.slice x100 l101 c102)]) : Value) = (.agg #[(.slice x48 l49 c50), (.int .i64 n51), (.slice x52 l53 c54), (.slice x55 l56 c57)])) <|
 ANDS (RDL (Addr.add ⟨B13, 0, none⟩ 0) fun x103 l104 c105 =>
 RDI .i64 (Addr.add ⟨B13, 0, none⟩ 1) fun n106 =>
 RDL (Addr.add ⟨B13, 0, none⟩ 2) fun x107 l108 c109 =>
 RDL (Addr.add ⟨B13, 0, none⟩ 3) fun x110 l111 c112 =>
 fun _ => ((.agg #[(.slice x103 l104 c105), (.int .i64 n106), (.slice x107 l108 c109), (.slice x110 l111 c112)]) : Value) = (.agg #[(.slice x38 l39 c40), (.int .i64 n41), (.slice x42 l43 c44), (.slice x45 l46 c47)])) <|
 WR (Addr.add ⟨B92, 0, none⟩ 0) (.slice x76 l77 c78) <|
 WR (Addr.add ⟨B92, 0, none⟩ 1) (.int .i64 n81) <|
 WR (Addr.add ⟨B92, 0, none⟩ 2) (.slice x84 l85 c86) <|
 WR (Addr.add ⟨B92, 0, none⟩ 3) (.slice x89 l90 c91) <|
 J_law07_ClockAlone_7 W R (some ⟨B92, 0, none⟩) n11 l34 B13 n12 n36)
 (fun e72 => R (.panicked e72)),
 NEWZ Pg 26 fun B290 =>
 ANDS (RDL (Addr.add ⟨B13, 0, none⟩ 0) fun x291 l292 c293 =>
 RDI .i64 (Addr.add ⟨B13, 0, none⟩ 1) fun n294 =>
 RDL (Addr.add ⟨B13, 0, none⟩ 2) fun x295 l296 c297 =>
 RDL (Addr.add ⟨B13, 0, none⟩ 3) fun x298 l299 c300 =>
 fun _ => ((.agg #[(.slice x291 l292 c293), (.int .i64 n294), (.slice x295 l296 c297), (.slice x298 l299 c300)]) : Value) = (.agg #[(.slice x48 l49 c50), (.int .i64 n51), (.slice x52 l53 c54), (.slice x55 l56 c57)])) <|
 ANDS (RDL (Addr.add ⟨B13, 0, none⟩ 0) fun x301 l302 c303 =>
 RDI .i64 (Addr.add ⟨B13, 0, none⟩ 1) fun n304 =>
 RDL (Addr.add ⟨B13, 0, none⟩ 2) fun x305 l306 c307 =>
 RDL (Addr.add ⟨B13, 0, none⟩ 3) fun x308 l309 c310 =>
 fun _ => ((.agg #[(.slice x301 l302 c303), (.int .i64 n304), (.slice x305 l306 c307), (.slice x308 l309 c310)]) : Value) = (.agg #[(.slice x38 l39 c40), (.int .i64 n41), (.slice x42 l43 c44), (.slice x45 l46 c47)])) <|
 CALL Pg W F_law07_part [(.agg #[(.slice x38 l39 c40), (.int .i64 n41), (.slice x42 l43 c44), (.slice x45 l46 c47)]), (.int .i64 n60)]
 (fun v311 => AGG v311 fun q313 => HD q313 fun v314 r315 => TYL v314 fun x316 l317 c318 =>
 HD r315 fun v319 r320 => TYI .i64 v319 fun n321 =>
 HD r320 fun v322 r323 => TYL v322 fun x324 l325 c326 =>
 HD r323 fun v327 r328 => TYL v327 fun x329 l330 c331 =>
 NL r328 <|
 WR (Addr.add ⟨B290, 0, none⟩ 0) (.slice x316 l317 c318) <|
 WR (Addr.add ⟨B290, 0, none⟩ 1) (.int .i64 n321) <|
 WR (Addr.add ⟨B290, 0, none⟩ 2) (.slice x324 l325 c326) <|
 WR (Addr.add ⟨B290, 0, none⟩ 3) (.slice x329 l330 c331) <|
 J_law07_ClockAlone_7 W R (some ⟨B290, 0, none⟩) n11 l34 B13 n12 n36)
 (fun e312 => R (.panicked e312))])
 (fun e59 => R (.panicked e59)),
 NEWZ Pg 26 fun B332 =>
 ANDS (RDL (Addr.add ⟨B13, 0, none⟩ 0) fun x333 l334 c335 =>
 RDI .i64 (Addr.add ⟨B13, 0, none⟩ 1) fun n336 =>
 RDL (Addr.add ⟨B13, 0, none⟩ 2) fun x337 l338 c339 =>
 RDL (Addr.add ⟨B13, 0, none⟩ 3) fun x340 l341 c342 =>
 fun _ => ((.agg #[(.slice x333 l334 c335), (.int .i64 n336), (.slice x337 l338 c339), (.slice x340 l341 c342)]) : Value) = (.agg #[(.slice x48 l49 c50), (.int .i64 n51), (.slice x52 l53 c54), (.slice x55 l56 c57)])) <|
 ANDS (RDL (Addr.add ⟨B13, 0, none⟩ 0) fun x343 l344 c345 =>
 RDI .i64 (Addr.add ⟨B13, 0, none⟩ 1) fun n346 =>
 RDL (Addr.add ⟨B13, 0, none⟩ 2) fun x347 l348 c349 =>
 RDL (Addr.add ⟨B13, 0, none⟩ 3) fun x350 l351 c352 =>
 fun _ => ((.agg #[(.slice x343 l344 c345), (.int .i64 n346), (.slice x347 l348 c349), (.slice x350 l351 c352)]) : Value) = (.agg #[(.slice x38 l39 c40), (.int .i64 n41), (.slice x42 l43 c44), (.slice x45 l46 c47)])) <|
 CALL Pg W F_ref07_Without [(.agg #[(.slice x48 l49 c50), (.int .i64 n51), (.slice x52 l53 c54), (.slice x55 l56 c57)]), (.int .i64 (Int.tmod (IntKind.wrap .i64 n11) (↑l34 : Int)))]
 (fun v353 => TYI .i64 v353 fun n355 =>
 ANDS (RDL (Addr.add ⟨B13, 0, none⟩ 0) fun x356 l357 c358 =>
 RDI .i64 (Addr.add ⟨B13, 0, none⟩ 1) fun n359 =>
 RDL (Addr.add ⟨B13, 0, none⟩ 2) fun x360 l361 c362 =>
 RDL (Addr.add ⟨B13, 0, none⟩ 3) fun x363 l364 c365 =>
 fun _ => ((.agg #[(.slice x356 l357 c358), (.int .i64 n359), (.slice x360 l361 c362), (.slice x363 l364 c365)]) : Value) = (.agg #[(.slice x38 l39 c40), (.int .i64 n41), (.slice x42 l43 c44), (.slice x45 l46 c47)])) <|
 CALL Pg W F_law07_part [(.agg #[(.slice x38 l39 c40), (.int .i64 n41), (.slice x42 l43 c44), (.slice x45 l46 c47)]), (.int .i64 n355)]
 (fun v366 => AGG v366 fun q368 => HD q368 fun v369 r370 => TYL v369 fun x371 l372 c373 =>
 HD r370 fun v374 r375 => TYI .i64 v374 fun n376 =>
 HD r375 fun v377 r378 => TYL v377 fun x379 l380 c381 =>
 HD r378 fun v382 r383 => TYL v382 fun x384 l385 c386 =>
 NL r383 <|
 WR (Addr.add ⟨B332, 0, none⟩ 0) (.slice x371 l372 c373) <|
 WR (Addr.add ⟨B332, 0, none⟩ 1) (.int .i64 n376) <|
 WR (Addr.add ⟨B332, 0, none⟩ 2) (.slice x379 l380 c381) <|
 WR (Addr.add ⟨B332, 0, none⟩ 3) (.slice x384 l385 c386) <|
 J_law07_ClockAlone_7 W R (some ⟨B332, 0, none⟩) n11 l34 B13 n12 n36)
 (fun e367 => R (.panicked e367)))
 (fun e354 => R (.panicked e354))])
def J_law07_ClockAlone_9 (W : World) (R : Ending → Hp → Prop) (b28 : Bool) (B13 : Nat) (n11 : Int) (n12 : Int) : Hp → Prop :=
 BR b28
 (J_law07_ClockAlone_8 W R true B13 n11 n12)
 (RDI .i64 (Addr.add ⟨B13, 0, none⟩ 1) fun n387 =>
 J_law07_ClockAlone_8 W R (n387 == 0) B13 n11 n12)
def J_law07_ClockAlone_10 (W : World) (R : Ending → Hp → Prop) (b27 : Bool) (B13 : Nat) (n11 : Int) (n12 : Int) : Hp → Prop :=
 BR b27
 (J_law07_ClockAlone_9 W R true B13 n11 n12)
 (RDL (Addr.add ⟨B13, 0, none⟩ 0) fun x388 l389 c390 =>
 J_law07_ClockAlone_9 W R ((↑l389 : Int) == 0) B13 n11 n12)
def J_law07_ClockAlone_11 (W : World) (R : Ending → Hp → Prop) (b459 : Bool) (za0 : Addr) (za1 : Addr) (zn2 : Int) (nx0 : List Value → Hp → Prop) (b404 : Bool) (n405 : Int) : Hp → Prop :=
 BR b459
 (R (.returned (.bool false)))
 (NX [(.pointer (some za0)), (.pointer (some za1)), (.int .i64 zn2), (.tuple #[])] [(.pointer (some za0)), (.pointer (some za1)), (.int .i64 zn2), (.tuple #[])] (nx0 [(.bool b404), (.int .i64 (IntKind.wrap .i64 (n405 + 1)))]))
def J_law07_ClockAlone_12 (W : World) (R : Ending → Hp → Prop) (b458 : Bool) (za0 : Addr) (za1 : Addr) (zn2 : Int) (nx0 : List Value → Hp → Prop) (b404 : Bool) (n405 : Int) (B431 : Nat) (B457 : Nat) : Hp → Prop :=
 BR b458
 (J_law07_ClockAlone_11 W R true za0 za1 zn2 nx0 b404 n405)
 (RDI .i64 (Addr.add ⟨B431, 0, none⟩ 0) fun n460 =>
 RDI .i64 (Addr.add ⟨B431, 0, none⟩ 1) fun n461 =>
 RDI .i64 (Addr.add ⟨B457, 0, none⟩ 0) fun n462 =>
 RDI .i64 (Addr.add ⟨B457, 0, none⟩ 1) fun n463 =>
 J_law07_ClockAlone_11 W R (!((n460 == n462) && (n461 == n463))) za0 za1 zn2 nx0 b404 n405)
def B_law07_ClockAlone_0 (W : World) (R : Ending → Hp → Prop) (za0 : Addr) (za1 : Addr) (zn2 : Int) (b404 : Bool) (n405 : Int) (nx0 : List Value → Hp → Prop) : Hp → Prop :=
 BR (decide (n405 < zn2))
 (RDL (Addr.add za0 0) fun x406 l407 c408 =>
 RDI .i64 (Addr.add za0 1) fun n409 =>
 RDL (Addr.add za0 2) fun x410 l411 c412 =>
 RDL (Addr.add za0 3) fun x413 l414 c415 =>
 CALL Pg W F_clock_When [(.agg #[(.slice x406 l407 c408), (.int .i64 n409), (.slice x410 l411 c412), (.slice x413 l414 c415)]), (.int .i64 n405)]
 (fun v416 => TUP v416 fun q418 => HD q418 fun v419 r420 => AGG v419 fun q421 => HD q421 fun v422 r423 => TYI .i64 v422 fun n424 =>
 HD r423 fun v425 r426 => TYI .i64 v425 fun n427 =>
 NL r426 <|
 HD r420 fun v428 r429 => TYI .i64 v428 fun n430 =>
 NL r429 <|
 NEWZ Pg 34 fun B431 =>
 WR (Addr.add ⟨B431, 0, none⟩ 0) (.int .i64 n424) <|
 WR (Addr.add ⟨B431, 0, none⟩ 1) (.int .i64 n427) <|
 RDL (Addr.add za1 0) fun x432 l433 c434 =>
 RDI .i64 (Addr.add za1 1) fun n435 =>
 RDL (Addr.add za1 2) fun x436 l437 c438 =>
 RDL (Addr.add za1 3) fun x439 l440 c441 =>
 CALL Pg W F_clock_When [(.agg #[(.slice x432 l433 c434), (.int .i64 n435), (.slice x436 l437 c438), (.slice x439 l440 c441)]), (.int .i64 n405)]
 (fun v442 => TUP v442 fun q444 => HD q444 fun v445 r446 => AGG v445 fun q447 => HD q447 fun v448 r449 => TYI .i64 v448 fun n450 =>
 HD r449 fun v451 r452 => TYI .i64 v451 fun n453 =>
 NL r452 <|
 HD r446 fun v454 r455 => TYI .i64 v454 fun n456 =>
 NL r455 <|
 NEWZ Pg 34 fun B457 =>
 WR (Addr.add ⟨B457, 0, none⟩ 0) (.int .i64 n450) <|
 WR (Addr.add ⟨B457, 0, none⟩ 1) (.int .i64 n453) <|
 BR (n430 != 0)
 (J_law07_ClockAlone_12 W R true za0 za1 zn2 nx0 b404 n405 B431 B457)
 (J_law07_ClockAlone_12 W R (n456 != 0) za0 za1 zn2 nx0 b404 n405 B431 B457))
 (fun e443 => R (.panicked e443)))
 (fun e417 => R (.panicked e417)))
 (CALL Pg W F_law07_alive []
 (fun v464 => TYB v464 fun b466 =>
 R (.returned (.bool b466)))
 (fun e465 => R (.panicked e465)))
theorem B_law07_ClockAlone_0_eq (W : World) (R : Ending → Hp → Prop) (za0 : Addr) (za1 : Addr) (zn2 : Int) (b404 : Bool) (n405 : Int) (nx0 : List Value → Hp → Prop) (j : Tm) : vc Pg W 178 rs_8 an_8 false (sub (bodyOf Try.f8) [1, 1, 1, 1, 1, 1, 1, 1, 1, 1, 0, 1, 0, 0]) 0 (KLoop [6, 150] [3, 15, 149, 178] [(.pointer (some za0)), (.pointer (some za1)), (.int .i64 zn2), (.tuple #[])] nx0 (KBlk 0 (KS Pg W 178 rs_8 an_8 false (sub (bodyOf Try.f8) [1, 1, 1, 1, 1, 1, 1, 1, 1, 1, 1]) 0 (fin Pg W 178 rv_8 R)))) (known [6, 150] [(.bool b404), (.int .i64 n405)] (known [3, 15, 149, 178] [(.pointer (some za0)), (.pointer (some za1)), (.int .i64 zn2), (.tuple #[])] j)) = B_law07_ClockAlone_0 W R za0 za1 zn2 b404 n405 nx0 := by kernel_rfl
def N_law07_ClockAlone_0 (I : Bool → Int → Hp → Prop) (μ : Bool → Int → Hp → Nat) (b4040 : Bool) (n4050 : Int) (s : Hp) (vs : List Value) : Hp → Prop := fun s' => ∃ b404 n405, vs = [(.bool b404), (.int .i64 n405)] ∧ I b404 n405 s' ∧ μ b404 n405 s' < μ b4040 n4050 s
theorem L_law07_ClockAlone_0_rule (W : World) (R : Ending → Hp → Prop) (za0 : Addr) (za1 : Addr) (zn2 : Int) (I : Bool → Int → Hp → Prop) (μ : Bool → Int → Hp → Nat) (b4040 : Bool) (n4050 : Int) (s : Hp) (h0 : I b4040 n4050 s)
    (hr : ∀ (b404 : Bool) (n405 : Int) (s : Hp), I b404 n405 s → B_law07_ClockAlone_0 W R za0 za1 zn2 b404 n405 (fun vs => N_law07_ClockAlone_0 I μ b404 n405 s vs) s) : L_law07_ClockAlone_0 W R za0 za1 zn2 b4040 n4050 s := by
  refine ⟨fun vs s => ∃ b404 n405, vs = [(.bool b404), (.int .i64 n405)] ∧ I b404 n405 s, fun vs s => (match vs with | [.bool b404, .int _ n405] => μ b404 n405 s | _ => 0), ⟨⟨⟨_, rfl⟩, ⟨⟨_, rfl⟩, trivial⟩⟩, ⟨_, _, rfl, h0⟩⟩, ?_⟩
  intro b404 n405 s hI j
  obtain ⟨b404', n405', hy, hI⟩ := hI
  have hI' : I b404 n405 s := by cases hy; exact hI
  have hh := hr b404 n405 s hI'
  rw [← B_law07_ClockAlone_0_eq W R za0 za1 zn2 b404 n405 _ j] at hh
  refine vc_mono ?_ _ _ hh
  exact KLoop_mono (fun vs s' h => by obtain ⟨b4041, n4051, rfl, h1, h2⟩ := h; exact ⟨⟨⟨_, rfl⟩, ⟨⟨_, rfl⟩, trivial⟩⟩, ⟨_, _, rfl, h1⟩, h2⟩)
def T_law07_ClockAlone (W : World) (x1 : Option Addr) (l2 : Nat) (c3 : Nat) (n4 : Int) (x5 : Option Addr) (l6 : Nat) (c7 : Nat) (x8 : Option Addr) (l9 : Nat) (c10 : Nat) (n11 : Int) (n12 : Int) (R : Ending → Hp → Prop) : Hp → Prop :=
 NEW 26 [(.slice x1 l2 c3), (.int .i64 n4), (.slice x5 l6 c7), (.slice x8 l9 c10)] fun B13 =>
 RDL (Addr.add ⟨B13, 0, none⟩ 0) fun x14 l15 c16 =>
 RDI .i64 (Addr.add ⟨B13, 0, none⟩ 1) fun n17 =>
 RDL (Addr.add ⟨B13, 0, none⟩ 2) fun x18 l19 c20 =>
 RDL (Addr.add ⟨B13, 0, none⟩ 3) fun x21 l22 c23 =>
 CALL Pg W F_law07_heavy [(.agg #[(.slice x14 l15 c16), (.int .i64 n17), (.slice x18 l19 c20), (.slice x21 l22 c23)]), (.int .i64 100), (.int .i64 7)]
 (fun v24 => TYB v24 fun b26 =>
 BR b26
 (J_law07_ClockAlone_10 W R true B13 n11 n12)
 (RDL (Addr.add ⟨B13, 0, none⟩ 0) fun x391 l392 c393 =>
 RDI .i64 (Addr.add ⟨B13, 0, none⟩ 1) fun n394 =>
 RDL (Addr.add ⟨B13, 0, none⟩ 2) fun x395 l396 c397 =>
 RDL (Addr.add ⟨B13, 0, none⟩ 3) fun x398 l399 c400 =>
 CALL Pg W F_ref07_Clock [(.agg #[(.slice x391 l392 c393), (.int .i64 n394), (.slice x395 l396 c397), (.slice x398 l399 c400)])]
 (fun v401 => TYB v401 fun b403 =>
 J_law07_ClockAlone_10 W R (!b403) B13 n11 n12)
 (fun e402 => R (.panicked e402))))
 (fun e25 => R (.panicked e25))
theorem T_law07_ClockAlone_eq (W : World) (x1 : Option Addr) (l2 : Nat) (c3 : Nat) (n4 : Int) (x5 : Option Addr) (l6 : Nat) (c7 : Nat) (x8 : Option Addr) (l9 : Nat) (c10 : Nat) (n11 : Int) (n12 : Int) (R : Ending → Hp → Prop) : vfun Pg W an_8 Try.f8 [(.agg #[(.slice x1 l2 c3), (.int .i64 n4), (.slice x5 l6 c7), (.slice x8 l9 c10)]), (.int .u8 n11), (.int .u8 n12)] R = T_law07_ClockAlone W x1 l2 c3 n4 x5 l6 c7 x8 l9 c10 n11 n12 R := by kernel_rfl
theorem does_law07_ClockAlone (W : World) (x1 : Option Addr) (l2 : Nat) (c3 : Nat) (n4 : Int) (x5 : Option Addr) (l6 : Nat) (c7 : Nat) (x8 : Option Addr) (l9 : Nat) (c10 : Nat) (n11 : Int) (n12 : Int) (R : Ending → Hp → Prop) (s : Hp) (h : T_law07_ClockAlone W x1 l2 c3 n4 x5 l6 c7 x8 l9 c10 n11 n12 R s) : Does Pg W F_law07_ClockAlone #[(.agg #[(.slice x1 l2 c3), (.int .i64 n4), (.slice x5 l6 c7), (.slice x8 l9 c10)]), (.int .u8 n11), (.int .u8 n12)] s R :=
  does_of_vfun Pg W an_8 Try.func8 rfl (by kernel_rfl) (by rw [T_law07_ClockAlone_eq]; exact h)
end Go.Proofs.Ytknpmijgdfeliaa.G

/- Clock: ClockAlone. -/
set_option linter.unusedSimpArgs false
set_option linter.unusedVariables false
set_option maxRecDepth 20000
namespace Go.Proofs.Ytknpmijgdfeliaa.G
open Go.V
theorem qr_ok {c : Clk} {val : List Go' → (Int → Int) → Int} {lo hi err : Int} {is : Bool} (h : QR c is val lo hi err) (ho : okC c = true) (hi' : is = true) : (err = 10 ∧ ¬ CanC c (everyN c) ∧ lo = 0 ∧ hi = 0) ∨ (err = 0 ∧ CanC c (everyN c) ∧ SpanC c (everyN c) val lo hi) := by
  rcases h with ⟨h1, _⟩ | ⟨_, h1, _⟩ | ⟨_, _, h1, h2, h3, rfl⟩ | ⟨_, _, h1, h2, rfl⟩
  · rw [ho] at h1; cases h1
  · rw [hi'] at h1; cases h1
  · exact .inl ⟨rfl, h1, h2, h3⟩
  · exact .inr ⟨rfl, h1, h2⟩
theorem span_le {c : Clk} {S : Nat} {val : List Go' → (Int → Int) → Int} {lo hi : Int} (h : SpanC c S val lo hi) : lo ≤ hi := by
  obtain ⟨⟨g1, m1, t1, v1⟩, _, h3⟩ := h
  have := h3 _ _ t1
  omega
section
variable {W : World} {K : VK} {E : List PanicEntry → Hp → Prop} {s : Hp} {c : Clk} {x y z : Option Addr} {c1 c2 c3 : Nat}
/-- The loop over events of two clocks of which the same is true. -/
theorem alone_loop {c' : Clk} {x' y' z' : Option Addr} {d1 d2 d3 : Nat} {a0 a1 : Addr} (hc : ClV s c x y z) (hc' : ClV s c' x' y' z') (hok : okC c = true) (hok' : okC c' = true) (hn : c'.n = c.n) (he : ∀ g m, Truth c (everyN c) g m ↔ Truth c' (everyN c') g m) (hcan : CanC c (everyN c))
    (q1 : cellAt s (a0.add 0) = some (.slice x c.ws.length c1)) (q2 : cellAt s (a0.add 1) = some (.int .i64 c.n)) (q3 : cellAt s (a0.add 2) = some (.slice y c.rs.length c2)) (q4 : cellAt s (a0.add 3) = some (.slice z c.ls.length c3))
    (r1 : cellAt s (a1.add 0) = some (.slice x' c'.ws.length d1)) (r2 : cellAt s (a1.add 1) = some (.int .i64 c'.n)) (r3 : cellAt s (a1.add 2) = some (.slice y' c'.rs.length d2)) (r4 : cellAt s (a1.add 3) = some (.slice z' c'.ls.length d3))
    (h : ∀ s', Ext s s' → K (.bool true) s') : L_law07_ClockAlone_0 W (endK K E) a0 a1 c.n false 0 s := by
  have hv := okC_iff.1 hok
  have hn5 := hv.n5
  refine L_law07_ClockAlone_0_rule W _ a0 a1 c.n (fun _ n t => Ext s t ∧ ∃ k : Nat, n = k ∧ (k : Int) ≤ c.n) (fun _ n _ => (c.n - n).toNat) false 0 s ⟨Ext.refl _, 0, rfl, hv.n0⟩ ?_
  rintro b n t ⟨et, k, rfl, hk⟩
  generalize hnx : (fun vs => N_law07_ClockAlone_0 _ _ b (k : Int) t vs) = nx
  unfold B_law07_ClockAlone_0
  refine BR_dec (fun hlt => ?_) (fun hge => ?_)
  · refine ⟨_, _, _, et.cell q1, ⟨_, et.cell q2, ⟨_, _, _, et.cell q3, ⟨_, _, _, et.cell q4, ?_⟩⟩⟩⟩
    refine c_When (hc.ext et) fun t1 lo hi er f1 w1 => ?_
    try simp only [TUP_mk, AGG_mk, HD_mk, NL_mk, TYI_mk, TYB_mk, TYP_mk, TYL_mk, TYS_mk, TYM_mk, SO_mk, NX_mk, endK_mk, endK_mk', add_0]
    refine nw2 zc_34 rfl rfl fun t2 f2 y2 p1 p2 => ?_
    have e2 := (et.trans f1).trans f2
    refine ⟨_, _, _, e2.cell r1, ⟨_, e2.cell r2, ⟨_, _, _, e2.cell r3, ⟨_, _, _, e2.cell r4, ?_⟩⟩⟩⟩
    refine c_When (hc'.ext e2) fun t3 lo' hi' er' f3 w2 => ?_
    try simp only [TUP_mk, AGG_mk, HD_mk, NL_mk, TYI_mk, TYB_mk, TYP_mk, TYL_mk, TYS_mk, TYM_mk, SO_mk, NX_mk, endK_mk, endK_mk', add_0]
    refine nw2 zc_34 rfl rfl fun t4 f4 y4 p3 p4 => ?_
    have f34 := f3.trans f4
    have h1 := (qr_ok w1 hok (decide_eq_true ⟨by omega, hlt⟩)).resolve_left fun h => h.2.1 hcan
    have hcan' : CanC c' (everyN c') := by obtain ⟨g, m, h⟩ := hcan; exact ⟨g, m, (he g m).1 h⟩
    have h2 := (qr_ok w2 hok' (decide_eq_true ⟨by omega, by omega⟩)).resolve_left fun h => h.2.1 hcan'
    obtain ⟨rfl, _, s1⟩ := h1
    obtain ⟨rfl, _, s2⟩ := h2
    obtain ⟨rfl, rfl⟩ := span_uniq s1 s2 he
    refine BR_ff rfl ?_
    unfold J_law07_ClockAlone_12
    refine BR_ff rfl ⟨_, (f34.own p1).cell, ⟨_, (f34.own p2).cell, ⟨_, p3.cell, ⟨_, p4.cell, ?_⟩⟩⟩⟩
    unfold J_law07_ClockAlone_11
    refine BR_ff (by simp) ?_
    try simp only [TUP_mk, AGG_mk, HD_mk, NL_mk, TYI_mk, TYB_mk, TYP_mk, TYL_mk, TYS_mk, TYM_mk, SO_mk, NX_mk, endK_mk, endK_mk', add_0]
    rw [← hnx]
    refine ⟨_, _, rfl, ⟨e2.trans f34, k + 1, wrap_succ (by omega), by omega⟩, ?_⟩
    rw [wrap_succ (by omega)]
    show (c.n - ((k + 1 : Nat) : Int)).toNat < (c.n - (k : Int)).toNat
    omega
  · exact c_alive fun t2 e2 => h t2 (et.trans e2)
end
end Go.Proofs.Ytknpmijgdfeliaa.G

/- Clock: ClockAlone: the reading more. -/
set_option linter.unusedSimpArgs false
set_option linter.unusedVariables false
set_option maxRecDepth 20000
namespace Go.Proofs.Ytknpmijgdfeliaa.G
open Go.V
theorem rd_row {s : Hp} {x : Option Addr} {l : List Rd} (h : RdAt s x l) : RowAt s x (rdV l) := fun i hi => by
  have hl := rdV_len l
  have hk : i / 3 < l.length := by rw [hl] at hi; omega
  have hm : i % 3 < 3 := Nat.mod_lt _ (by omega)
  obtain ⟨a, h0, h1, h2, h3⟩ := h (i / 3) hk
  have hg : (rdV l)[i / 3 * 3 + i % 3]? = (rd3 l[i / 3])[i % 3]? := flat_get (M := 3) (f := rd3) l (fun x _ => rfl) (i / 3) hk (i % 3) hm
  have e : i / 3 * 3 + i % 3 = i := by omega
  rw [e, List.getElem?_eq_getElem hi, List.getElem?_eq_getElem (show i % 3 < (rd3 l[i / 3]).length from hm)] at hg
  refine ⟨a, h0, ?_⟩
  rw [Nat.mul_one, Option.some.inj hg]
  rw [addr_add] at h1 h2 h3
  have h012 : i % 3 = 0 ∨ i % 3 = 1 ∨ i % 3 = 2 := by omega
  rcases h012 with e0 | e0 | e0
  · have : i / 3 * 3 + 0 = i := by omega
    rw [this] at h1
    simp only [e0]; exact h1
  · have : i / 3 * 3 + 1 = i := by omega
    rw [this] at h2
    simp only [e0]; exact h2
  · have : i / 3 * 3 + 2 = i := by omega
    rw [this] at h3
    simp only [e0]; exact h3
section
variable {s : Hp} {lo : Nat} {K : Option Addr → Nat → Nat → Hp → Prop}
/-- All readings, and one more, into a list that is begun. -/
theorem app_all {b : Nat} {y : Option Addr} {l : List Rd} (hlo : lo ≤ b) (hb : b < s.size) (hl : l.length ≤ 8) (hbuf : ∃ o, s[b]? = some o) (hy : RdAt s y l) (h : ∀ s' x' c', Ext s s' ∨ True → Kp (· = b) s s' → Fr lo s' x' l.length c' 3 (rdV l) → K x' l.length c' s') : APP Pg 61 3 (some ⟨b, 0, none⟩) 0 0 y l.length K s := by
  have hf : Fr lo s (some ⟨b, 0, none⟩) 0 0 3 [] := ⟨⟨Nat.le_refl _, fun i hi => by omega⟩, rfl, fun a ha => by cases ha; exact hlo, by omega⟩
  refine APP_fr (lo := lo) hf (by omega) (ws := rdV l) (rd_row hy) (rdV_len l) zc_61 rfl (by omega) ?_ (by omega) fun s' x' c' k hx' fr => ?_
  · intro v hv
    obtain ⟨r, _, hr⟩ := List.mem_flatMap.1 hv
    simp [rd3] at hr
    rcases hr with rfl | rfl | rfl <;> rfl
  · rw [Nat.zero_add, List.nil_append] at fr
    rw [Nat.zero_add]
    exact h s' x' c' (.inr trivial) (k.mono fun q hq => by obtain ⟨a, ha, rfl⟩ := hq; cases ha; rfl) fr
theorem app_one {x : Option Addr} {l : List Rd} {cc b : Nat} {r : Rd} (hf : Fr lo s x l.length cc 3 (rdV l)) (hlo : lo ≤ s.size) (hl : l.length ≤ 8) (hr : ∀ j v, (rd3 r)[j]? = some v → Own s ⟨b, j, none⟩ v)
    (h : ∀ s' x' c', Kp (fun q => lo ≤ q) s s' → (∀ a, x' = some a → lo ≤ a.block) → RowAt s' x' (rdV (l ++ [r])) → K x' (l.length + 1) c' s') : APP Pg 61 3 x l.length cc (some ⟨b, 0, none⟩) 1 K s := by
  refine APP_fr (lo := lo) hf hlo (ws := rd3 r) (fun i hi => ⟨⟨b, 0, none⟩, rfl, ?_⟩) rfl zc_61 rfl (by omega) (by simp [rd3, oneCell]) (by omega) fun s' x' c' k hx' fr => ?_
  · have hi3 : i < 3 := hi
    match i, hi3 with
    | 0, _ => exact (hr 0 _ rfl).cell
    | 1, _ => exact (hr 1 _ rfl).cell
    | 2, _ => exact (hr 2 _ rfl).cell
  · refine h s' x' c' (k.mono fun q hq => by obtain ⟨a, ha, rfl⟩ := hq; exact hf.fr a ha) fr.fr ?_
    have e : rdV (l ++ [r]) = rdV l ++ rd3 r := by rw [rdV_app]; simp [rdV]
    rw [e]
    exact fr.row
end
end Go.Proofs.Ytknpmijgdfeliaa.G

/- Clock: ClockAlone. -/
set_option linter.unusedSimpArgs false
set_option linter.unusedVariables false
set_option maxRecDepth 20000
namespace Go.Proofs.Ytknpmijgdfeliaa.G
open Go.V
theorem wo_lt' {c : Clk} {k : Int} (hv : VdC c) : woN c k < 256 := by
  have h1 := woS_lt (k := k) c.rs 0
  have h2 := Nat.pow_le_pow_right (show 0 < 2 by omega) hv.r8
  have h3 : 2 ^ (0 + c.rs.length) = 2 ^ c.rs.length := by rw [Nat.zero_add]
  unfold woN
  omega
section
variable {W : World} {K : VK} {E : List PanicEntry → Hp → Prop} {s : Hp} {c : Clk} {x y z : Option Addr} {c1 c2 c3 : Nat}
theorem w_ClockAlone {a b : Nat} (ha8 : a < 256) (hb8 : b < 256) (hc : ClV s c x y z) (h : ∀ s', Ext s s' → K (.bool true) s') : CALL Pg W F_law07_ClockAlone [clkV c x y z c1 c2 c3, .int .u8 (a : Nat), .int .u8 (b : Nat)] K E s := by
  unfold clkV
  refine does_law07_ClockAlone W x _ c1 c.n y _ c2 z _ c3 a b _ s ?_
  unfold T_law07_ClockAlone
  refine ne4 fun s1 e1 z1 o1 o2 o3 o4 => ⟨_, _, _, o1.cell, ⟨_, o2.cell, ⟨_, _, _, o3.cell, ⟨_, _, _, o4.cell, ?_⟩⟩⟩⟩
  have hX : ∀ t, Ext s1 t → ClV t c x y z := fun t e => hc.ext (e1.trans e)
  have fin : ∀ t, Ext s1 t → CALL Pg W F_law07_alive [] (fun v26 => TYB v26 fun b28 => (endK K E) (.returned (.bool b28))) (fun e27 => (endK K E) (.panicked e27)) t := fun t e => c_alive fun t2 e2 => h t2 ((e1.trans e).trans e2)
  have hJ8t : ∀ t, Ext s1 t → J_law07_ClockAlone_8 W (endK K E) true s.size (a : Nat) (b : Nat) t := fun t e => by
    unfold J_law07_ClockAlone_8
    exact BR_tt rfl (fin t e)
  have hJ9t : ∀ t, Ext s1 t → J_law07_ClockAlone_9 W (endK K E) true s.size (a : Nat) (b : Nat) t := fun t e => by
    unfold J_law07_ClockAlone_9
    exact BR_tt rfl (hJ8t t e)
  have hJ10t : ∀ t, Ext s1 t → J_law07_ClockAlone_10 W (endK K E) true s.size (a : Nat) (b : Nat) t := fun t e => by
    unfold J_law07_ClockAlone_10
    exact BR_tt rfl (hJ9t t e)
  refine c_heavy (hX s1 (Ext.refl _)) fun s2 q e2 hhv => ?_
  try simp only [TUP_mk, AGG_mk, HD_mk, NL_mk, TYI_mk, TYB_mk, TYP_mk, TYL_mk, TYS_mk, TYM_mk, SO_mk, NX_mk, endK_mk, endK_mk', add_0]
  refine BR_bool (fun _ => hJ10t s2 e2) (fun hq => ?_)
  refine ⟨_, _, _, (e2.own o1).cell, ⟨_, (e2.own o2).cell, ⟨_, _, _, (e2.own o3).cell, ⟨_, _, _, (e2.own o4).cell, ?_⟩⟩⟩⟩
  refine f_Clock (hX s2 e2) fun s3 e3 => ?_
  try simp only [TUP_mk, AGG_mk, HD_mk, NL_mk, TYI_mk, TYB_mk, TYP_mk, TYL_mk, TYS_mk, TYM_mk, SO_mk, NX_mk, endK_mk, endK_mk', add_0]
  have e13 := e2.trans e3
  cases hok : okC c with
  | false => exact hJ10t s3 e13
  | true =>
  have h7 := hhv hq hok
  have hv := okC_iff.1 hok
  have hw2 := hv.w2
  unfold J_law07_ClockAlone_10
  refine BR_ff rfl ⟨_, _, _, (e13.own o1).cell, ?_⟩
  cases hl0 : ((c.ws.length : Int) == 0) with
  | true => rw [hl0]; exact hJ9t s3 e13
  | false =>
  have hlen : 0 < c.ws.length := by have : ¬ (c.ws.length : Int) = 0 := by simpa using hl0
                                    omega
  unfold J_law07_ClockAlone_9
  refine BR_ff hl0 ⟨_, (e13.own o2).cell, ?_⟩
  cases hn0 : (c.n == 0) with
  | true => rw [hn0]; exact hJ8t s3 e13
  | false =>
  have hn : 0 < c.n := by have : ¬ c.n = 0 := by simpa using hn0
                          have := hv.n0; omega
  have hA : Int.tmod (IntKind.i64.wrap (a : Int)) ((c.ws.length : Nat) : Int) = ((a % c.ws.length : Nat) : Int) := by
    rw [wrap_i64 (by omega) (by omega), Int.tmod_eq_emod_of_nonneg (by omega)]; rfl
  have hB : ∃ ev, Int.tmod (IntKind.i64.wrap (b : Int)) c.n = ev ∧ 0 ≤ ev ∧ ev < c.n := by
    rw [wrap_i64 (by omega) (by omega), Int.tmod_eq_emod_of_nonneg (by omega)]
    exact ⟨_, rfl, Int.emod_nonneg _ (by omega), Int.emod_lt_of_pos _ hn⟩
  obtain ⟨ev, hB, hev⟩ := hB
  have hAl : a % c.ws.length < c.ws.length := Nat.mod_lt _ hlen
  generalize a % c.ws.length = w at *
  -- the reading that tells nothing more
  have hJ5 : ∀ t, Ext s1 t → J_law07_ClockAlone_5 W (endK K E) false s.size (a : Nat) c.ws.length (b : Nat) c.n t := by
    intro t et
    unfold J_law07_ClockAlone_5
    refine BR_ff rfl ⟨_, _, _, (et.own o1).cell, ⟨_, (et.own o2).cell, ⟨_, _, _, (et.own o3).cell, ⟨_, _, _, (et.own o4).cell, ?_⟩⟩⟩⟩
    rw [hA, hB]
    refine c_Shows (hX t et) (by omega) fun t1 lo hi er f1 hqr => ?_
    try simp only [TUP_mk, AGG_mk, HD_mk, NL_mk, TYI_mk, TYB_mk, TYP_mk, TYL_mk, TYS_mk, TYM_mk, SO_mk, NX_mk, endK_mk, endK_mk', add_0]
    refine nw2 zc_34 rfl rfl fun t2 f2 y2 p1 p2 => ?_
    have e2' := (et.trans f1).trans f2
    have hqo := qr_ok hqr hok (by rw [decide_eq_true (show 0 ≤ (w : Int) ∧ (w : Int) < c.ws.length by omega), decide_eq_true hev]; rfl)
    have hle : er = 0 → lo ≤ hi := fun he => by
      rcases hqo with ⟨h1, _⟩ | ⟨_, _, h1⟩
      · omega
      · exact span_le h1
    have her : er = 0 ∨ er = 10 := by rcases hqo with ⟨h1, _⟩ | ⟨h1, _⟩ <;> omega
    have hJ0 : ∀ q, (q = true ∨ er = 10) → J_law07_ClockAlone_0 W (endK K E) q er t2 := by
      intro q hq
      unfold J_law07_ClockAlone_0
      refine BR_bool (fun _ => fin t2 e2') (fun hqf => BR_tt ?_ (fin t2 e2'))
      rcases hq with hq | hq
      · rw [hqf] at hq; cases hq
      · rw [hq]; rfl
    have hJ2t : J_law07_ClockAlone_2 W (endK K E) true er t1.size s.size (b : Nat) c.n (a : Nat) c.ws.length t2 := by
      unfold J_law07_ClockAlone_2
      refine BR_tt rfl ?_
      refine BR_eq (fun he => ⟨_, p1.cell, ⟨_, p2.cell, hJ0 _ (.inl (decide_eq_true (hle he)))⟩⟩) (fun he => hJ0 _ (.inr (her.resolve_left he)))
    have hJ3t : J_law07_ClockAlone_3 W (endK K E) true er t1.size s.size (b : Nat) c.n (a : Nat) c.ws.length t2 := by
      unfold J_law07_ClockAlone_3
      exact BR_tt rfl hJ2t
    have hJ4t : J_law07_ClockAlone_4 W (endK K E) true er t1.size s.size (b : Nat) c.n (a : Nat) c.ws.length t2 := by
      unfold J_law07_ClockAlone_4
      exact BR_tt rfl hJ3t
    refine BR_ne (fun _ => hJ4t) (fun he0 => ⟨_, p1.cell, ⟨_, p2.cell, ?_⟩⟩)
    cases hlh : (lo != hi) with
    | true => rw [hlh]; exact hJ4t
    | false =>
    have hlh' : lo = hi := by simpa using hlh
    unfold J_law07_ClockAlone_4
    refine BR_ff hlh ⟨_, p1.cell, ?_⟩
    cases hneg : decide (lo < 0) with
    | true => rw [hneg]; exact hJ3t
    | false =>
    unfold J_law07_ClockAlone_3
    refine BR_ff hneg ⟨_, p1.cell, ?_⟩
    cases hbig : decide (lo > 2000) with
    | true => rw [hbig]; exact hJ2t
    | false =>
    have g1 := of_decide_eq_false hneg
    have g2 := of_decide_eq_false hbig
    obtain ⟨_, hcan, hsp⟩ := hqo.resolve_left fun h => by omega
    subst hlh'
    -- the clock with the reading more
    let r : Rd := ⟨ev, (w : Int), lo⟩
    have hmv : VdC (moreR c r) := moreR_ok hv (by omega) ⟨hev.1, hev.2, by show 0 ≤ (w : Int); omega, by show (w : Int) < _; omega, by show 0 ≤ lo; omega, by show lo ≤ 2000; omega⟩
    have hiff : ∀ g m, Truth c (everyN c) g m ↔ Truth (moreR c r) (everyN (moreR c r)) g m := fun g m => by
      rw [moreR_truth]
      refine ⟨fun ht => ⟨ht, ?_⟩, fun ht => ht.1⟩
      have := hsp.2.2 g m ht
      have hsv : showV (w : Int) ev g m = showP (g.getD ((w : Int)).toNat (0, 0)) (m ev) := by
        unfold showV atM
        rw [if_neg (by omega)]
      have h5 : showP (g.getD ((w : Int)).toNat (0, 0)) (m ev) = lo := by rw [← hsv]; omega
      exact h5
    have hlen' : (moreR c r).rs.length = c.rs.length + 1 := by show (c.rs ++ [r]).length = _; simp
    unfold J_law07_ClockAlone_2
    refine BR_ff hbig ⟨_, _, _, (e2'.own o1).cell, ⟨_, (e2'.own o2).cell, ⟨_, _, _, (e2'.own o3).cell, ⟨_, _, _, (e2'.own o4).cell, ?_⟩⟩⟩⟩
    refine nw4 zc_26 rfl rfl rfl rfl fun v ev' zv b1 b2 b3 b4 => ?_
    have e1v := e2'.trans ev'
    refine ⟨_, _, _, (e1v.own o3).cell, ⟨_, (ev'.own p1).cell, ?_⟩⟩
    have hz2 : t1.size < v.size := by omega
    have hfin : ∀ u x' cc', Ext v u → RowAt u x' (rdV (c.rs ++ [r])) → (∀ q, x' = some q → v.size ≤ q.block) → (WR (Addr.add (Addr.add ⟨t2.size, 0, none⟩ 2) 0) (.slice x' (c.rs.length + 1) cc') <| J_law07_ClockAlone_1 W (endK K E) s.size t2.size) u := by
      intro u x' cc' eu hrow hx'
      refine wrOne (i := 2) (eu.own b3) rfl fun u2 k2 y2 q3 qk => ?_
      have q1 := qk 0 _ (by omega) (eu.own b1)
      have q2 := qk 1 _ (by omega) (eu.own b2)
      have q4 := qk 3 _ (by omega) (eu.own b4)
      have e1u : Ext s1 u2 := ext_kp (e1v.trans eu) (show s1.size ≤ t2.size from e2'.1) k2
      unfold J_law07_ClockAlone_1
      refine ⟨_, (e1u.own o2).cell, ?_⟩
      have hcu := hX u2 e1u
      have hrow2 : RowAt u2 x' (rdV (c.rs ++ [r])) := hrow.keep k2 fun q hq hb => by have := hx' q hq; have : q.block = t2.size := hb; omega
      refine alone_loop (c' := moreR c r) (x' := x) (y' := x') (z' := z) (d1 := c1) (d2 := cc') (d3 := c3) hcu ⟨hcu.ws, row_rd hrow2, hcu.ls⟩ hok (okC_iff.2 hmv) rfl hiff hcan (e1u.own o1).cell (e1u.own o2).cell (e1u.own o3).cell (e1u.own o4).cell q1.cell q2.cell ?_ q4.cell fun s' es => h s' ((e1.trans e1u).trans es)
      rw [hlen']; exact q3.cell
    have R6 : ∀ t', Ext t2 t' → (RDI .i64 (Addr.add ⟨t1.size, 0, none⟩ 0) fun n235 => fun _ => ((.int .i64 n235) : Value) = (.int .i64 lo)) t' := fun t' e => ⟨_, (e.own p1).cell, rfl⟩
    have R3 : ∀ t', Ext s1 t' → (RDL (Addr.add ⟨s.size, 0, none⟩ 2) fun x236 l237 c238 => fun _ => ((.slice x236 l237 c238) : Value) = (.slice y c.rs.length c2)) t' := fun t' e => ⟨_, _, _, (e.own o3).cell, rfl⟩
    have hrs : ∀ t', Ext s1 t' → RdAt t' y c.rs := fun t' e => (hX t' e).rs
    have kv : ∀ {D : Nat → Prop} {t' t''}, Ext v t' → Kp D t' t'' → (∀ b, D b → v.size ≤ b) → Ext v t'' := fun e k hD => kp_nil e hD k
    rw [hA, hB]
    refine CONJ_two ?_ ?_
    · refine NEW_rule fun u1 f1 y1 n1 _ => ?_
      refine ANDS_i (R6 u1 (ev'.trans f1)) (ANDS_i (R3 u1 (e1v.trans f1)) ?_)
      refine CONJ_two ?_ ?_
      · refine app_all (lo := v.size) (Nat.le_refl _) (by omega) hv.r8 ⟨_, Array.getElem?_eq_getElem (by omega)⟩ (hrs u1 (e1v.trans f1)) fun u2 x2 cc2 _ k2 fr2 => ?_
        have g2 := kv f1 k2 (fun q hq => by have : q = v.size := hq; omega)
        refine ANDS_i (R6 u2 (ev'.trans g2)) ?_
        refine NEW_rule fun u3 f3 y3 n3 _ => ?_
        have g3 := g2.trans f3
        refine ANDS_i (R3 u3 (e1v.trans g3)) ?_
        refine app_one (r := r) (fr2.ext f3) g3.1 hv.r8 n3 fun u4 x4 cc4 k4 hx4 row4 => ?_
        exact hfin u4 x4 cc4 (kv g3 k4 fun q hq => hq) row4 hx4
      · refine NEW_rule fun u3 f3 y3 n3 _ => ?_
        have g3 := f1.trans f3
        refine ANDS_i (R3 u3 (e1v.trans g3)) ?_
        refine app_all (lo := v.size) (Nat.le_refl _) (by omega) hv.r8 ⟨_, Array.getElem?_eq_getElem (by omega)⟩ (hrs u3 (e1v.trans g3)) fun u2 x2 cc2 _ k2 fr2 => ?_
        have g2 := kv g3 k2 (fun q hq => by have : q = v.size := hq; omega)
        refine ANDS_i (R6 u2 (ev'.trans g2)) ?_
        have hne : ¬ u1.size = v.size := by omega
        refine app_one (r := r) fr2 g2.1 hv.r8 (fun j w hj => k2.own hne (n3 j w hj)) fun u4 x4 cc4 k4 hx4 row4 => ?_
        exact hfin u4 x4 cc4 (kv g2 k4 fun q hq => hq) row4 hx4
    · refine NEW_rule fun u1 f1 y1 n1 _ => ?_
      refine ANDS_i (R3 u1 (e1v.trans f1)) ?_
      refine NEW_rule fun u3 f3 y3 n3 _ => ?_
      have g3 := f1.trans f3
      refine ANDS_i (R6 u3 (ev'.trans g3)) (ANDS_i (R3 u3 (e1v.trans g3)) ?_)
      refine app_all (lo := v.size) (show v.size ≤ u1.size by omega) (by omega) hv.r8 ⟨_, Array.getElem?_eq_getElem (by omega)⟩ (hrs u3 (e1v.trans g3)) fun u2 x2 cc2 _ k2 fr2 => ?_
      have g2 := kv g3 k2 (fun q hq => by have : q = u1.size := hq; omega)
      refine ANDS_i (R6 u2 (ev'.trans g2)) ?_
      have hne : ¬ v.size = u1.size := by omega
      refine app_one (r := r) fr2 g2.1 hv.r8 (fun j w hj => k2.own hne (f3.own (n1 j w hj))) fun u4 x4 cc4 k4 hx4 row4 => ?_
      exact hfin u4 x4 cc4 (kv g2 k4 fun q hq => hq) row4 hx4
  have hwlt : woN c (w : Int) < 256 := wo_lt' hv
  have hJ6 : ∀ t q er, Ext s1 t → q = false → (er = 0 ∨ er = 10) → J_law07_ClockAlone_6 W (endK K E) q s.size (a : Nat) c.ws.length (b : Nat) c.n er t := by
    rintro t q er et rfl her
    unfold J_law07_ClockAlone_6
    refine BR_ff rfl ?_
    refine BR_ne (fun hne => ?_) (fun _ => hJ5 t et)
    have : er = 10 := her.resolve_left hne
    subst this
    exact hJ5 t et
  have hpv := part_ok (S := woN c (w : Int)) hv
  have hJ7 : ∀ t B y' cc, Ext s1 t → ClV t (partC c (woN c (w : Int))) x y' z → Own t ⟨B, 0, none⟩ (.slice x c.ws.length c1) → Own t ⟨B, 1, none⟩ (.int .i64 c.n) → Own t ⟨B, 2, none⟩ (.slice y' (partC c (woN c (w : Int))).rs.length cc) → Own t ⟨B, 3, none⟩ (.slice z c.ls.length c3) → J_law07_ClockAlone_7 W (endK K E) (some ⟨B, 0, none⟩) (a : Nat) c.ws.length s.size (b : Nat) c.n t := by
    intro t B y' cc et hcp q1 q2 q3 q4
    unfold J_law07_ClockAlone_7
    refine ⟨_, _, _, q1.cell, ⟨_, q2.cell, ⟨_, _, _, q3.cell, ⟨_, _, _, q4.cell, ?_⟩⟩⟩⟩
    rw [hA]
    refine c_Goes (c := partC c (woN c (w : Int))) hcp (show c.ws.length ≤ 1000000000 by omega) fun t1 zl zh rl rh er f1 hz hr => ?_
    try simp only [TUP_mk, AGG_mk, HD_mk, NL_mk, TYI_mk, TYB_mk, TYP_mk, TYL_mk, TYS_mk, TYM_mk, SO_mk, NX_mk, endK_mk, endK_mk', add_0]
    refine nz2 zc_34 fun t2 f2 y2 p1 p2 => ?_
    refine nz2 zc_34 fun t3 f3 y3 r1 r2 => ?_
    refine wrB (f3.own p1) (f3.own p2) rfl rfl fun t4 k4 y4 p1' p2' => ?_
    have n1 : ¬ t2.size = t1.size := by omega
    have n2 : ¬ t1.size = t2.size := by omega
    refine wrB (k4.own n1 r1) (k4.own n1 r2) rfl rfl fun t5 k5 y5 r1' r2' => ?_
    have p1'' := k5.own n2 p1'
    have p2'' := k5.own n2 p2'
    have f15 : Ext t t5 := kp_nil (kp_nil ((f1.trans f2).trans f3) (fun q hq => by have : q = t1.size := hq; have := f1.1; omega) k4) (fun q hq => by have : q = t2.size := hq; have := (f1.trans f2).1; omega) k5
    have e5 := et.trans f15
    have his : decide ((0 : Int) ≤ (w : Int) ∧ (w : Int) < (partC c (woN c (w : Int))).ws.length) = true := decide_eq_true ⟨by omega, by show (w : Int) < c.ws.length; omega⟩
    have hz' := qr_ok hz (okC_iff.2 hpv) his
    have hr' := qr_ok hr (okC_iff.2 hpv) his
    refine BR_eq (fun he0 => ?_) (fun he0 => ?_)
    · obtain ⟨_, hcan, sz⟩ := hz'.resolve_left fun h => by omega
      obtain ⟨_, _, sr⟩ := hr'.resolve_left fun h => by omega
      have hsp := alone_span (w := w) hpv hAl (fun i hi _ => by
        obtain ⟨j, hj, hb2, he⟩ := (part_mem c.rs 0).1 (List.getElem_mem (l := partL (woN c (w : Int)) c.rs 0) hi)
        rw [Nat.zero_add] at hb2
        have h6 : (woN c (w : Int)).testBit j = decide (c.rs[j].wa ≠ (w : Int)) := woN_bit c.rs j hj
        rw [h6] at hb2
        have := of_decide_eq_true hb2
        rw [he] at this
        exact this) sz sr
      obtain ⟨hzl, hzh, hrl, hrh⟩ := hsp
      obtain ⟨aw, hx0, g1, g2, g3, g4⟩ := (hX t5 e5).ws w hAl
      rw [← addr_add (m := 2) (n := 1)] at g4
      subst hx0
      refine ⟨_, p1''.cell, ⟨_, p2''.cell, ⟨_, _, _, (e5.own o1).cell, IXS_nat hAl ⟨_, g1, ⟨_, g2, ?_⟩⟩⟩⟩⟩
      have c1' : zl = c.ws[w].zlo := hzl
      have c2' : zh = c.ws[w].zhi := hzh
      have c3' : rl = c.ws[w].rlo := hrl
      have c4' : rh = c.ws[w].rhi := hrh
      refine BR_ff (by rw [c1', c2']; simp) ?_
      refine ⟨_, r1'.cell, ⟨_, r2'.cell, ⟨_, _, _, (e5.own o1).cell, IXS_nat hAl ⟨_, g3, ⟨_, g4, ?_⟩⟩⟩⟩⟩
      exact hJ6 t5 _ er e5 (by rw [c3', c4']; simp) (.inl he0)
    · refine hJ6 t5 false er e5 rfl ?_
      rcases hz' with ⟨h1, _⟩ | ⟨h1, _⟩
      · exact .inr h1
      · exact .inl h1
  unfold J_law07_ClockAlone_8
  refine BR_ff hn0 ⟨_, _, _, (e13.own o1).cell, NZI_pos (by omega) ⟨_, (e13.own o2).cell, NZI_pos (by omega) (ANDS_i ⟨_, (e13.own o2).cell, rfl⟩ ?_)⟩⟩
  refine ⟨_, _, _, (e13.own o1).cell, ⟨_, (e13.own o2).cell, ⟨_, _, _, (e13.own o3).cell, ⟨_, _, _, (e13.own o4).cell, ⟨_, _, _, (e13.own o1).cell, ⟨_, (e13.own o2).cell, ⟨_, _, _, (e13.own o3).cell, ⟨_, _, _, (e13.own o4).cell, ?_⟩⟩⟩⟩⟩⟩⟩⟩
  have A4 : ∀ t, Ext s1 t → (RDL (Addr.add ⟨s.size, 0, none⟩ 0) fun x61 l62 c63 => RDI .i64 (Addr.add ⟨s.size, 0, none⟩ 1) fun n64 => RDL (Addr.add ⟨s.size, 0, none⟩ 2) fun x65 l66 c67 => RDL (Addr.add ⟨s.size, 0, none⟩ 3) fun x68 l69 c70 => fun _ => ((.agg #[(.slice x61 l62 c63), (.int .i64 n64), (.slice x65 l66 c67), (.slice x68 l69 c70)]) : Value) = (.agg #[(.slice x c.ws.length c1), (.int .i64 c.n), (.slice y c.rs.length c2), (.slice z c.ls.length c3)])) t := fun t e => ⟨_, _, _, (e.own o1).cell, ⟨_, (e.own o2).cell, ⟨_, _, _, (e.own o3).cell, ⟨_, _, _, (e.own o4).cell, rfl⟩⟩⟩⟩
  rw [hA]
  refine CONJ_two ?_ ?_
  · refine f_Without (hX s3 e13) hv.r8 fun t1 f1 => ?_
    try simp only [TUP_mk, AGG_mk, HD_mk, NL_mk, TYI_mk, TYB_mk, TYP_mk, TYL_mk, TYS_mk, TYM_mk, SO_mk, NX_mk, endK_mk, endK_mk', add_0]
    have g1 := e13.trans f1
    refine ANDS_i (A4 t1 g1) (CONJ_two ?_ ?_)
    · refine c_part (hX t1 g1) hv.r8 hwlt fun t2 y' cc f2 hp _ => ?_
      unfold clkV
      try simp only [TUP_mk, AGG_mk, HD_mk, NL_mk, TYI_mk, TYB_mk, TYP_mk, TYL_mk, TYS_mk, TYM_mk, SO_mk, NX_mk, endK_mk, endK_mk', add_0]
      refine NEWZ_rule zc_26 fun t3 f3 y3 n3 => ?_
      have g3 := (g1.trans f2).trans f3
      refine ANDS_i (A4 t3 g3) (ANDS_i (A4 t3 g3) ?_)
      show wrN [_, _, _, _] ⟨t2.size, 0, none⟩ 0 _ t3
      refine wrN_rule _ _ 0 _ t3 (fun i hi => ?_) ?_ ?_
      · match i, hi with
        | 0, _ => exact ⟨_, n3 0 _ rfl⟩
        | 1, _ => exact ⟨_, n3 1 _ rfl⟩
        | 2, _ => exact ⟨_, n3 2 _ rfl⟩
        | 3, _ => exact ⟨_, n3 3 _ rfl⟩
      · intro v hv
        simp at hv
        rcases hv with rfl | rfl | rfl | rfl <;> rfl
      · intro u k zu ho _
        have f3u : Ext t2 u := ext_kp f3 (Nat.le_refl _) k
        exact hJ7 u t2.size y' cc ((g1.trans f2).trans f3u) (hp.ext f3u) (ho 0 (by simp)) (ho 1 (by simp)) (ho 2 (by simp)) (ho 3 (by simp))
    · refine NEWZ_rule zc_26 fun t3 f3 y3 n3 => ?_
      have g3 := g1.trans f3
      refine ANDS_i (A4 t3 g3) (ANDS_i (A4 t3 g3) ?_)
      refine c_part (hX t3 g3) hv.r8 hwlt fun t2 y' cc f2 hp hfr => ?_
      unfold clkV
      try simp only [TUP_mk, AGG_mk, HD_mk, NL_mk, TYI_mk, TYB_mk, TYP_mk, TYL_mk, TYS_mk, TYM_mk, SO_mk, NX_mk, endK_mk, endK_mk', add_0]
      show wrN [_, _, _, _] ⟨t1.size, 0, none⟩ 0 _ t2
      refine wrN_rule _ _ 0 _ t2 (fun i hi => ?_) ?_ ?_
      · match i, hi with
        | 0, _ => exact ⟨_, f2.own (n3 0 _ rfl)⟩
        | 1, _ => exact ⟨_, f2.own (n3 1 _ rfl)⟩
        | 2, _ => exact ⟨_, f2.own (n3 2 _ rfl)⟩
        | 3, _ => exact ⟨_, f2.own (n3 3 _ rfl)⟩
      · intro v hv
        simp at hv
        rcases hv with rfl | rfl | rfl | rfl <;> rfl
      · intro u k zu ho _
        have g1u : Ext s1 u := ext_kp (g3.trans f2) (show s1.size ≤ t1.size from g1.1) k
        refine hJ7 u t1.size y' cc g1u ⟨(hX u g1u).ws, ?_, (hX u g1u).ls⟩ (ho 0 (by simp)) (ho 1 (by simp)) (ho 2 (by simp)) (ho 3 (by simp))
        exact row_rd ((rd_row hp.rs).keep k fun q hq hb => by have := hfr q hq; have : q.block = t1.size := hb; omega)
  · refine NEWZ_rule zc_26 fun t3 f3 y3 n3 => ?_
    have g3 := e13.trans f3
    refine ANDS_i (A4 t3 g3) (ANDS_i (A4 t3 g3) ?_)
    refine f_Without (hX t3 g3) hv.r8 fun t1 f1 => ?_
    try simp only [TUP_mk, AGG_mk, HD_mk, NL_mk, TYI_mk, TYB_mk, TYP_mk, TYL_mk, TYS_mk, TYM_mk, SO_mk, NX_mk, endK_mk, endK_mk', add_0]
    have g1 := g3.trans f1
    refine ANDS_i (A4 t1 g1) ?_
    refine c_part (hX t1 g1) hv.r8 hwlt fun t2 y' cc f2 hp hfr => ?_
    unfold clkV
    try simp only [TUP_mk, AGG_mk, HD_mk, NL_mk, TYI_mk, TYB_mk, TYP_mk, TYL_mk, TYS_mk, TYM_mk, SO_mk, NX_mk, endK_mk, endK_mk', add_0]
    have f12 := f1.trans f2
    show wrN [_, _, _, _] ⟨s3.size, 0, none⟩ 0 _ t2
    refine wrN_rule _ _ 0 _ t2 (fun i hi => ?_) ?_ ?_
    · match i, hi with
      | 0, _ => exact ⟨_, f12.own (n3 0 _ rfl)⟩
      | 1, _ => exact ⟨_, f12.own (n3 1 _ rfl)⟩
      | 2, _ => exact ⟨_, f12.own (n3 2 _ rfl)⟩
      | 3, _ => exact ⟨_, f12.own (n3 3 _ rfl)⟩
    · intro v hv
      simp at hv
      rcases hv with rfl | rfl | rfl | rfl <;> rfl
    · intro u k zu ho _
      have g1u : Ext s1 u := ext_kp (g3.trans f12) (show s1.size ≤ s3.size from e13.1) k
      refine hJ7 u s3.size y' cc g1u ⟨(hX u g1u).ws, ?_, (hX u g1u).ls⟩ (ho 0 (by simp)) (ho 1 (by simp)) (ho 2 (by simp)) (ho 3 (by simp))
      exact row_rd ((rd_row hp.rs).keep k fun q hq hb => by have := hfr q hq; have : q.block = s3.size := hb; have := f1.1; omega)
end
end Go.Proofs.Ytknpmijgdfeliaa.G

/- Clock: plain: a clock that is numbered otherwise. -/
set_option linter.unusedSimpArgs false
set_option linter.unusedVariables false
set_option maxRecDepth 20000
namespace Go.Proofs.Ytknpmijgdfeliaa.G
open Go.V
/-- The second clock is the first one, with events and watches numbered otherwise, and all lists the other way round. -/
structure Tn (c c' : Clk) (fe fi fw wi : Int → Int) : Prop where
  n : c'.n = c.n
  wl : c'.ws.length = c.ws.length
  fe0 : ∀ e : Int, 0 ≤ e → e < c.n → (0 ≤ fe e ∧ fe e < c.n) ∧ fi (fe e) = e
  fi0 : ∀ e : Int, 0 ≤ e → e < c.n → (0 ≤ fi e ∧ fi e < c.n) ∧ fe (fi e) = e
  fw0 : ∀ e : Int, 0 ≤ e → e < c.ws.length → (0 ≤ fw e ∧ fw e < c.ws.length) ∧ wi (fw e) = e
  wi0 : ∀ e : Int, 0 ≤ e → e < c.ws.length → (0 ≤ wi e ∧ wi e < c.ws.length) ∧ fw (wi e) = e
  w : ∀ (i j : Nat) (hi : i < c.ws.length) (hj : j < c'.ws.length), fw (i : Int) = (j : Int) → c'.ws[j] = c.ws[i]
  rl : c'.rs.length = c.rs.length
  r : ∀ (i j : Nat) (hi : i < c.rs.length) (hj : j < c'.rs.length), i + j + 1 = c.rs.length → c'.rs[j] = ⟨fe c.rs[i].ev, fw c.rs[i].wa, c.rs[i].sh⟩
  ll : c'.ls.length = c.ls.length
  l : ∀ (i j : Nat) (hi : i < c.ls.length) (hj : j < c'.ls.length), i + j + 1 = c.ls.length → c'.ls[j] = ⟨fe c.ls[i].b, fe c.ls[i].a, -c.ls[i].hi, -c.ls[i].lo⟩
theorem mem_at {α : Type} {x : α} {l : List α} (h : x ∈ l) : ∃ i, ∃ hi : i < l.length, l[i] = x := List.getElem_of_mem h
theorem Tn.ok {c c' : Clk} {fe fi fw wi : Int → Int} (h : Tn c c' fe fi fw wi) (hv : VdC c) : VdC c' where
  w2 := by rw [h.wl]; exact hv.w2
  n0 := by rw [h.n]; exact hv.n0
  n5 := by rw [h.n]; exact hv.n5
  r8 := by rw [h.rl]; exact hv.r8
  l5 := by rw [h.ll]; exact hv.l5
  wt := fun w hw => by
    obtain ⟨j, hj, rfl⟩ := mem_at hw
    have hj' := hj
    rw [h.wl] at hj'
    obtain ⟨⟨a, b⟩, d⟩ := h.wi0 (j : Int) (by omega) (by omega)
    obtain ⟨i, hi⟩ := Int.eq_ofNat_of_zero_le a
    rw [h.w i j (by omega) hj (by rw [← hi]; exact d)]
    exact hv.wt _ (List.getElem_mem _)
  rd := fun r hr => by
    obtain ⟨j, hj, rfl⟩ := mem_at hr
    have hj' := hj
    rw [h.rl] at hj'
    rw [h.r (c.rs.length - 1 - j) j (by omega) hj (by omega)]
    have := hv.rd _ (List.getElem_mem (l := c.rs) (n := c.rs.length - 1 - j) (by omega))
    have a := h.fe0 _ this.1 this.2.1
    have b := h.fw0 _ this.2.2.1 this.2.2.2.1
    simp only
    rw [h.n, h.wl]
    exact ⟨a.1.1, a.1.2, b.1.1, b.1.2, this.2.2.2.2⟩
  lk := fun l hl => by
    obtain ⟨j, hj, rfl⟩ := mem_at hl
    have hj' := hj
    rw [h.ll] at hj'
    rw [h.l (c.ls.length - 1 - j) j (by omega) hj (by omega)]
    have := hv.lk _ (List.getElem_mem (l := c.ls) (n := c.ls.length - 1 - j) (by omega))
    have a := h.fe0 _ this.1 this.2.1
    have b := h.fe0 _ this.2.2.1 this.2.2.2.1
    simp only
    rw [h.n]
    refine ⟨b.1.1, b.1.2, a.1.1, a.1.2, fun e => this.2.2.2.2.1 ?_, by omega, by omega, by omega⟩
    rw [← a.2, ← b.2, e]
theorem Tn.symm {c c' : Clk} {fe fi fw wi : Int → Int} (h : Tn c c' fe fi fw wi) (hv : VdC c) : Tn c' c fi fe wi fw where
  n := h.n.symm
  wl := h.wl.symm
  fe0 := by rw [h.n]; exact h.fi0
  fi0 := by rw [h.n]; exact h.fe0
  fw0 := by rw [h.wl]; exact h.wi0
  wi0 := by rw [h.wl]; exact h.fw0
  w := fun i j hi hj he => by
    have hi' := hi
    rw [h.wl] at hi'
    obtain ⟨_, d⟩ := h.wi0 (i : Int) (by omega) (by omega)
    rw [he] at d
    exact (h.w j i hj hi d).symm
  rl := h.rl.symm
  r := fun i j hi hj he => by
    have hi' := hi
    rw [h.rl] at hi' he
    rw [h.r j i hj hi (by omega)]
    have := hv.rd _ (List.getElem_mem hj)
    simp only
    rw [(h.fe0 _ this.1 this.2.1).2, (h.fw0 _ this.2.2.1 this.2.2.2.1).2]
  ll := h.ll.symm
  l := fun i j hi hj he => by
    have hi' := hi
    rw [h.ll] at hi' he
    rw [h.l j i hj hi (by omega)]
    have := hv.lk _ (List.getElem_mem hj)
    simp only
    rw [(h.fe0 _ this.1 this.2.1).2, (h.fe0 _ this.2.2.1 this.2.2.2.1).2, Int.neg_neg, Int.neg_neg]
theorem goesOk_of : ∀ {ws : List Wt} {g : List Go'}, g.length = ws.length → (∀ i (h : i < ws.length), GoOk ws[i] (g.getD i (0, 0))) → GoesOk ws g
  | [], [], _, _ => .nil
  | [], x :: g, h, _ => by simp at h
  | w :: ws, [], h, _ => by simp at h
  | w :: ws, x :: g, h, hg => .cons (hg 0 (by simp)) (goesOk_of (by simpa using h) fun i hi => by
    have := hg (i + 1) (by simpa using hi)
    simpa using this)
/-- How watches go, numbered otherwise. -/
def gT (m : Nat) (wi : Int → Int) (g : List Go') : List Go' := (List.range m).map fun (j : Nat) => g.getD (wi (j : Int)).toNat (0, 0)
theorem gT_get {m : Nat} {wi : Int → Int} {g : List Go'} {j : Nat} (hj : j < m) : (gT m wi g).getD j (0, 0) = g.getD (wi (j : Int)).toNat (0, 0) := by
  unfold gT
  rw [List.getD_eq_getElem?_getD, List.getElem?_map, List.getElem?_range hj]; rfl
section
variable {c c' : Clk} {fe fi fw wi : Int → Int} {S S' : Nat} {g : List Go'} {m : Int → Int}
theorem Tn.truth (h : Tn c c' fe fi fw wi) (hv : VdC c) (hS : ∀ i j, i + j + 1 = c.rs.length → S'.testBit j = S.testBit i) (ht : Truth c S g m) : Truth c' S' (gT c.ws.length wi g) (fun e => m (fi e)) where
  goes := by
    refine goesOk_of (by unfold gT; simp [h.wl]) fun j hj => ?_
    have hj' := hj
    rw [h.wl] at hj'
    rw [gT_get hj']
    obtain ⟨⟨a, b⟩, d⟩ := h.wi0 (j : Int) (by omega) (by omega)
    obtain ⟨i, hi⟩ := Int.eq_ofNat_of_zero_le a
    have hil : i < c.ws.length := by omega
    rw [h.w i j hil hj (by rw [← hi]; exact d), hi, Int.toNat_natCast]
    exact ht.goes.get i hil
  days := fun e h0 h1 => by
    rw [h.n] at h1
    obtain ⟨⟨a, b⟩, _⟩ := h.fi0 e h0 h1
    exact ht.days _ a b
  shows := fun j hj hb => by
    have hj' := hj
    rw [h.rl] at hj'
    have hi : c.rs.length - 1 - j < c.rs.length := by omega
    have hS' := hS (c.rs.length - 1 - j) j (by omega)
    have hh := ht.shows (c.rs.length - 1 - j) hi (by rw [← hS']; exact hb)
    rw [h.r (c.rs.length - 1 - j) j hi hj (by omega)]
    have hr := hv.rd _ (List.getElem_mem hi)
    generalize c.rs[c.rs.length - 1 - j] = q at *
    simp only
    obtain ⟨⟨a, b⟩, d⟩ := h.fw0 _ hr.2.2.1 hr.2.2.2.1
    rw [(h.fe0 _ hr.1 hr.2.1).2]
    obtain ⟨k, hk⟩ := Int.eq_ofNat_of_zero_le a
    rw [hk, Int.toNat_natCast, gT_get (by omega), ← hk, d]
    exact hh
  links := fun l hl => by
    obtain ⟨j, hj, rfl⟩ := mem_at hl
    have hj' := hj
    rw [h.ll] at hj'
    have hi : c.ls.length - 1 - j < c.ls.length := by omega
    have hh := ht.links _ (List.getElem_mem hi)
    rw [h.l (c.ls.length - 1 - j) j hi hj (by omega)]
    have hr := hv.lk _ (List.getElem_mem hi)
    generalize c.ls[c.ls.length - 1 - j] = q at *
    simp only
    rw [(h.fe0 _ hr.1 hr.2.1).2, (h.fe0 _ hr.2.2.1 hr.2.2.2.1).2]
    omega
/-- A set of readings, the other way round. -/
def revN (N s : Nat) : Nat := ((List.range N).map fun i => if s.testBit (N - 1 - i) then 2 ^ i else 0).sum
theorem rev_tab : ∀ N : Nat, N < 9 → ∀ s : Nat, s < 2 ^ N → revN N s < 2 ^ N ∧ popN (revN N s) = popN s ∧ ∀ i : Nat, i < N → (revN N s).testBit i = s.testBit (N - 1 - i) := by
  have h : ((List.range 9).all fun (N : Nat) => (List.range (2 ^ N)).all fun (s : Nat) => decide (revN N s < 2 ^ N) && decide (popN (revN N s) = popN s) && (List.range N).all fun (i : Nat) => decide ((revN N s).testBit i = s.testBit (N - 1 - i))) = true := by decide +kernel
  intro N hN s hs
  have h1 := List.all_eq_true.1 h N (by simpa using hN)
  have h2 := List.all_eq_true.1 h1 s (by simpa using hs)
  simp only [Bool.and_eq_true] at h2
  exact ⟨of_decide_eq_true h2.1.1, of_decide_eq_true h2.1.2, fun i hi => of_decide_eq_true (List.all_eq_true.1 h2.2 i (by simpa using hi))⟩
theorem Tn.can (h : Tn c c' fe fi fw wi) (hv : VdC c) (hS : ∀ i j, i + j + 1 = c.rs.length → S'.testBit j = S.testBit i) : CanC c S ↔ CanC c' S' := by
  constructor
  · rintro ⟨g, m, ht⟩; exact ⟨_, _, h.truth hv hS ht⟩
  · rintro ⟨g, m, ht⟩
    exact ⟨_, _, (h.symm hv).truth (h.ok hv) (S' := S) (fun i j hij => by rw [h.rl] at hij; exact (hS j i (by omega)).symm) ht⟩
theorem Tn.every (h : Tn c c' fe fi fw wi) : ∀ i j, i + j + 1 = c.rs.length → (everyN c').testBit j = (everyN c).testBit i := fun i j hij => by
  rw [every_bit (by rw [h.rl]; omega), every_bit (by omega)]
/-- What a question asks of both is the same. -/
theorem Tn.span {val val' : List Go' → (Int → Int) → Int} {lo hi lo' hi' : Int} (h : Tn c c' fe fi fw wi) (hv : VdC c)
    (h1 : ∀ g m, Truth c (everyN c) g m → val' (gT c.ws.length wi g) (fun e => m (fi e)) = val g m) (h2 : ∀ g m, Truth c' (everyN c') g m → val (gT c'.ws.length fw g) (fun e => m (fe e)) = val' g m)
    (s1 : SpanC c (everyN c) val lo hi) (s2 : SpanC c' (everyN c') val' lo' hi') : lo = lo' ∧ hi = hi' := by
  obtain ⟨⟨g1, m1, t1, v1⟩, ⟨g2, m2, t2, v2⟩, a⟩ := s1
  obtain ⟨⟨g3, m3, t3, v3⟩, ⟨g4, m4, t4, v4⟩, b⟩ := s2
  have hs := h.symm hv
  have hE : ∀ i j, i + j + 1 = c'.rs.length → (everyN c).testBit j = (everyN c').testBit i := hs.every
  have q1 := b _ _ (h.truth hv h.every t1)
  have q2 := b _ _ (h.truth hv h.every t2)
  have q3 := a _ _ (hs.truth (h.ok hv) hE t3)
  have q4 := a _ _ (hs.truth (h.ok hv) hE t4)
  rw [h1 _ _ t1] at q1
  rw [h1 _ _ t2] at q2
  rw [h2 _ _ t3] at q3
  rw [h2 _ _ t4] at q4
  omega
theorem Tn.atM (h : Tn c c' fe fi fw wi) {e : Int} (h0 : 0 ≤ e) (h1 : e < c.n) : atM (fun e => m (fi e)) (fe e) = atM m e := by
  obtain ⟨⟨a, b⟩, d⟩ := h.fe0 e h0 h1
  unfold G.atM
  rw [if_neg (by omega), if_neg (by omega)]
  show m (fi (fe e)) = m e
  rw [d]
theorem Tn.atM' (h : Tn c c' fe fi fw wi) {e : Int} (h0 : 0 ≤ e) (h1 : e < c.n) : G.atM (fun e => m (fe e)) e = G.atM m (fe e) := by
  obtain ⟨⟨a, b⟩, d⟩ := h.fe0 e h0 h1
  unfold G.atM
  rw [if_neg (by omega), if_neg (by omega)]
theorem Tn.later (h : Tn c c' fe fi fw wi) (hv : VdC c) {a b lo hi lo' hi' : Int} (ha : 0 ≤ a ∧ a < c.n) (hb : 0 ≤ b ∧ b < c.n) (s1 : SpanC c (everyN c) (laterV a b) lo hi) (s2 : SpanC c' (everyN c') (laterV (fe a) (fe b)) lo' hi') : lo = lo' ∧ hi = hi' := by
  refine h.span hv (fun g m _ => ?_) (fun g m _ => ?_) s1 s2
  · unfold laterV; rw [h.atM ha.1 ha.2, h.atM hb.1 hb.2]
  · unfold laterV; rw [h.atM' ha.1 ha.2, h.atM' hb.1 hb.2]
theorem Tn.when (h : Tn c c' fe fi fw wi) (hv : VdC c) {a lo hi lo' hi' : Int} (ha : 0 ≤ a ∧ a < c.n) (s1 : SpanC c (everyN c) (laterV (-1) a) lo hi) (s2 : SpanC c' (everyN c') (laterV (-1) (fe a)) lo' hi') : lo = lo' ∧ hi = hi' := by
  have hm : ∀ m : Int → Int, G.atM m (-1) = 0 := fun m => if_pos rfl
  refine h.span hv (fun g m _ => ?_) (fun g m _ => ?_) s1 s2
  · unfold laterV; rw [h.atM ha.1 ha.2, hm, hm]
  · unfold laterV; rw [h.atM' ha.1 ha.2, hm, hm]
theorem Tn.gat (h : Tn c c' fe fi fw wi) {k : Int} (h0 : 0 ≤ k) (h1 : k < c.ws.length) : (gT c.ws.length wi g).getD (fw k).toNat (0, 0) = g.getD k.toNat (0, 0) := by
  obtain ⟨⟨a, b⟩, d⟩ := h.fw0 k h0 h1
  obtain ⟨j, hj⟩ := Int.eq_ofNat_of_zero_le a
  rw [hj, Int.toNat_natCast, gT_get (by omega), ← hj, d]
theorem Tn.gat' (h : Tn c c' fe fi fw wi) {k : Int} (h0 : 0 ≤ k) (h1 : k < c.ws.length) : (gT c'.ws.length fw g).getD k.toNat (0, 0) = g.getD (fw k).toNat (0, 0) := by
  obtain ⟨i, rfl⟩ := Int.eq_ofNat_of_zero_le h0
  rw [Int.toNat_natCast, gT_get (by rw [h.wl]; omega)]
theorem Tn.zero (h : Tn c c' fe fi fw wi) (hv : VdC c) {k lo hi lo' hi' : Int} (hk : 0 ≤ k ∧ k < c.ws.length) (s1 : SpanC c (everyN c) (zeroV k) lo hi) (s2 : SpanC c' (everyN c') (zeroV (fw k)) lo' hi') : lo = lo' ∧ hi = hi' := by
  refine h.span hv (fun g m _ => ?_) (fun g m _ => ?_) s1 s2
  · unfold zeroV; rw [h.gat hk.1 hk.2]
  · unfold zeroV; rw [h.gat' hk.1 hk.2]
theorem Tn.rate (h : Tn c c' fe fi fw wi) (hv : VdC c) {k lo hi lo' hi' : Int} (hk : 0 ≤ k ∧ k < c.ws.length) (s1 : SpanC c (everyN c) (rateV k) lo hi) (s2 : SpanC c' (everyN c') (rateV (fw k)) lo' hi') : lo = lo' ∧ hi = hi' := by
  refine h.span hv (fun g m _ => ?_) (fun g m _ => ?_) s1 s2
  · unfold rateV; rw [h.gat hk.1 hk.2]
  · unfold rateV; rw [h.gat' hk.1 hk.2]
theorem Tn.show (h : Tn c c' fe fi fw wi) (hv : VdC c) {k e lo hi lo' hi' : Int} (hk : 0 ≤ k ∧ k < c.ws.length) (he : 0 ≤ e ∧ e < c.n) (s1 : SpanC c (everyN c) (showV k e) lo hi) (s2 : SpanC c' (everyN c') (showV (fw k) (fe e)) lo' hi') : lo = lo' ∧ hi = hi' := by
  refine h.span hv (fun g m _ => ?_) (fun g m _ => ?_) s1 s2
  · unfold showV; rw [h.gat hk.1 hk.2, h.atM he.1 he.2]
  · unfold showV; rw [h.gat' hk.1 hk.2, h.atM' he.1 he.2]
theorem Tn.cane (h : Tn c c' fe fi fw wi) (hv : VdC c) : CanC c (everyN c) ↔ CanC c' (everyN c') := h.can hv h.every
theorem qr_err {val : List Go' → (Int → Int) → Int} {lo hi err : Int} {is : Bool} (h : QR c is val lo hi err) (hv : VdC c) (hi' : is = true) : (CanC c (everyN c) ∧ err = 0 ∧ SpanC c (everyN c) val lo hi) ∨ (¬ CanC c (everyN c) ∧ err = 10 ∧ lo = 0 ∧ hi = 0) := by
  rcases qr_ok h (okC_iff.2 hv) hi' with ⟨h1, h2, h3, h4⟩ | ⟨h1, h2, h3⟩
  · exact .inr ⟨h2, h1, h3, h4⟩
  · exact .inl ⟨h2, h1, h3⟩
/-- What two questions of both clocks answer. -/
theorem Tn.qr {val val' : List Go' → (Int → Int) → Int} {lo hi lo' hi' err err' : Int} {is is' : Bool} (h : Tn c c' fe fi fw wi) (hv : VdC c) (q : QR c is val lo hi err) (q' : QR c' is' val' lo' hi' err') (hi1 : is = true) (hi2 : is' = true)
    (hs : SpanC c (everyN c) val lo hi → SpanC c' (everyN c') val' lo' hi' → lo = lo' ∧ hi = hi') : err' = err ∧ lo' = lo ∧ hi' = hi := by
  have hc := h.cane hv
  rcases qr_err q hv hi1 with ⟨a1, a2, a3⟩ | ⟨a1, a2, a3, a4⟩ <;> rcases qr_err q' (h.ok hv) hi2 with ⟨b1, b2, b3⟩ | ⟨b1, b2, b3, b4⟩
  · have := hs a3 b3; omega
  · exact absurd (hc.1 a1) b1
  · exact absurd (hc.2 b1) a1
  · omega
theorem coN_bit {s i : Nat} (hs : s ≤ everyN c) (hi : i < c.rs.length) : (coN c s).testBit i = !s.testBit i := co_bit hs hi
theorem every_lt' : everyN c < 2 ^ c.rs.length := by unfold everyN; have := Nat.two_pow_pos c.rs.length; omega
theorem Tn.drop1 (h : Tn c c' fe fi fw wi) (hv : VdC c) {d err d' err' : Int} (q : DropR c d err) (q' : DropR c' d' err') : err' = err ∧ ∃ n n' : Nat, d = n ∧ d' = n' ∧ n < 256 ∧ n' < 256 ∧ popN n' ≤ popN n := by
  have hok := okC_iff.2 hv
  have hok' := okC_iff.2 (h.ok hv)
  have hc0 : CanC c 0 ↔ CanC c' 0 := h.can hv fun i j _ => by simp
  have hp : ∀ {c : Clk}, VdC c → everyN c < 256 := fun {c} hv => by
    have h1 := every_lt' (c := c)
    have h2 := Nat.pow_le_pow_right (show 0 < 2 by omega) hv.r8
    omega
  rcases q with ⟨a1, _⟩ | ⟨_, a1, a2, a3⟩ | ⟨_, a1, a2, n, a3, a4, a5, a6⟩
  · rw [hok] at a1; cases a1
  · rcases q' with ⟨b1, _⟩ | ⟨_, b1, b2, b3⟩ | ⟨_, b1, _⟩
    · rw [hok'] at b1; cases b1
    · exact ⟨by omega, 0, 0, by omega, by omega, by omega, by omega, Nat.le_refl _⟩
    · exact absurd (hc0.2 b1) a1
  · rcases q' with ⟨b1, _⟩ | ⟨_, b1, b2, b3⟩ | ⟨_, b1, b2, n', b3, b4, b5, b6⟩
    · rw [hok'] at b1; cases b1
    · exact absurd (hc0.1 a1) b1
    · have hv' := h.ok hv
      have hn : n < 2 ^ c.rs.length := by have := every_lt' (c := c); omega
      have hr8 := hv.r8
      obtain ⟨r1, r2, r3⟩ := rev_tab c.rs.length (by omega) n hn
      have hle : revN c.rs.length n ≤ everyN c' := by unfold everyN; rw [h.rl]; omega
      have hcan : CanC c' (coN c' (revN c.rs.length n)) := by
        refine (h.can hv fun i j hij => ?_).1 a5
        rw [coN_bit hle (by rw [h.rl]; omega), coN_bit a4 (by omega), r3 j (by omega), show c.rs.length - 1 - j = i by omega]
      have hmin := b6 _ hle hcan
      have h1 := hp hv
      have h2 := hp hv'
      refine ⟨by omega, n, n', a3, b3, by omega, by omega, ?_⟩
      rw [← r2]
      rcases hmin with h3 | h3 <;> omega
theorem Tn.drop (h : Tn c c' fe fi fw wi) (hv : VdC c) {d err d' err' : Int} (q : DropR c d err) (q' : DropR c' d' err') : err' = err ∧ ∃ n n' : Nat, d = n ∧ d' = n' ∧ n < 256 ∧ n' < 256 ∧ popN n' = popN n := by
  obtain ⟨e1, n, n', h1, h2, h3, h4, h5⟩ := h.drop1 hv q q'
  obtain ⟨e2, k, k', g1, g2, g3, g4, g5⟩ := (h.symm hv).drop1 (h.ok hv) q' q
  have : k = n' := by omega
  have : k' = n := by omega
  subst k; subst k'
  exact ⟨e1, n, n', h1, h2, h3, h4, by omega⟩
theorem Tn.canwo1 (h : Tn c c' fe fi fw wi) (hv : VdC c) {k : Int} (hk : 0 ≤ k ∧ k < c.ws.length) (hw : CanWo c k) : CanWo c' (fw k) := by
  obtain ⟨S, h1, h2⟩ := hw
  have hr8 := hv.r8
  obtain ⟨r1, r2, r3⟩ := rev_tab c.rs.length (by omega) (S % 2 ^ c.rs.length) (Nat.mod_lt _ (Nat.two_pow_pos _))
  have hS : ∀ i j, i + j + 1 = c.rs.length → (revN c.rs.length (S % 2 ^ c.rs.length)).testBit j = S.testBit i := fun i j hij => by
    rw [r3 j (by omega), show c.rs.length - 1 - j = i by omega, Nat.testBit_mod_two_pow, decide_eq_true (show i < c.rs.length by omega), Bool.true_and]
  refine ⟨_, fun j hj => ?_, (h.can hv hS).1 h2⟩
  have hj' := hj
  rw [h.rl] at hj'
  have hi : c.rs.length - 1 - j < c.rs.length := by omega
  rw [hS (c.rs.length - 1 - j) j (by omega), h1 _ hi, h.r _ j hi hj (by omega)]
  simp only
  have hr := hv.rd _ (List.getElem_mem hi)
  congr 1
  apply propext
  constructor
  · intro hne e
    apply hne
    rw [← (h.fw0 _ hr.2.2.1 hr.2.2.2.1).2, e, (h.fw0 k hk.1 hk.2).2]
  · intro hne e
    exact hne (by rw [e])
theorem Tn.canwo (h : Tn c c' fe fi fw wi) (hv : VdC c) {k : Int} (hk : 0 ≤ k ∧ k < c.ws.length) : CanWo c k ↔ CanWo c' (fw k) := by
  refine ⟨h.canwo1 hv hk, fun hw => ?_⟩
  obtain ⟨⟨a, b⟩, d⟩ := h.fw0 k hk.1 hk.2
  have := (h.symm hv).canwo1 (h.ok hv) (k := fw k) (by rw [h.wl]; exact ⟨a, b⟩) hw
  rw [d] at this
  exact this
theorem Tn.wrong (h : Tn c c' fe fi fw wi) (hv : VdC c) {d err d' err' : Int} (q : WrongR c d err) (q' : WrongR c' d' err') : err' = err ∧ ∃ n n' : Nat, d = n ∧ d' = n' ∧ n < 4 ∧ n' < 4 ∧ ∀ k j : Nat, k < c.ws.length → fw k = (j : Int) → n'.testBit j = n.testBit k := by
  have hok := okC_iff.2 hv
  have hok' := okC_iff.2 (h.ok hv)
  have hc := h.cane hv
  have hw2 := hv.w2
  have hp : 2 ^ c.ws.length ≤ 4 := Nat.pow_le_pow_right (show 0 < 2 by omega) hw2
  have hp' : 2 ^ c'.ws.length ≤ 4 := by rw [h.wl]; exact hp
  rcases q with ⟨a1, _⟩ | ⟨_, a1, a2, a3⟩ | ⟨_, a1, a2, n, a3, a4, a5⟩
  · rw [hok] at a1; cases a1
  · rcases q' with ⟨b1, _⟩ | ⟨_, b1, b2, b3⟩ | ⟨_, b1, _⟩
    · rw [hok'] at b1; cases b1
    · exact ⟨by omega, 0, 0, by omega, by omega, by omega, by omega, fun k j _ _ => by simp⟩
    · exact absurd (hc.1 a1) b1
  · rcases q' with ⟨b1, _⟩ | ⟨_, b1, b2, b3⟩ | ⟨_, b1, b2, n', b3, b4, b5⟩
    · rw [hok'] at b1; cases b1
    · exact absurd (hc.2 b1) a1
    · refine ⟨by omega, n, n', a3, b3, by omega, by omega, fun k j hk hj => ?_⟩
      obtain ⟨⟨a, b⟩, _⟩ := h.fw0 (k : Int) (by omega) (by omega)
      have h1 := a5 k hk
      have h2 := b5 j (by rw [h.wl]; omega)
      rw [← hj] at h2
      rw [← h.canwo hv ⟨by omega, by omega⟩, ← h1] at h2
      cases hb : n.testBit k with
      | true => exact h2.2 hb
      | false =>
        cases hb' : n'.testBit j with
        | false => rfl
        | true => have := h2.1 hb'; rw [hb] at this; cases this
end
end Go.Proofs.Ytknpmijgdfeliaa.G

/- More of the functions' shallow texts, by gen.py. -/
set_option linter.unusedVariables false
set_option maxRecDepth 100000
namespace Go.Proofs.Ytknpmijgdfeliaa.G
open Go.V
def an_25 : Nat → Ann := fun b => match b with
 | 0 => { ms := [3, 12], ks := [.l, .i .i64], us := [0, 2, 4, 11, 155], rt := false, ex := [] }
 | 2 => { ms := [4, 59], ks := [.l, .i .i64], us := [0, 2, 3, 58, 155], rt := false, ex := [] }
 | 4 => { ms := [78], ks := [.i .i64], us := [0, 2, 3, 4, 77, 155], rt := false, ex := [] }
 | 6 => { ms := [110], ks := [.i .i64], us := [0, 2, 3, 4, 109, 155], rt := false, ex := [] }
 | _ => {}
abbrev rv_25 : List ResultVar := [.cell 2 26, .tmp 3, .tmp 4]
abbrev rs_25 : List Nat := [155, 2, 3, 4]
def L_law07_made_0 (W : World) (R : Ending → Hp → Prop) (zv0 : Value) (za1 : Addr) (zn2 : Int) (x6 : Option Addr) (l7 : Nat) (c8 : Nat) (n9 : Int) : Hp → Prop :=
 LOOPN [.l, .i .i64] (fun ys next s => ∀ j : Tm, vc Pg W 155 rs_25 an_25 false (sub (bodyOf Try.f25) [1, 0, 1, 0, 0]) 0 (KLoop [3, 12] [0, 2, 4, 11, 155] [zv0, (.pointer (some za1)), (.slice none 0 0), (.int .i64 zn2), (.tuple #[])] next (KBlk 0 (KS Pg W 155 rs_25 an_25 false (sub (bodyOf Try.f25) [1, 1]) 0 (fin Pg W 155 rv_25 R)))) (known [3, 12] ys (known [0, 2, 4, 11, 155] [zv0, (.pointer (some za1)), (.slice none 0 0), (.int .i64 zn2), (.tuple #[])] j)) s) [(.slice x6 l7 c8), (.int .i64 n9)]
def L_law07_made_1 (W : World) (R : Ending → Hp → Prop) (zv0 : Value) (za1 : Addr) (zp2 : Option Addr) (zl3 : Nat) (zl4 : Nat) (zn5 : Int) (x103 : Option Addr) (l104 : Nat) (c105 : Nat) (n106 : Int) : Hp → Prop :=
 LOOPN [.l, .i .i64] (fun ys next s => ∀ j : Tm, vc Pg W 155 rs_25 an_25 false (sub (bodyOf Try.f25) [1, 1, 1, 0, 1, 0, 0]) 2 (KLoop [4, 59] [0, 2, 3, 58, 155] [zv0, (.pointer (some za1)), (.slice zp2 zl3 zl4), (.int .i64 zn5), (.tuple #[])] next (KBlk 2 (KS Pg W 155 rs_25 an_25 false (sub (bodyOf Try.f25) [1, 1, 1, 1]) 0 (fin Pg W 155 rv_25 R)))) (known [4, 59] ys (known [0, 2, 3, 58, 155] [zv0, (.pointer (some za1)), (.slice zp2 zl3 zl4), (.int .i64 zn5), (.tuple #[])] j)) s) [(.slice x103 l104 c105), (.int .i64 n106)]
def L_law07_made_2 (W : World) (R : Ending → Hp → Prop) (zv0 : Value) (za1 : Addr) (zp2 : Option Addr) (zl3 : Nat) (zl4 : Nat) (zp5 : Option Addr) (zl6 : Nat) (zl7 : Nat) (zn8 : Int) (n141 : Int) : Hp → Prop :=
 LOOPN [.i .i64] (fun ys next s => ∀ j : Tm, vc Pg W 155 rs_25 an_25 false (sub (bodyOf Try.f25) [1, 1, 1, 1, 1, 0, 1, 0, 1, 0, 0]) 4 (KLoop [78] [0, 2, 3, 4, 77, 155] [zv0, (.pointer (some za1)), (.slice zp2 zl3 zl4), (.slice zp5 zl6 zl7), (.int .i64 zn8), (.tuple #[])] next (KBlk 4 (KS Pg W 155 rs_25 an_25 false (sub (bodyOf Try.f25) [1, 1, 1, 1, 1, 1]) 0 (fin Pg W 155 rv_25 R)))) (known [78] ys (known [0, 2, 3, 4, 77, 155] [zv0, (.pointer (some za1)), (.slice zp2 zl3 zl4), (.slice zp5 zl6 zl7), (.int .i64 zn8), (.tuple #[])] j)) s) [(.int .i64 n141)]
def L_law07_made_3 (W : World) (R : Ending → Hp → Prop) (zv0 : Value) (za1 : Addr) (zp2 : Option Addr) (zl3 : Nat) (zl4 : Nat) (zp5 : Option Addr) (zl6 : Nat) (zl7 : Nat) (zn8 : Int) (n173 : Int) : Hp → Prop :=
 LOOPN [.i .i64] (fun ys next s => ∀ j : Tm, vc Pg W 155 rs_25 an_25 false (sub (bodyOf Try.f25) [1, 1, 1, 1, 1, 1, 0, 1, 0, 0]) 6 (KLoop [110] [0, 2, 3, 4, 109, 155] [zv0, (.pointer (some za1)), (.slice zp2 zl3 zl4), (.slice zp5 zl6 zl7), (.int .i64 zn8), (.tuple #[])] next (KBlk 6 (KS Pg W 155 rs_25 an_25 false (sub (bodyOf Try.f25) [1, 1, 1, 1, 1, 1, 1]) 0 (fin Pg W 155 rv_25 R)))) (known [110] ys (known [0, 2, 3, 4, 109, 155] [zv0, (.pointer (some za1)), (.slice zp2 zl3 zl4), (.slice zp5 zl6 zl7), (.int .i64 zn8), (.tuple #[])] j)) s) [(.int .i64 n173)]
def J_law07_made_0 (W : World) (R : Ending → Hp → Prop) (zv0 : Value) (za1 : Addr) (zp2 : Option Addr) (zl3 : Nat) (zl4 : Nat) (zp5 : Option Addr) (zl6 : Nat) (zl7 : Nat) (zn8 : Int) (nx3 : List Value → Hp → Prop) (n173 : Int) : Hp → Prop :=
 NX [zv0, (.pointer (some za1)), (.slice zp2 zl3 zl4), (.slice zp5 zl6 zl7), (.int .i64 zn8), (.tuple #[])] [zv0, (.pointer (some za1)), (.slice zp2 zl3 zl4), (.slice zp5 zl6 zl7), (.int .i64 zn8), (.tuple #[])] (nx3 [(.int .i64 (IntKind.wrap .i64 (n173 + 1)))])
def B_law07_made_0 (W : World) (R : Ending → Hp → Prop) (zv0 : Value) (za1 : Addr) (zn2 : Int) (x6 : Option Addr) (l7 : Nat) (c8 : Nat) (n9 : Int) (nx0 : List Value → Hp → Prop) : Hp → Prop :=
 BR (decide (n9 < zn2))
 (CALLV Pg W zv0 [(.int .i64 900)]
 (fun v10 => TYI .i64 v10 fun n12 =>
 CALLV Pg W zv0 [(.int .i64 100)]
 (fun v13 => TYI .i64 v13 fun n15 =>
 NEWZ Pg 55 fun B16 =>
 WR (Addr.add ⟨B16, 0, none⟩ 0) (.int .i64 (IntKind.wrap .i64 (20 + n12))) <|
 WR (Addr.add ⟨B16, 0, none⟩ 1) (.int .i64 (IntKind.wrap .i64 (950 + n15))) <|
 RDI .i64 (Addr.add ⟨B16, 0, none⟩ 0) fun n17 =>
 RDI .i64 (Addr.add ⟨B16, 0, none⟩ 1) fun n18 =>
 NEW 55 [(.int .i64 n17), (.int .i64 n18)] fun B19 =>
 APP Pg 55 2 x6 l7 c8 (some ⟨B19, 0, none⟩) 1 fun x20 l21 c22 =>
 RDL (Addr.add za1 0) fun x23 l24 c25 =>
 RDI .i64 (Addr.add ⟨B16, 0, none⟩ 0) fun n26 =>
 RDI .i64 (Addr.add ⟨B16, 0, none⟩ 0) fun n27 =>
 RDI .i64 (Addr.add ⟨B16, 0, none⟩ 1) fun n28 =>
 RDI .i64 (Addr.add ⟨B16, 0, none⟩ 1) fun n29 =>
 CALLV Pg W zv0 [(.int .i64 2)]
 (fun v30 => TYI .i64 v30 fun n32 =>
 ANDS (RDI .i64 (Addr.add ⟨B16, 0, none⟩ 1) fun n33 =>
 fun _ => ((.int .i64 n33) : Value) = (.int .i64 n29)) <|
 ANDS (RDI .i64 (Addr.add ⟨B16, 0, none⟩ 1) fun n34 =>
 fun _ => ((.int .i64 n34) : Value) = (.int .i64 n28)) <|
 ANDS (RDI .i64 (Addr.add ⟨B16, 0, none⟩ 0) fun n35 =>
 fun _ => ((.int .i64 n35) : Value) = (.int .i64 n27)) <|
 ANDS (RDI .i64 (Addr.add ⟨B16, 0, none⟩ 0) fun n36 =>
 fun _ => ((.int .i64 n36) : Value) = (.int .i64 n26)) <|
 ANDS (RDL (Addr.add za1 0) fun x37 l38 c39 =>
 fun _ => ((.slice x37 l38 c39) : Value) = (.slice x23 l24 c25)) <|
 CALLV Pg W zv0 [(.int .i64 2)]
 (fun v40 => TYI .i64 v40 fun n42 =>
 ANDS (RDI .i64 (Addr.add ⟨B16, 0, none⟩ 1) fun n43 =>
 fun _ => ((.int .i64 n43) : Value) = (.int .i64 n29)) <|
 ANDS (RDI .i64 (Addr.add ⟨B16, 0, none⟩ 1) fun n44 =>
 fun _ => ((.int .i64 n44) : Value) = (.int .i64 n28)) <|
 ANDS (RDI .i64 (Addr.add ⟨B16, 0, none⟩ 0) fun n45 =>
 fun _ => ((.int .i64 n45) : Value) = (.int .i64 n27)) <|
 ANDS (RDI .i64 (Addr.add ⟨B16, 0, none⟩ 0) fun n46 =>
 fun _ => ((.int .i64 n46) : Value) = (.int .i64 n26)) <|
 ANDS (RDL (Addr.add za1 0) fun x47 l48 c49 =>
 fun _ => ((.slice x47 l48 c49) : Value) = (.slice x23 l24 c25)) <|
 CALL Pg W F_law07_span [(.int .i64 (IntKind.wrap .i64 (n26 - n32))), (.int .i64 (IntKind.wrap .i64 (n27 + n42)))]
 (fun v50 => AGG v50 fun q52 => HD q52 fun v53 r54 => TYI .i64 v53 fun n55 =>
 HD r54 fun v56 r57 => TYI .i64 v56 fun n58 =>
 NL r57 <|
 ANDS (RDI .i64 (Addr.add ⟨B16, 0, none⟩ 1) fun n59 =>
 fun _ => ((.int .i64 n59) : Value) = (.int .i64 n29)) <|
 ANDS (RDI .i64 (Addr.add ⟨B16, 0, none⟩ 1) fun n60 =>
 fun _ => ((.int .i64 n60) : Value) = (.int .i64 n28)) <|
 ANDS (RDL (Addr.add za1 0) fun x61 l62 c63 =>
 fun _ => ((.slice x61 l62 c63) : Value) = (.slice x23 l24 c25)) <|
 CALLV Pg W zv0 [(.int .i64 2)]
 (fun v64 => TYI .i64 v64 fun n66 =>
 ANDS (RDI .i64 (Addr.add ⟨B16, 0, none⟩ 1) fun n67 =>
 fun _ => ((.int .i64 n67) : Value) = (.int .i64 n29)) <|
 ANDS (RDI .i64 (Addr.add ⟨B16, 0, none⟩ 1) fun n68 =>
 fun _ => ((.int .i64 n68) : Value) = (.int .i64 n28)) <|
 ANDS (RDL (Addr.add za1 0) fun x69 l70 c71 =>
 fun _ => ((.slice x69 l70 c71) : Value) = (.slice x23 l24 c25)) <|
 CALLV Pg W zv0 [(.int .i64 2)]
 (fun v72 => TYI .i64 v72 fun n74 =>
 ANDS (RDI .i64 (Addr.add ⟨B16, 0, none⟩ 1) fun n75 =>
 fun _ => ((.int .i64 n75) : Value) = (.int .i64 n29)) <|
 ANDS (RDI .i64 (Addr.add ⟨B16, 0, none⟩ 1) fun n76 =>
 fun _ => ((.int .i64 n76) : Value) = (.int .i64 n28)) <|
 ANDS (RDL (Addr.add za1 0) fun x77 l78 c79 =>
 fun _ => ((.slice x77 l78 c79) : Value) = (.slice x23 l24 c25)) <|
 CALL Pg W F_law07_span [(.int .i64 (IntKind.wrap .i64 (n28 - n66))), (.int .i64 (IntKind.wrap .i64 (n29 + n74)))]
 (fun v80 => AGG v80 fun q82 => HD q82 fun v83 r84 => TYI .i64 v83 fun n85 =>
 HD r84 fun v86 r87 => TYI .i64 v86 fun n88 =>
 NL r87 <|
 ANDS (RDL (Addr.add za1 0) fun x89 l90 c91 =>
 fun _ => ((.slice x89 l90 c91) : Value) = (.slice x23 l24 c25)) <|
 NEW 66 [(.int .i64 n55), (.int .i64 n58), (.int .i64 n85), (.int .i64 n88)] fun B92 =>
 ANDS (RDL (Addr.add za1 0) fun x93 l94 c95 =>
 fun _ => ((.slice x93 l94 c95) : Value) = (.slice x23 l24 c25)) <|
 APP Pg 66 4 x23 l24 c25 (some ⟨B92, 0, none⟩) 1 fun x96 l97 c98 =>
 WR (Addr.add (Addr.add za1 0) 0) (.slice x96 l97 c98) <|
 NX [zv0, (.pointer (some za1)), (.slice none 0 0), (.int .i64 zn2), (.tuple #[])] [zv0, (.pointer (some za1)), (.slice none 0 0), (.int .i64 zn2), (.tuple #[])] (nx0 [(.slice x20 l21 c22), (.int .i64 (IntKind.wrap .i64 (n9 + 1)))]))
 (fun e81 => R (.panicked e81)))
 (fun e73 => R (.panicked e73)))
 (fun e65 => R (.panicked e65)))
 (fun e51 => R (.panicked e51)))
 (fun e41 => R (.panicked e41)))
 (fun e31 => R (.panicked e31)))
 (fun e14 => R (.panicked e14)))
 (fun e11 => R (.panicked e11)))
 (CALLV Pg W zv0 [(.int .i64 6)]
 (fun v99 => TYI .i64 v99 fun n101 =>
 WR (Addr.add (Addr.add za1 1) 0) (.int .i64 n101) <|
 RDI .i64 (Addr.add za1 1) fun n102 =>
 L_law07_made_1 W R zv0 za1 x6 l7 c8 n102 none 0 0 0)
 (fun e100 => R (.panicked e100)))
theorem B_law07_made_0_eq (W : World) (R : Ending → Hp → Prop) (zv0 : Value) (za1 : Addr) (zn2 : Int) (x6 : Option Addr) (l7 : Nat) (c8 : Nat) (n9 : Int) (nx0 : List Value → Hp → Prop) (j : Tm) : vc Pg W 155 rs_25 an_25 false (sub (bodyOf Try.f25) [1, 0, 1, 0, 0]) 0 (KLoop [3, 12] [0, 2, 4, 11, 155] [zv0, (.pointer (some za1)), (.slice none 0 0), (.int .i64 zn2), (.tuple #[])] nx0 (KBlk 0 (KS Pg W 155 rs_25 an_25 false (sub (bodyOf Try.f25) [1, 1]) 0 (fin Pg W 155 rv_25 R)))) (known [3, 12] [(.slice x6 l7 c8), (.int .i64 n9)] (known [0, 2, 4, 11, 155] [zv0, (.pointer (some za1)), (.slice none 0 0), (.int .i64 zn2), (.tuple #[])] j)) = B_law07_made_0 W R zv0 za1 zn2 x6 l7 c8 n9 nx0 := by kernel_rfl
def N_law07_made_0 (I : Option Addr → Nat → Nat → Int → Hp → Prop) (μ : Option Addr → Nat → Nat → Int → Hp → Nat) (x60 : Option Addr) (l70 : Nat) (c80 : Nat) (n90 : Int) (s : Hp) (vs : List Value) : Hp → Prop := fun s' => ∃ x6 l7 c8 n9, vs = [(.slice x6 l7 c8), (.int .i64 n9)] ∧ I x6 l7 c8 n9 s' ∧ μ x6 l7 c8 n9 s' < μ x60 l70 c80 n90 s
theorem L_law07_made_0_rule (W : World) (R : Ending → Hp → Prop) (zv0 : Value) (za1 : Addr) (zn2 : Int) (I : Option Addr → Nat → Nat → Int → Hp → Prop) (μ : Option Addr → Nat → Nat → Int → Hp → Nat) (x60 : Option Addr) (l70 : Nat) (c80 : Nat) (n90 : Int) (s : Hp) (h0 : I x60 l70 c80 n90 s)
    (hr : ∀ (x6 : Option Addr) (l7 : Nat) (c8 : Nat) (n9 : Int) (s : Hp), I x6 l7 c8 n9 s → B_law07_made_0 W R zv0 za1 zn2 x6 l7 c8 n9 (fun vs => N_law07_made_0 I μ x6 l7 c8 n9 s vs) s) : L_law07_made_0 W R zv0 za1 zn2 x60 l70 c80 n90 s := by
  refine ⟨fun vs s => ∃ x6 l7 c8 n9, vs = [(.slice x6 l7 c8), (.int .i64 n9)] ∧ I x6 l7 c8 n9 s, fun vs s => (match vs with | [.slice x6 l7 c8, .int _ n9] => μ x6 l7 c8 n9 s | _ => 0), ⟨⟨⟨_, _, _, rfl⟩, ⟨⟨_, rfl⟩, trivial⟩⟩, ⟨_, _, _, _, rfl, h0⟩⟩, ?_⟩
  intro x6 l7 c8 n9 s hI j
  obtain ⟨x6', l7', c8', n9', hy, hI⟩ := hI
  have hI' : I x6 l7 c8 n9 s := by cases hy; exact hI
  have hh := hr x6 l7 c8 n9 s hI'
  rw [← B_law07_made_0_eq W R zv0 za1 zn2 x6 l7 c8 n9 _ j] at hh
  refine vc_mono ?_ _ _ hh
  exact KLoop_mono (fun vs s' h => by obtain ⟨x61, l71, c81, n91, rfl, h1, h2⟩ := h; exact ⟨⟨⟨_, _, _, rfl⟩, ⟨⟨_, rfl⟩, trivial⟩⟩, ⟨_, _, _, _, rfl, h1⟩, h2⟩)
def B_law07_made_1 (W : World) (R : Ending → Hp → Prop) (zv0 : Value) (za1 : Addr) (zp2 : Option Addr) (zl3 : Nat) (zl4 : Nat) (zn5 : Int) (x103 : Option Addr) (l104 : Nat) (c105 : Nat) (n106 : Int) (nx1 : List Value → Hp → Prop) : Hp → Prop :=
 BR (decide (n106 < zn5))
 (CALLV Pg W zv0 [(.int .i64 601)]
 (fun v107 => TYI .i64 v107 fun n109 =>
 NEW 3 [(.int .i64 n109)] fun B110 =>
 APP Pg 3 1 x103 l104 c105 (some ⟨B110, 0, none⟩) 1 fun x111 l112 c113 =>
 NX [zv0, (.pointer (some za1)), (.slice zp2 zl3 zl4), (.int .i64 zn5), (.tuple #[])] [zv0, (.pointer (some za1)), (.slice zp2 zl3 zl4), (.int .i64 zn5), (.tuple #[])] (nx1 [(.slice x111 l112 c113), (.int .i64 (IntKind.wrap .i64 (n106 + 1)))]))
 (fun e108 => R (.panicked e108)))
 (RDI .i64 (Addr.add za1 1) fun n114 =>
 BR (n114 == 0)
 (RDL (Addr.add za1 0) fun x115 l116 c117 =>
 RDI .i64 (Addr.add za1 1) fun n118 =>
 RDL (Addr.add za1 2) fun x119 l120 c121 =>
 RDL (Addr.add za1 3) fun x122 l123 c124 =>
 WR (Addr.add za1 0) (.slice x115 l116 c117) <|
 WR (Addr.add za1 1) (.int .i64 n118) <|
 WR (Addr.add za1 2) (.slice x119 l120 c121) <|
 WR (Addr.add za1 3) (.slice x122 l123 c124) <|
 RDL (Addr.add za1 0) fun x125 l126 c127 =>
 RDI .i64 (Addr.add za1 1) fun n128 =>
 RDL (Addr.add za1 2) fun x129 l130 c131 =>
 RDL (Addr.add za1 3) fun x132 l133 c134 =>
 R (.returned (.tuple #[(.agg #[(.slice x125 l126 c127), (.int .i64 n128), (.slice x129 l130 c131), (.slice x132 l133 c134)]), (.slice zp2 zl3 zl4), (.slice x103 l104 c105)])))
 (BR (decide ((↑zl3 : Int) > 0))
 (CALLV Pg W zv0 [(.int .i64 9)]
 (fun v135 => TYI .i64 v135 fun n137 =>
 L_law07_made_2 W R zv0 za1 zp2 zl3 zl4 x103 l104 c105 n137 0)
 (fun e136 => R (.panicked e136)))
 (CALLV Pg W zv0 [(.int .i64 6)]
 (fun v138 => TYI .i64 v138 fun n140 =>
 L_law07_made_3 W R zv0 za1 zp2 zl3 zl4 x103 l104 c105 n140 0)
 (fun e139 => R (.panicked e139)))))
theorem B_law07_made_1_eq (W : World) (R : Ending → Hp → Prop) (zv0 : Value) (za1 : Addr) (zp2 : Option Addr) (zl3 : Nat) (zl4 : Nat) (zn5 : Int) (x103 : Option Addr) (l104 : Nat) (c105 : Nat) (n106 : Int) (nx1 : List Value → Hp → Prop) (j : Tm) : vc Pg W 155 rs_25 an_25 false (sub (bodyOf Try.f25) [1, 1, 1, 0, 1, 0, 0]) 2 (KLoop [4, 59] [0, 2, 3, 58, 155] [zv0, (.pointer (some za1)), (.slice zp2 zl3 zl4), (.int .i64 zn5), (.tuple #[])] nx1 (KBlk 2 (KS Pg W 155 rs_25 an_25 false (sub (bodyOf Try.f25) [1, 1, 1, 1]) 0 (fin Pg W 155 rv_25 R)))) (known [4, 59] [(.slice x103 l104 c105), (.int .i64 n106)] (known [0, 2, 3, 58, 155] [zv0, (.pointer (some za1)), (.slice zp2 zl3 zl4), (.int .i64 zn5), (.tuple #[])] j)) = B_law07_made_1 W R zv0 za1 zp2 zl3 zl4 zn5 x103 l104 c105 n106 nx1 := by kernel_rfl
def N_law07_made_1 (I : Option Addr → Nat → Nat → Int → Hp → Prop) (μ : Option Addr → Nat → Nat → Int → Hp → Nat) (x1030 : Option Addr) (l1040 : Nat) (c1050 : Nat) (n1060 : Int) (s : Hp) (vs : List Value) : Hp → Prop := fun s' => ∃ x103 l104 c105 n106, vs = [(.slice x103 l104 c105), (.int .i64 n106)] ∧ I x103 l104 c105 n106 s' ∧ μ x103 l104 c105 n106 s' < μ x1030 l1040 c1050 n1060 s
theorem L_law07_made_1_rule (W : World) (R : Ending → Hp → Prop) (zv0 : Value) (za1 : Addr) (zp2 : Option Addr) (zl3 : Nat) (zl4 : Nat) (zn5 : Int) (I : Option Addr → Nat → Nat → Int → Hp → Prop) (μ : Option Addr → Nat → Nat → Int → Hp → Nat) (x1030 : Option Addr) (l1040 : Nat) (c1050 : Nat) (n1060 : Int) (s : Hp) (h0 : I x1030 l1040 c1050 n1060 s)
    (hr : ∀ (x103 : Option Addr) (l104 : Nat) (c105 : Nat) (n106 : Int) (s : Hp), I x103 l104 c105 n106 s → B_law07_made_1 W R zv0 za1 zp2 zl3 zl4 zn5 x103 l104 c105 n106 (fun vs => N_law07_made_1 I μ x103 l104 c105 n106 s vs) s) : L_law07_made_1 W R zv0 za1 zp2 zl3 zl4 zn5 x1030 l1040 c1050 n1060 s := by
  refine ⟨fun vs s => ∃ x103 l104 c105 n106, vs = [(.slice x103 l104 c105), (.int .i64 n106)] ∧ I x103 l104 c105 n106 s, fun vs s => (match vs with | [.slice x103 l104 c105, .int _ n106] => μ x103 l104 c105 n106 s | _ => 0), ⟨⟨⟨_, _, _, rfl⟩, ⟨⟨_, rfl⟩, trivial⟩⟩, ⟨_, _, _, _, rfl, h0⟩⟩, ?_⟩
  intro x103 l104 c105 n106 s hI j
  obtain ⟨x103', l104', c105', n106', hy, hI⟩ := hI
  have hI' : I x103 l104 c105 n106 s := by cases hy; exact hI
  have hh := hr x103 l104 c105 n106 s hI'
  rw [← B_law07_made_1_eq W R zv0 za1 zp2 zl3 zl4 zn5 x103 l104 c105 n106 _ j] at hh
  refine vc_mono ?_ _ _ hh
  exact KLoop_mono (fun vs s' h => by obtain ⟨x1031, l1041, c1051, n1061, rfl, h1, h2⟩ := h; exact ⟨⟨⟨_, _, _, rfl⟩, ⟨⟨_, rfl⟩, trivial⟩⟩, ⟨_, _, _, _, rfl, h1⟩, h2⟩)
def B_law07_made_2 (W : World) (R : Ending → Hp → Prop) (zv0 : Value) (za1 : Addr) (zp2 : Option Addr) (zl3 : Nat) (zl4 : Nat) (zp5 : Option Addr) (zl6 : Nat) (zl7 : Nat) (zn8 : Int) (n141 : Int) (nx2 : List Value → Hp → Prop) : Hp → Prop :=
 BR (decide (n141 < zn8))
 (RDI .i64 (Addr.add za1 1) fun n142 =>
 CALLV Pg W zv0 [(.int .i64 n142)]
 (fun v143 => TYI .i64 v143 fun n145 =>
 CALLV Pg W zv0 [(.int .i64 (↑zl3 : Int))]
 (fun v146 => TYI .i64 v146 fun n148 =>
 NEWZ Pg 61 fun B149 =>
 WR (Addr.add ⟨B149, 0, none⟩ 0) (.int .i64 n145) <|
 WR (Addr.add ⟨B149, 0, none⟩ 1) (.int .i64 n148) <|
 WR (Addr.add ⟨B149, 0, none⟩ 2) (.int .i64 0) <|
 RDI .i64 (Addr.add ⟨B149, 0, none⟩ 1) fun n150 =>
 IXS zp2 zl3 n150 2 fun a151 =>
 RDI .i64 (Addr.add a151 0) fun n152 =>
 RDI .i64 (Addr.add a151 1) fun n153 =>
 RDI .i64 (Addr.add ⟨B149, 0, none⟩ 0) fun n154 =>
 IXS zp5 zl6 n154 1 fun a155 =>
 RDI .i64 a155 fun n156 =>
 CALL Pg W F_ref07_Show [(.agg #[(.int .i64 n152), (.int .i64 n153)]), (.int .i64 n156)]
 (fun v157 => TYI .i64 v157 fun n159 =>
 WR (Addr.add (Addr.add ⟨B149, 0, none⟩ 2) 0) (.int .i64 n159) <|
 RDL (Addr.add za1 2) fun x160 l161 c162 =>
 RDI .i64 (Addr.add ⟨B149, 0, none⟩ 0) fun n163 =>
 RDI .i64 (Addr.add ⟨B149, 0, none⟩ 1) fun n164 =>
 RDI .i64 (Addr.add ⟨B149, 0, none⟩ 2) fun n165 =>
 NEW 61 [(.int .i64 n163), (.int .i64 n164), (.int .i64 n165)] fun B166 =>
 APP Pg 61 3 x160 l161 c162 (some ⟨B166, 0, none⟩) 1 fun x167 l168 c169 =>
 WR (Addr.add (Addr.add za1 2) 0) (.slice x167 l168 c169) <|
 NX [zv0, (.pointer (some za1)), (.slice zp2 zl3 zl4), (.slice zp5 zl6 zl7), (.int .i64 zn8), (.tuple #[])] [zv0, (.pointer (some za1)), (.slice zp2 zl3 zl4), (.slice zp5 zl6 zl7), (.int .i64 zn8), (.tuple #[])] (nx2 [(.int .i64 (IntKind.wrap .i64 (n141 + 1)))]))
 (fun e158 => R (.panicked e158)))
 (fun e147 => R (.panicked e147)))
 (fun e144 => R (.panicked e144)))
 (CALLV Pg W zv0 [(.int .i64 6)]
 (fun v170 => TYI .i64 v170 fun n172 =>
 L_law07_made_3 W R zv0 za1 zp2 zl3 zl4 zp5 zl6 zl7 n172 0)
 (fun e171 => R (.panicked e171)))
theorem B_law07_made_2_eq (W : World) (R : Ending → Hp → Prop) (zv0 : Value) (za1 : Addr) (zp2 : Option Addr) (zl3 : Nat) (zl4 : Nat) (zp5 : Option Addr) (zl6 : Nat) (zl7 : Nat) (zn8 : Int) (n141 : Int) (nx2 : List Value → Hp → Prop) (j : Tm) : vc Pg W 155 rs_25 an_25 false (sub (bodyOf Try.f25) [1, 1, 1, 1, 1, 0, 1, 0, 1, 0, 0]) 4 (KLoop [78] [0, 2, 3, 4, 77, 155] [zv0, (.pointer (some za1)), (.slice zp2 zl3 zl4), (.slice zp5 zl6 zl7), (.int .i64 zn8), (.tuple #[])] nx2 (KBlk 4 (KS Pg W 155 rs_25 an_25 false (sub (bodyOf Try.f25) [1, 1, 1, 1, 1, 1]) 0 (fin Pg W 155 rv_25 R)))) (known [78] [(.int .i64 n141)] (known [0, 2, 3, 4, 77, 155] [zv0, (.pointer (some za1)), (.slice zp2 zl3 zl4), (.slice zp5 zl6 zl7), (.int .i64 zn8), (.tuple #[])] j)) = B_law07_made_2 W R zv0 za1 zp2 zl3 zl4 zp5 zl6 zl7 zn8 n141 nx2 := by kernel_rfl
def N_law07_made_2 (I : Int → Hp → Prop) (μ : Int → Hp → Nat) (n1410 : Int) (s : Hp) (vs : List Value) : Hp → Prop := fun s' => ∃ n141, vs = [(.int .i64 n141)] ∧ I n141 s' ∧ μ n141 s' < μ n1410 s
theorem L_law07_made_2_rule (W : World) (R : Ending → Hp → Prop) (zv0 : Value) (za1 : Addr) (zp2 : Option Addr) (zl3 : Nat) (zl4 : Nat) (zp5 : Option Addr) (zl6 : Nat) (zl7 : Nat) (zn8 : Int) (I : Int → Hp → Prop) (μ : Int → Hp → Nat) (n1410 : Int) (s : Hp) (h0 : I n1410 s)
    (hr : ∀ (n141 : Int) (s : Hp), I n141 s → B_law07_made_2 W R zv0 za1 zp2 zl3 zl4 zp5 zl6 zl7 zn8 n141 (fun vs => N_law07_made_2 I μ n141 s vs) s) : L_law07_made_2 W R zv0 za1 zp2 zl3 zl4 zp5 zl6 zl7 zn8 n1410 s := by
  refine ⟨fun vs s => ∃ n141, vs = [(.int .i64 n141)] ∧ I n141 s, fun vs s => (match vs with | [.int _ n141] => μ n141 s | _ => 0), ⟨⟨⟨_, rfl⟩, trivial⟩, ⟨_, rfl, h0⟩⟩, ?_⟩
  intro n141 s hI j
  obtain ⟨n141', hy, hI⟩ := hI
  have hI' : I n141 s := by cases hy; exact hI
  have hh := hr n141 s hI'
  rw [← B_law07_made_2_eq W R zv0 za1 zp2 zl3 zl4 zp5 zl6 zl7 zn8 n141 _ j] at hh
  refine vc_mono ?_ _ _ hh
  exact KLoop_mono (fun vs s' h => by obtain ⟨n1411, rfl, h1, h2⟩ := h; exact ⟨⟨⟨_, rfl⟩, trivial⟩, ⟨_, rfl, h1⟩, h2⟩)
def B_law07_made_3 (W : World) (R : Ending → Hp → Prop) (zv0 : Value) (za1 : Addr) (zp2 : Option Addr) (zl3 : Nat) (zl4 : Nat) (zp5 : Option Addr) (zl6 : Nat) (zl7 : Nat) (zn8 : Int) (n173 : Int) (nx3 : List Value → Hp → Prop) : Hp → Prop :=
 BR (decide (n173 < zn8))
 (RDI .i64 (Addr.add za1 1) fun n174 =>
 RDI .i64 (Addr.add za1 1) fun n175 =>
 CALLV Pg W zv0 [(.int .i64 n174)]
 (fun v176 => TYI .i64 v176 fun n178 =>
 ANDS (RDI .i64 (Addr.add za1 1) fun n179 =>
 fun _ => ((.int .i64 n179) : Value) = (.int .i64 n175)) <|
 CALLV Pg W zv0 [(.int .i64 n175)]
 (fun v180 => TYI .i64 v180 fun n182 =>
 BR (n178 == n182)
 (J_law07_made_0 W R zv0 za1 zp2 zl3 zl4 zp5 zl6 zl7 zn8 nx3 n173)
 (IXS zp5 zl6 n182 1 fun a183 =>
 RDI .i64 a183 fun n184 =>
 IXS zp5 zl6 n178 1 fun a185 =>
 RDI .i64 a185 fun n186 =>
 RDL (Addr.add za1 3) fun x187 l188 c189 =>
 CALLV Pg W zv0 [(.int .i64 9)]
 (fun v190 => TYI .i64 v190 fun n192 =>
 ANDS (RDL (Addr.add za1 3) fun x193 l194 c195 =>
 fun _ => ((.slice x193 l194 c195) : Value) = (.slice x187 l188 c189)) <|
 CONJ [
 ANDS (RDL (Addr.add za1 3) fun x196 l197 c198 =>
 fun _ => ((.slice x196 l197 c198) : Value) = (.slice x187 l188 c189)) <|
 CALLV Pg W zv0 [(.int .i64 9)]
 (fun v199 => TYI .i64 v199 fun n201 =>
 ANDS (RDL (Addr.add za1 3) fun x202 l203 c204 =>
 fun _ => ((.slice x202 l203 c204) : Value) = (.slice x187 l188 c189)) <|
 ANDS (RDL (Addr.add za1 3) fun x205 l206 c207 =>
 fun _ => ((.slice x205 l206 c207) : Value) = (.slice x187 l188 c189)) <|
 CALL Pg W F_law07_span [(.int .i64 (if (IntKind.wrap .i64 ((IntKind.wrap .i64 (n184 - n186)) - n192)) > (-600) then (IntKind.wrap .i64 ((IntKind.wrap .i64 (n184 - n186)) - n192)) else (-600))), (.int .i64 (if (IntKind.wrap .i64 ((IntKind.wrap .i64 (n184 - n186)) + n201)) < 600 then (IntKind.wrap .i64 ((IntKind.wrap .i64 (n184 - n186)) + n201)) else 600))]
 (fun v208 => AGG v208 fun q210 => HD q210 fun v211 r212 => TYI .i64 v211 fun n213 =>
 HD r212 fun v214 r215 => TYI .i64 v214 fun n216 =>
 NL r215 <|
 ANDS (RDL (Addr.add za1 3) fun x217 l218 c219 =>
 fun _ => ((.slice x217 l218 c219) : Value) = (.slice x187 l188 c189)) <|
 NEW 63 [(.int .i64 n178), (.int .i64 n182), (.int .i64 n213), (.int .i64 n216)] fun B220 =>
 ANDS (RDL (Addr.add za1 3) fun x221 l222 c223 =>
 fun _ => ((.slice x221 l222 c223) : Value) = (.slice x187 l188 c189)) <|
 APP Pg 63 4 x187 l188 c189 (some ⟨B220, 0, none⟩) 1 fun x224 l225 c226 =>
 WR (Addr.add (Addr.add za1 3) 0) (.slice x224 l225 c226) <|
 J_law07_made_0 W R zv0 za1 zp2 zl3 zl4 zp5 zl6 zl7 zn8 nx3 n173)
 (fun e209 => R (.panicked e209)))
 (fun e200 => R (.panicked e200)),
 CALLV Pg W zv0 [(.int .i64 9)]
 (fun v227 => TYI .i64 v227 fun n229 =>
 ANDS (RDL (Addr.add za1 3) fun x230 l231 c232 =>
 fun _ => ((.slice x230 l231 c232) : Value) = (.slice x187 l188 c189)) <|
 CONJ [
 ANDS (RDL (Addr.add za1 3) fun x233 l234 c235 =>
 fun _ => ((.slice x233 l234 c235) : Value) = (.slice x187 l188 c189)) <|
 ANDS (RDL (Addr.add za1 3) fun x236 l237 c238 =>
 fun _ => ((.slice x236 l237 c238) : Value) = (.slice x187 l188 c189)) <|
 CALL Pg W F_law07_span [(.int .i64 (if (IntKind.wrap .i64 ((IntKind.wrap .i64 (n184 - n186)) - n192)) > (-600) then (IntKind.wrap .i64 ((IntKind.wrap .i64 (n184 - n186)) - n192)) else (-600))), (.int .i64 (if (IntKind.wrap .i64 ((IntKind.wrap .i64 (n184 - n186)) + n229)) < 600 then (IntKind.wrap .i64 ((IntKind.wrap .i64 (n184 - n186)) + n229)) else 600))]
 (fun v239 => AGG v239 fun q241 => HD q241 fun v242 r243 => TYI .i64 v242 fun n244 =>
 HD r243 fun v245 r246 => TYI .i64 v245 fun n247 =>
 NL r246 <|
 ANDS (RDL (Addr.add za1 3) fun x248 l249 c250 =>
 fun _ => ((.slice x248 l249 c250) : Value) = (.slice x187 l188 c189)) <|
 NEW 63 [(.int .i64 n178), (.int .i64 n182), (.int .i64 n244), (.int .i64 n247)] fun B251 =>
 ANDS (RDL (Addr.add za1 3) fun x252 l253 c254 =>
 fun _ => ((.slice x252 l253 c254) : Value) = (.slice x187 l188 c189)) <|
 APP Pg 63 4 x187 l188 c189 (some ⟨B251, 0, none⟩) 1 fun x255 l256 c257 =>
 WR (Addr.add (Addr.add za1 3) 0) (.slice x255 l256 c257) <|
 J_law07_made_0 W R zv0 za1 zp2 zl3 zl4 zp5 zl6 zl7 zn8 nx3 n173)
 (fun e240 => R (.panicked e240)),
 ANDS (RDL (Addr.add za1 3) fun x258 l259 c260 =>
 fun _ => ((.slice x258 l259 c260) : Value) = (.slice x187 l188 c189)) <|
 ANDS (RDL (Addr.add za1 3) fun x261 l262 c263 =>
 fun _ => ((.slice x261 l262 c263) : Value) = (.slice x187 l188 c189)) <|
 CALL Pg W F_law07_span [(.int .i64 (if (IntKind.wrap .i64 ((IntKind.wrap .i64 (n184 - n186)) - n192)) > (-600) then (IntKind.wrap .i64 ((IntKind.wrap .i64 (n184 - n186)) - n192)) else (-600))), (.int .i64 (if (IntKind.wrap .i64 ((IntKind.wrap .i64 (n184 - n186)) + n229)) < 600 then (IntKind.wrap .i64 ((IntKind.wrap .i64 (n184 - n186)) + n229)) else 600))]
 (fun v264 => AGG v264 fun q266 => HD q266 fun v267 r268 => TYI .i64 v267 fun n269 =>
 HD r268 fun v270 r271 => TYI .i64 v270 fun n272 =>
 NL r271 <|
 ANDS (RDL (Addr.add za1 3) fun x273 l274 c275 =>
 fun _ => ((.slice x273 l274 c275) : Value) = (.slice x187 l188 c189)) <|
 NEW 63 [(.int .i64 n178), (.int .i64 n182), (.int .i64 n269), (.int .i64 n272)] fun B276 =>
 ANDS (RDL (Addr.add za1 3) fun x277 l278 c279 =>
 fun _ => ((.slice x277 l278 c279) : Value) = (.slice x187 l188 c189)) <|
 APP Pg 63 4 x187 l188 c189 (some ⟨B276, 0, none⟩) 1 fun x280 l281 c282 =>
 WR (Addr.add (Addr.add za1 3) 0) (.slice x280 l281 c282) <|
 J_law07_made_0 W R zv0 za1 zp2 zl3 zl4 zp5 zl6 zl7 zn8 nx3 n173)
 (fun e265 => R (.panicked e265))])
 (fun e228 => R (.panicked e228))])
 (fun e191 => R (.panicked e191))))
 (fun e181 => R (.panicked e181)))
 (fun e177 => R (.panicked e177)))
 (RDL (Addr.add za1 0) fun x283 l284 c285 =>
 RDI .i64 (Addr.add za1 1) fun n286 =>
 RDL (Addr.add za1 2) fun x287 l288 c289 =>
 RDL (Addr.add za1 3) fun x290 l291 c292 =>
 WR (Addr.add za1 0) (.slice x283 l284 c285) <|
 WR (Addr.add za1 1) (.int .i64 n286) <|
 WR (Addr.add za1 2) (.slice x287 l288 c289) <|
 WR (Addr.add za1 3) (.slice x290 l291 c292) <|
 RDL (Addr.add za1 0) fun x293 l294 c295 =>
 RDI .i64 (Addr.add za1 1) fun n296 =>
 RDL (Addr.add za1 2) fun x297 l298 c299 =>
 RDL (Addr.add za1 3) fun x300 l301 c302 =>
 R (.returned (.tuple #[(.agg #[(.slice x293 l294 c295), (.int .i64 n296), (.slice x297 l298 c299), (.slice x300 l301 c302)]), (.slice zp2 zl3 zl4), (.slice zp5 zl6 zl7)])))
theorem B_law07_made_3_eq (W : World) (R : Ending → Hp → Prop) (zv0 : Value) (za1 : Addr) (zp2 : Option Addr) (zl3 : Nat) (zl4 : Nat) (zp5 : Option Addr) (zl6 : Nat) (zl7 : Nat) (zn8 : Int) (n173 : Int) (nx3 : List Value → Hp → Prop) (j : Tm) : vc Pg W 155 rs_25 an_25 false (sub (bodyOf Try.f25) [1, 1, 1, 1, 1, 1, 0, 1, 0, 0]) 6 (KLoop [110] [0, 2, 3, 4, 109, 155] [zv0, (.pointer (some za1)), (.slice zp2 zl3 zl4), (.slice zp5 zl6 zl7), (.int .i64 zn8), (.tuple #[])] nx3 (KBlk 6 (KS Pg W 155 rs_25 an_25 false (sub (bodyOf Try.f25) [1, 1, 1, 1, 1, 1, 1]) 0 (fin Pg W 155 rv_25 R)))) (known [110] [(.int .i64 n173)] (known [0, 2, 3, 4, 109, 155] [zv0, (.pointer (some za1)), (.slice zp2 zl3 zl4), (.slice zp5 zl6 zl7), (.int .i64 zn8), (.tuple #[])] j)) = B_law07_made_3 W R zv0 za1 zp2 zl3 zl4 zp5 zl6 zl7 zn8 n173 nx3 := by kernel_rfl
def N_law07_made_3 (I : Int → Hp → Prop) (μ : Int → Hp → Nat) (n1730 : Int) (s : Hp) (vs : List Value) : Hp → Prop := fun s' => ∃ n173, vs = [(.int .i64 n173)] ∧ I n173 s' ∧ μ n173 s' < μ n1730 s
theorem L_law07_made_3_rule (W : World) (R : Ending → Hp → Prop) (zv0 : Value) (za1 : Addr) (zp2 : Option Addr) (zl3 : Nat) (zl4 : Nat) (zp5 : Option Addr) (zl6 : Nat) (zl7 : Nat) (zn8 : Int) (I : Int → Hp → Prop) (μ : Int → Hp → Nat) (n1730 : Int) (s : Hp) (h0 : I n1730 s)
    (hr : ∀ (n173 : Int) (s : Hp), I n173 s → B_law07_made_3 W R zv0 za1 zp2 zl3 zl4 zp5 zl6 zl7 zn8 n173 (fun vs => N_law07_made_3 I μ n173 s vs) s) : L_law07_made_3 W R zv0 za1 zp2 zl3 zl4 zp5 zl6 zl7 zn8 n1730 s := by
  refine ⟨fun vs s => ∃ n173, vs = [(.int .i64 n173)] ∧ I n173 s, fun vs s => (match vs with | [.int _ n173] => μ n173 s | _ => 0), ⟨⟨⟨_, rfl⟩, trivial⟩, ⟨_, rfl, h0⟩⟩, ?_⟩
  intro n173 s hI j
  obtain ⟨n173', hy, hI⟩ := hI
  have hI' : I n173 s := by cases hy; exact hI
  have hh := hr n173 s hI'
  rw [← B_law07_made_3_eq W R zv0 za1 zp2 zl3 zl4 zp5 zl6 zl7 zn8 n173 _ j] at hh
  refine vc_mono ?_ _ _ hh
  exact KLoop_mono (fun vs s' h => by obtain ⟨n1731, rfl, h1, h2⟩ := h; exact ⟨⟨⟨_, rfl⟩, trivial⟩, ⟨_, rfl, h1⟩, h2⟩)
def T_law07_made (W : World) (v1 : Value) (R : Ending → Hp → Prop) : Hp → Prop :=
 NEWZ Pg 26 fun B2 =>
 CALLV Pg W v1 [(.int .i64 3)]
 (fun v3 => TYI .i64 v3 fun n5 =>
 L_law07_made_0 W R v1 ⟨B2, 0, none⟩ n5 none 0 0 0)
 (fun e4 => R (.panicked e4))
theorem T_law07_made_eq (W : World) (v1 : Value) (R : Ending → Hp → Prop) : vfun Pg W an_25 Try.f25 [v1] R = T_law07_made W v1 R := by kernel_rfl
theorem does_law07_made (W : World) (v1 : Value) (R : Ending → Hp → Prop) (s : Hp) (h : T_law07_made W v1 R s) : Does Pg W F_law07_made #[v1] s R :=
  does_of_vfun Pg W an_25 Try.func25 rfl (by kernel_rfl) (by rw [T_law07_made_eq]; exact h)
def an_26 : Nat → Ann := fun b => match b with
 | _ => {}
abbrev rv_26 : List ResultVar := [.tmp 2]
abbrev rs_26 : List Nat := [5, 2]
def T_law07_draws (W : World) (x1 : Option Addr) (l2 : Nat) (c3 : Nat) (R : Ending → Hp → Prop) : Hp → Prop :=
 NEW 47 [(.slice x1 l2 c3)] fun B4 =>
 NEWZ Pg 3 fun B5 =>
 WR (Addr.add ⟨B5, 0, none⟩ 0) (.int .i64 0) <|
 R (.returned (.func (.func 57) #[] #[(.pointer (some ⟨B5, 0, none⟩)), (.pointer (some ⟨B4, 0, none⟩))]))
theorem T_law07_draws_eq (W : World) (x1 : Option Addr) (l2 : Nat) (c3 : Nat) (R : Ending → Hp → Prop) : vfun Pg W an_26 Try.f26 [(.slice x1 l2 c3)] R = T_law07_draws W x1 l2 c3 R := by kernel_rfl
theorem does_law07_draws (W : World) (x1 : Option Addr) (l2 : Nat) (c3 : Nat) (R : Ending → Hp → Prop) (s : Hp) (h : T_law07_draws W x1 l2 c3 R s) : Does Pg W F_law07_draws #[(.slice x1 l2 c3)] s R :=
  does_of_vfun Pg W an_26 Try.func26 rfl (by kernel_rfl) (by rw [T_law07_draws_eq]; exact h)
def an_57 : Nat → Ann := fun b => match b with
 | _ => {}
abbrev rv_57 : List ResultVar := [.tmp 4]
abbrev rs_57 : List Nat := [20, 4]
def T_law07_draws_c1 (W : World) (n1 : Int) (a2 : Addr) (a3 : Addr) (R : Ending → Hp → Prop) : Hp → Prop :=
 RDI .i64 a2 fun n4 =>
 WR (Addr.add a2 0) (.int .i64 (IntKind.wrap .i64 (n4 + 1))) <|
 RDL a3 fun x5 l6 c7 =>
 RDI .i64 a2 fun n8 =>
 RDL a3 fun x9 l10 c11 =>
 NZI (↑l10 : Int) <|
 IXS x5 l6 (Int.tmod n8 (↑l10 : Int)) 1 fun a12 =>
 RDI .u16 a12 fun n13 =>
 RDI .i64 a2 fun n14 =>
 NZI n1 <|
 R (.returned (.int .i64 (Int.tmod (IntKind.wrap .i64 ((IntKind.wrap .i64 n13) + (IntKind.wrap .i64 (53 * n14)))) n1)))
theorem T_law07_draws_c1_eq (W : World) (n1 : Int) (a2 : Addr) (a3 : Addr) (R : Ending → Hp → Prop) : vfun Pg W an_57 Try.f57 [(.int .i64 n1), (.pointer (some a2)), (.pointer (some a3))] R = T_law07_draws_c1 W n1 a2 a3 R := by kernel_rfl
theorem does_law07_draws_c1 (W : World) (n1 : Int) (a2 : Addr) (a3 : Addr) (R : Ending → Hp → Prop) (s : Hp) (h : T_law07_draws_c1 W n1 a2 a3 R s) : Does Pg W F_law07_draws_c1 #[(.int .i64 n1), (.pointer (some a2)), (.pointer (some a3))] s R :=
  does_of_vfun Pg W an_57 Try.func57 rfl (by kernel_rfl) (by rw [T_law07_draws_c1_eq]; exact h)
end Go.Proofs.Ytknpmijgdfeliaa.G

/- Clock: numbers that are drawn. -/
set_option linter.unusedSimpArgs false
set_option linter.unusedVariables false
set_option maxRecDepth 20000
namespace Go.Proofs.Ytknpmijgdfeliaa.G
open Go.V
def u16s (l : List Nat) : List Value := l.map fun (b : Nat) => .int .u16 (b : Int)
/-- What draws numbers: so many were drawn; all of it lies below 'N'. -/
structure DrO (N : Nat) (s : Hp) (a b : Addr) (k : Nat) : Prop where
  le : k ≤ 1000000
  at' : Own s a (.int .i64 (k : Int))
  by' : ∃ x l c, cellAt s b = some (.slice x l c) ∧ 0 < l ∧ ∀ i, i < l → ∃ y v, x = some y ∧ y.block ≠ a.block ∧ y.block < N ∧ cellAt s (y.add (i * 1)) = some (.int .u16 ((v : Nat) : Int)) ∧ v < 65536
  ne : a.block ≠ b.block
  an : a.block < N
  bn : b.block < N
section
variable {W : World} {K : VK} {E : List PanicEntry → Hp → Prop} {s : Hp}
theorem DrO.kp {N : Nat} {D : Nat → Prop} {s s' : Hp} {a b : Addr} {k : Nat} (h : DrO N s a b k) (e : Kp D s s') (hd : ∀ q, q < N → ¬ D q) : DrO N s' a b k where
  le := h.le
  at' := e.own (hd _ h.an) h.at'
  by' := by
    obtain ⟨x, l, c, h1, h2, h3⟩ := h.by'
    refine ⟨x, l, c, e.cell (hd _ h.bn) h1, h2, fun i hi => ?_⟩
    obtain ⟨y, v, g1, g2, g5, g3, g4⟩ := h3 i hi
    exact ⟨y, v, g1, g2, g5, e.cell (by rw [add_blk]; exact hd _ g5) g3, g4⟩
  ne := h.ne
  an := h.an
  bn := h.bn
theorem DrO.ext {N : Nat} {s s' : Hp} {a b : Addr} {k : Nat} (h : DrO N s a b k) (e : Ext s s') : DrO N s' a b k := h.kp (D := fun _ => False) e.kp fun _ _ h => h
theorem c_draw {N : Nat} {a b : Addr} {k : Nat} {n : Int} (hd : DrO N s a b k) (hk : k < 1000000) (hn : 0 < n ∧ n ≤ 100000) (h : ∀ s' r, Kp (· = a.block) s s' → s'.size = s.size → 0 ≤ r → r < n → DrO N s' a b (k + 1) → K (.int .i64 r) s') : CALLV Pg W (.func (.func 57) #[] #[.pointer (some a), .pointer (some b)]) [.int .i64 n] K E s := by
  refine CALLV_func ?_
  refine does_law07_draws_c1 W n a b _ s ?_
  unfold T_law07_draws_c1
  obtain ⟨x, l, c, h1, h2, h3⟩ := hd.by'
  refine ⟨_, hd.at'.cell, ?_⟩
  dsimp only
  rw [wrap_succ (by omega)]
  refine wr1 (a := a) hd.at' rfl fun s1 k1 z1 o1 => ?_
  have hb : ¬ b.block = a.block := fun e => hd.ne e.symm
  have h1' := k1.cell hb h1
  refine ⟨_, _, _, h1', ⟨_, o1.cell, ⟨_, _, _, h1', NZI_pos (by omega) ?_⟩⟩⟩
  have hm : Int.tmod (((k + 1 : Nat) : Int)) ((l : Nat) : Int) = (((k + 1) % l : Nat) : Int) := by
    rw [Int.tmod_eq_emod_of_nonneg (by omega)]; rfl
  rw [hm]
  have hml : (k + 1) % l < l := Nat.mod_lt _ h2
  obtain ⟨y, v, g1, g2, g5, g3, g4⟩ := h3 _ hml
  rw [g1]
  refine IXS_nat hml ⟨_, k1.cell (by rw [add_blk]; exact g2) g3, ⟨_, o1.cell, NZI_pos (by omega) ?_⟩⟩
  have e : Int.tmod (IntKind.i64.wrap (IntKind.i64.wrap ((v : Nat) : Int) + IntKind.i64.wrap (53 * (((k + 1 : Nat) : Int))))) n = ((v : Int) + 53 * ((k + 1 : Nat) : Int)) % n := by
    rw [wrap_i64 (n := ((v : Nat) : Int)) (by omega) (by omega), wrap_i64 (n := 53 * (((k + 1 : Nat) : Int))) (by omega) (by omega), wrap_i64 (by omega) (by omega), Int.tmod_eq_emod_of_nonneg (by omega)]
  rw [e]
  refine h s1 _ k1 z1 (Int.emod_nonneg _ (by omega)) (Int.emod_lt_of_pos _ hn.1) ⟨by omega, o1, ⟨x, l, c, h1', h2, fun i hi => ?_⟩, hd.ne, hd.an, hd.bn⟩
  obtain ⟨y', v', q1, q2, q5, q3, q4⟩ := h3 i hi
  exact ⟨y', v', q1, q2, q5, k1.cell (by rw [add_blk]; exact q2) q3, q4⟩
end
end Go.Proofs.Ytknpmijgdfeliaa.G

/- Clock: a clock of watches that truly go: plain, and rows. -/
set_option linter.unusedSimpArgs false
set_option linter.unusedVariables false
set_option maxRecDepth 20000
namespace Go.Proofs.Ytknpmijgdfeliaa.G
open Go.V
theorem kp_step {C D : Nat → Prop} {s0 s s' : Hp} (h : Kp D s0 s) (k : Kp C s s') (hc : ∀ q, C q → D q ∨ s0.size ≤ q) : Kp D s0 s' := ⟨Nat.le_trans h.1 k.1, fun q hq hd => (k.2 q (Nat.lt_of_lt_of_le hq h.1) (fun hh => (hc q hh).elim hd (fun h' => by omega))).trans (h.2 q hq hd)⟩
/-- Rows of things of several cells. -/
theorem rowF {α : Type} {f : α → List Value} {M : Nat} (hf : ∀ x, (f x).length = M) {s : Hp} {x : Option Addr} {l : List α} (h : RowAt s x (l.flatMap f)) (i : Nat) (hi : i < l.length) (hM : 0 < M) : ∃ a, x = some a ∧ ∀ t (ht : t < M), cellAt s ((a.add (i * M)).add t) = some ((f l[i])[t]'(by rw [hf]; exact ht)) := by
  have hl : (l.flatMap f).length = l.length * M := flat_len l fun x _ => hf x
  have hlt : ∀ t, t < M → i * M + t < (l.flatMap f).length := fun t ht => by
    rw [hl]
    have : (i + 1) * M ≤ l.length * M := Nat.mul_le_mul_right _ hi
    rw [Nat.add_mul] at this
    omega
  obtain ⟨a, ha, _⟩ := h (i * M) (by have := hlt 0 hM; omega)
  refine ⟨a, ha, fun t ht => ?_⟩
  obtain ⟨b, hb, hcell⟩ := h (i * M + t) (hlt t ht)
  rw [ha] at hb; cases hb
  have hg := flat_get (M := M) (f := f) l (fun x _ => hf x) i hi t ht
  rw [List.getElem?_eq_getElem (hlt t ht), List.getElem?_eq_getElem (by rw [hf]; exact ht)] at hg
  rw [Nat.mul_one] at hcell
  rw [addr_add, hcell]
  exact hg
def go2 (g : Go') : List Value := [.int .i64 g.1, .int .i64 g.2]
def wt4 (w : Wt) : List Value := [.int .i64 w.zlo, .int .i64 w.zhi, .int .i64 w.rlo, .int .i64 w.rhi]
def lk4 (l : Lk) : List Value := [.int .i64 l.a, .int .i64 l.b, .int .i64 l.lo, .int .i64 l.hi]
def mi1 (m : Int) : List Value := [.int .i64 m]
def goV (l : List Go') : List Value := l.flatMap go2
def wtV (l : List Wt) : List Value := l.flatMap wt4
def lkV (l : List Lk) : List Value := l.flatMap lk4
def miV (l : List Int) : List Value := l.flatMap mi1
theorem row_go {s : Hp} {x : Option Addr} {l : List Go'} (h : RowAt s x (goV l)) (i : Nat) (hi : i < l.length) : ∃ a, x = some a ∧ cellAt s ((a.add (i * 2)).add 0) = some (.int .i64 l[i].1) ∧ cellAt s ((a.add (i * 2)).add 1) = some (.int .i64 l[i].2) := by
  obtain ⟨a, h1, h2⟩ := rowF (f := go2) (M := 2) (fun _ => rfl) h i hi (by omega)
  exact ⟨a, h1, h2 0 (by omega), h2 1 (by omega)⟩
theorem row_mi {s : Hp} {x : Option Addr} {l : List Int} (h : RowAt s x (miV l)) (i : Nat) (hi : i < l.length) : ∃ a, x = some a ∧ cellAt s (a.add (i * 1)) = some (.int .i64 l[i]) := by
  obtain ⟨a, h1, h2⟩ := rowF (f := mi1) (M := 1) (fun _ => rfl) h i hi (by omega)
  refine ⟨a, h1, ?_⟩
  have := h2 0 (by omega)
  rw [addr_add] at this
  exact this
theorem row_wt {s : Hp} {x : Option Addr} {l : List Wt} (h : RowAt s x (wtV l)) : WtAt s x l := fun i hi => by
  obtain ⟨a, h1, h2⟩ := rowF (f := wt4) (M := 4) (fun _ => rfl) h i hi (by omega)
  exact ⟨a, h1, h2 0 (by omega), h2 1 (by omega), h2 2 (by omega), h2 3 (by omega)⟩
theorem row_lk {s : Hp} {x : Option Addr} {l : List Lk} (h : RowAt s x (lkV l)) : LkAt s x l := fun i hi => by
  obtain ⟨a, h1, h2⟩ := rowF (f := lk4) (M := 4) (fun _ => rfl) h i hi (by omega)
  exact ⟨a, h1, h2 0 (by omega), h2 1 (by omega), h2 2 (by omega), h2 3 (by omega)⟩
/-- What is truly so of watches, minutes, readings and links. -/
structure Wl (ws : List Wt) (gl : List Go') : Prop where
  len : ws.length ≤ 2
  goes : GoesOk ws gl
  gb : ∀ g ∈ gl, 20 ≤ g.1 ∧ g.1 ≤ 919 ∧ 950 ≤ g.2 ∧ g.2 ≤ 1049
  wb : ∀ w ∈ ws, 0 ≤ w.zlo ∧ w.zlo ≤ w.zhi ∧ w.zhi ≤ 1000 ∧ w.zhi - w.zlo ≤ 6 ∧ 900 ≤ w.rlo ∧ w.rlo ≤ w.rhi ∧ w.rhi ≤ 1100 ∧ w.rhi - w.rlo ≤ 4
theorem GoesOk.snoc : ∀ {ws : List Wt} {gl : List Go'} {w : Wt} {g : Go'}, GoesOk ws gl → GoOk w g → GoesOk (ws ++ [w]) (gl ++ [g])
  | _, _, _, _, .nil, h => .cons h .nil
  | _, _, _, _, .cons a t, h => .cons a (t.snoc h)
theorem Wl.snoc {ws : List Wt} {gl : List Go'} {z r a b c d : Int} (h : Wl ws gl) (hl : ws.length ≤ 1) (hz : 20 ≤ z ∧ z ≤ 919) (hr : 950 ≤ r ∧ r ≤ 1049) (ha : 0 ≤ a ∧ a ≤ 1) (hb : 0 ≤ b ∧ b ≤ 1) (hc : 0 ≤ c ∧ c ≤ 1) (hd : 0 ≤ d ∧ d ≤ 1) : Wl (ws ++ [⟨z - a, z + b, r - c, r + d⟩]) (gl ++ [(z, r)]) where
  len := by simp; omega
  goes := h.goes.snoc ⟨by show z - a ≤ z; omega, by show z ≤ z + b; omega, by show r - c ≤ r; omega, by show r ≤ r + d; omega⟩
  gb := fun g hg => by
    rcases List.mem_append.1 hg with hg | hg
    · exact h.gb g hg
    · rw [List.mem_singleton] at hg; subst hg; exact ⟨hz.1, hz.2, hr.1, hr.2⟩
  wb := fun w hw => by
    rcases List.mem_append.1 hw with hw | hw
    · exact h.wb w hw
    · rw [List.mem_singleton] at hw; subst hw
      simp only
      omega
def Ml (n : Int) (ml : List Int) : Prop := (ml.length : Int) = n ∧ n ≤ 5 ∧ ∀ m ∈ ml, 0 ≤ m ∧ m ≤ 600
def mAt (ml : List Int) : Int → Int := fun e => ml.getD e.toNat 0
def Rl (gl : List Go') (ml : List Int) (rs : List Rd) : Prop := rs.length ≤ 8 ∧ ∀ r ∈ rs, (0 ≤ r.ev ∧ r.ev < ml.length ∧ 0 ≤ r.wa ∧ r.wa < gl.length) ∧ showP (gl.getD r.wa.toNat (0, 0)) (mAt ml r.ev) = r.sh
def Ll (ml : List Int) (ls : List Lk) : Prop := ls.length ≤ 5 ∧ ∀ l ∈ ls, (0 ≤ l.a ∧ l.a < ml.length ∧ 0 ≤ l.b ∧ l.b < ml.length ∧ l.a ≠ l.b ∧ -600 ≤ l.lo ∧ l.lo ≤ l.hi ∧ l.hi ≤ 600) ∧ l.lo ≤ mAt ml l.b - mAt ml l.a ∧ mAt ml l.b - mAt ml l.a ≤ l.hi
/-- What is made: a clock, how its watches go, and when things happened. -/
structure Made (c : Clk) (gl : List Go') (ml : List Int) : Prop where
  ok : VdC c
  len : (ml.length : Int) = c.n
  gb : ∀ g ∈ gl, 20 ≤ g.1 ∧ g.1 ≤ 919 ∧ 950 ≤ g.2 ∧ g.2 ≤ 1049
  mb : ∀ m ∈ ml, 0 ≤ m ∧ m ≤ 600
  goes : GoesOk c.ws gl
  truth : Truth c (everyN c) gl (mAt ml)
theorem mAt_get {ml : List Int} {i : Nat} (hi : i < ml.length) : mAt ml (i : Int) = ml[i] := by
  unfold mAt; rw [Int.toNat_natCast]; simp [List.getD, hi]
theorem show_bnd {g : Go'} {m : Int} (hg : 20 ≤ g.1 ∧ g.1 ≤ 919 ∧ 950 ≤ g.2 ∧ g.2 ≤ 1049) (hm : 0 ≤ m ∧ m ≤ 600) : 0 ≤ showP g m ∧ showP g m ≤ 2000 := by
  unfold showP
  have h0 : 0 ≤ m * g.2 := Int.mul_nonneg hm.1 (by omega)
  have h1 : m * g.2 ≤ 600 * 1049 := Int.mul_le_mul hm.2 hg.2.2.2 (by omega) (by omega)
  generalize m * g.2 = q at *
  omega
theorem made_of {n : Int} {gl : List Go'} {ml : List Int} {ws : List Wt} {rs : List Rd} {ls : List Lk} (hw : Wl ws gl) (hm : Ml n ml) (hr : Rl gl ml rs) (hl : Ll ml ls) : Made ⟨ws, n, rs, ls⟩ gl ml := by
  have hgl : gl.length = ws.length := hw.goes.len
  have hmb : ∀ e : Int, 0 ≤ e → e < ml.length → 0 ≤ mAt ml e ∧ mAt ml e ≤ 600 := fun e h0 h1 => by
    obtain ⟨i, rfl⟩ := Int.eq_ofNat_of_zero_le h0
    have hi : i < ml.length := by omega
    rw [mAt_get hi]
    exact hm.2.2 _ (List.getElem_mem hi)
  have hv : VdC ⟨ws, n, rs, ls⟩ := by
    refine ⟨hw.len, by have := hm.1; show 0 ≤ n; omega, hm.2.1, hr.1, hl.1, hw.wb, fun r hrm => ?_, fun l hlm => ?_⟩
    · obtain ⟨⟨h1, h2, h3, h4⟩, h5⟩ := hr.2 r hrm
      have hm2 := hmb r.ev h1 h2
      obtain ⟨i, hi⟩ := Int.eq_ofNat_of_zero_le h3
      have hi' : i < gl.length := by omega
      have hg : gl.getD r.wa.toNat (0, 0) = gl[i] := by
        rw [hi, Int.toNat_natCast]; simp [List.getD, hi']
      have hb := show_bnd (hw.gb _ (List.getElem_mem hi')) hm2
      rw [← hg, h5] at hb
      have := hm.1
      refine ⟨h1, by show r.ev < n; omega, h3, by show r.wa < ws.length; omega, hb.1, hb.2⟩
    · obtain ⟨⟨h1, h2, h3, h4, h5, h6⟩, _⟩ := hl.2 l hlm
      have := hm.1
      exact ⟨h1, by show l.a < n; omega, h3, by show l.b < n; omega, h5, h6⟩
  refine ⟨hv, hm.1, hw.gb, hm.2.2, hw.goes, truth_every.2 ⟨hw.goes, fun e h0 h1 => hmb e h0 (by have := hm.1; have : e < n := h1; omega), fun r hrm => (hr.2 r hrm).2, fun l hlm => (hl.2 l hlm).2⟩⟩
end Go.Proofs.Ytknpmijgdfeliaa.G

/- Clock: a clock of watches that truly go: the walk, readings and links. -/
set_option linter.unusedSimpArgs false
set_option linter.unusedVariables false
set_option maxRecDepth 20000
namespace Go.Proofs.Ytknpmijgdfeliaa.G
open Go.V
/-- Where a made clock stands. -/
structure MB (s : Hp) (a b : Addr) (cb : Nat) (t : Hp) (c : Clk) (gl : List Go') (ml : List Int) (wx gx mx rx lx : Option Addr) (wc rc lc : Nat) : Prop where
  kp : Kp (· = a.block) s t
  ab : a.block < s.size
  sc : s.size ≤ cb
  c0 : Own t ⟨cb, 0, none⟩ (.slice wx c.ws.length wc)
  c1 : Own t ⟨cb, 1, none⟩ (.int .i64 c.n)
  c2 : Own t ⟨cb, 2, none⟩ (.slice rx c.rs.length rc)
  c3 : Own t ⟨cb, 3, none⟩ (.slice lx c.ls.length lc)
  w : RowAt t wx (wtV c.ws)
  g : RowAt t gx (goV gl)
  m : RowAt t mx (miV ml)
  r : RowAt t rx (rdV c.rs)
  l : RowAt t lx (lkV c.ls)
  wb : ∀ q, wx = some q → cb < q.block
  gb : ∀ q, gx = some q → cb < q.block
  mb : ∀ q, mx = some q → cb < q.block
  rb : ∀ q, rx = some q → cb < q.block
  lb : ∀ q, lx = some q → cb < q.block
section
variable {W : World} {K : VK} {E : List PanicEntry → Hp → Prop} {s : Hp} {a b : Addr} {cb : Nat} {c : Clk} {gl : List Go'} {ml : List Int} {wx gx mx rx lx : Option Addr} {wc rc lc gc mc : Nat}
theorem MB.lt {t : Hp} (h : MB s a b cb t c gl ml wx gx mx rx lx wc rc lc) : cb < t.size := h.c0.lt
theorem MB.keep {t t' : Hp} (h : MB s a b cb t c gl ml wx gx mx rx lx wc rc lc) (k : Kp (· = a.block) t t') : MB s a b cb t' c gl ml wx gx mx rx lx wc rc lc := by
  have hab := h.ab
  have hsc := h.sc
  have hn : ¬ cb = a.block := by omega
  have hd : ∀ {x : Option Addr}, (∀ q, x = some q → cb < q.block) → ∀ q, x = some q → ¬ q.block = a.block := fun hx q hq => by have := hx q hq; omega
  exact ⟨h.kp.trans k, h.ab, h.sc, k.own hn h.c0, k.own hn h.c1, k.own hn h.c2, k.own hn h.c3, h.w.keep k (hd h.wb), h.g.keep k (hd h.gb), h.m.keep k (hd h.mb), h.r.keep k (hd h.rb), h.l.keep k (hd h.lb), h.wb, h.gb, h.mb, h.rb, h.lb⟩
/-- What is so at the end. -/
def EndM (K : VK) (s : Hp) (a : Addr) : Prop := ∀ s' (c : Clk) (gl : List Go') (ml : List Int) wx gx mx rx lx wc rc lc gc mc, Kp (· = a.block) s s' → ClV s' c wx rx lx → RowAt s' gx (goV gl) → RowAt s' mx (miV ml) → Made c gl ml → K (.tuple #[clkV c wx rx lx wc rc lc, .slice gx gl.length gc, .slice mx ml.length mc]) s'
theorem made_end {t : Hp} (h : MB s a b cb t c gl ml wx gx mx rx lx wc rc lc) (hm : Made c gl ml) (he : EndM K s a) :
    (RDL (Addr.add ⟨cb, 0, none⟩ 0) fun x283 l284 c285 => RDI .i64 (Addr.add ⟨cb, 0, none⟩ 1) fun n286 => RDL (Addr.add ⟨cb, 0, none⟩ 2) fun x287 l288 c289 => RDL (Addr.add ⟨cb, 0, none⟩ 3) fun x290 l291 c292 =>
      WR (Addr.add ⟨cb, 0, none⟩ 0) (.slice x283 l284 c285) <| WR (Addr.add ⟨cb, 0, none⟩ 1) (.int .i64 n286) <| WR (Addr.add ⟨cb, 0, none⟩ 2) (.slice x287 l288 c289) <| WR (Addr.add ⟨cb, 0, none⟩ 3) (.slice x290 l291 c292) <|
      RDL (Addr.add ⟨cb, 0, none⟩ 0) fun x293 l294 c295 => RDI .i64 (Addr.add ⟨cb, 0, none⟩ 1) fun n296 => RDL (Addr.add ⟨cb, 0, none⟩ 2) fun x297 l298 c299 => RDL (Addr.add ⟨cb, 0, none⟩ 3) fun x300 l301 c302 =>
      K (.tuple #[(.agg #[(.slice x293 l294 c295), (.int .i64 n296), (.slice x297 l298 c299), (.slice x300 l301 c302)]), (.slice gx gl.length gc), (.slice mx ml.length mc)])) t := by
  refine ⟨_, _, _, h.c0.cell, ⟨_, h.c1.cell, ⟨_, _, _, h.c2.cell, ⟨_, _, _, h.c3.cell, ?_⟩⟩⟩⟩
  show wrN [_, _, _, _] ⟨cb, 0, none⟩ 0 _ t
  refine wrN_rule _ _ 0 _ t (fun i hi => ?_) ?_ ?_
  · match i, hi with
    | 0, _ => exact ⟨_, h.c0⟩
    | 1, _ => exact ⟨_, h.c1⟩
    | 2, _ => exact ⟨_, h.c2⟩
    | 3, _ => exact ⟨_, h.c3⟩
  · intro w hw
    simp at hw
    rcases hw with rfl | rfl | rfl | rfl <;> rfl
  · intro u k zu ho _
    have q0 := ho 0 (by simp)
    have q1 := ho 1 (by simp)
    have q2 := ho 2 (by simp)
    have q3 := ho 3 (by simp)
    refine ⟨_, _, _, q0.cell, ⟨_, q1.cell, ⟨_, _, _, q2.cell, ⟨_, _, _, q3.cell, ?_⟩⟩⟩⟩
    have hd : ∀ {x : Option Addr}, (∀ q, x = some q → cb < q.block) → ∀ q, x = some q → ¬ q.block = cb := fun hx q hq => by have := hx q hq; omega
    exact he u c gl ml wx gx mx rx lx wc rc lc gc mc (kp_step h.kp k fun q hq => .inr (by have := h.sc; have : q = cb := hq; omega))
      ⟨row_wt (h.w.keep k (hd h.wb)), row_rd (h.r.keep k (hd h.rb)), row_lk (h.l.keep k (hd h.lb))⟩ (h.g.keep k (hd h.gb)) (h.m.keep k (hd h.mb)) hm
theorem kp_ab {t0 t : Hp} {x y : Nat} (h : Kp (· = x) t0 t) : Kp (fun q => q = x ∨ q = y) t0 t := h.mono fun q hq => .inl hq
/-- A link that is made. -/
theorem made_link {t0 t : Hp} {x : Option Addr} {cc : Nat} {ls : List Lk} {n1 n2 p q : Int} {J : Hp → Prop} {E : List PanicEntry → Hp → Prop} (hcb : cb < t0.size) (hsz : t0.size ≤ t.size) (h3 : Own t ⟨cb, 3, none⟩ (.slice x ls.length cc)) (fr : Fr t0.size t x ls.length cc 4 (lkV ls)) (hl : ls.length ≤ 5)
    (h : ∀ t' x' c', Kp (fun z => z = cb ∨ t0.size ≤ z) t t' → Own t' ⟨cb, 3, none⟩ (.slice x' (ls.length + 1) c') → (∀ j w, j ≠ 3 → Own t ⟨cb, j, none⟩ w → Own t' ⟨cb, j, none⟩ w) → Fr t0.size t' x' (ls.length + 1) c' 4 (lkV (ls ++ [⟨n1, n2, p, q⟩])) → J t') :
    CALL Pg W F_law07_span [.int .i64 p, .int .i64 q] (fun v => AGG v fun q210 => HD q210 fun v211 r212 => TYI .i64 v211 fun n213 => HD r212 fun v214 r215 => TYI .i64 v214 fun n216 => NL r215 <|
      ANDS (RDL (Addr.add ⟨cb, 0, none⟩ 3) fun x217 l218 c219 => fun _ => ((.slice x217 l218 c219) : Value) = (.slice x ls.length cc)) <|
      NEW 63 [(.int .i64 n1), (.int .i64 n2), (.int .i64 n213), (.int .i64 n216)] fun B220 =>
      ANDS (RDL (Addr.add ⟨cb, 0, none⟩ 3) fun x221 l222 c223 => fun _ => ((.slice x221 l222 c223) : Value) = (.slice x ls.length cc)) <|
      APP Pg 63 4 x ls.length cc (some ⟨B220, 0, none⟩) 1 fun x224 l225 c226 => WR (Addr.add (Addr.add ⟨cb, 0, none⟩ 3) 0) (.slice x224 l225 c226) <| J) E t := by
  refine c_span fun t1 e1 => ?_
  try simp only [TUP_mk, AGG_mk, HD_mk, NL_mk, TYI_mk, TYB_mk, TYP_mk, TYL_mk, TYS_mk, TYM_mk, SO_mk, NX_mk, endK_mk, endK_mk', add_0]
  refine ANDS_i ⟨_, _, _, (e1.own h3).cell, rfl⟩ ?_
  refine NEW_rule fun t2 e2 z2 n2' _ => ?_
  have e12 := e1.trans e2
  refine ANDS_i ⟨_, _, _, (e12.own h3).cell, rfl⟩ ?_
  refine APP_fr (lo := t0.size) (fr.ext e12) (by have := e12.1; omega) (ws := lk4 ⟨n1, n2, p, q⟩) (fun i hi => ⟨⟨t1.size, 0, none⟩, rfl, ?_⟩) rfl zc_63 rfl (by omega) (by simp [lk4, oneCell]) (by omega) fun t3 x3 c3' k3 hx3 fr3 => ?_
  · have hi3 : i < 4 := hi
    match i, hi3 with
    | 0, _ => exact (n2' 0 _ rfl).cell
    | 1, _ => exact (n2' 1 _ rfl).cell
    | 2, _ => exact (n2' 2 _ rfl).cell
    | 3, _ => exact (n2' 3 _ rfl).cell
  · have hnD : ¬ (∃ a', x = some a' ∧ a'.block = cb) := by
      rintro ⟨a', ha', hb'⟩
      have := fr.fr a' ha'
      omega
    have f2o : ∀ {j v}, Own t ⟨cb, j, none⟩ v → Own t3 ⟨cb, j, none⟩ v := fun o => k3.own hnD (e12.own o)
    refine wrOne (i := 3) (f2o h3) rfl fun t4 k4 z4 w3 wk => ?_
    refine h t4 x3 c3' ?_ w3 (fun j w hj o => wk j w hj (f2o o)) ?_
    · refine Kp.trans (e12.kp.trans (k3.mono fun z hz => ?_)) (k4.mono fun z hz => .inl hz)
      obtain ⟨a', ha', rfl⟩ := hz
      exact .inr (fr.fr a' ha')
    · have e : lkV (ls ++ [⟨n1, n2, p, q⟩]) = lkV ls ++ lk4 ⟨n1, n2, p, q⟩ := by unfold lkV; rw [List.flatMap_append]; simp
      rw [e]
      exact fr3.kp k4 fun a' ha' hb' => by have := fr3.fr a' ha'; have : a'.block = cb := hb'; omega
abbrev drV (a b : Addr) : Value := .func (.func 57) #[] #[.pointer (some a), .pointer (some b)]
theorem made_l3 {t0 : Hp} {k : Nat} {N n : Int} {ws : List Wt} {rs : List Rd} (h : MB s a b cb t0 ⟨ws, n, rs, []⟩ gl ml wx gx mx rx none wc rc 0) (hd : DrO s.size t0 a b k) (hk : k ≤ 100) (hN : 0 ≤ N ∧ N ≤ 5) (hw : Wl ws gl) (hm : Ml n ml) (hn : 0 < n) (hr : Rl gl ml rs) (he : EndM K s a) :
    L_law07_made_3 W (endK K E) (drV a b) ⟨cb, 0, none⟩ gx gl.length gc mx ml.length mc N 0 t0 := by
  have hcb := h.lt
  have hab := h.ab
  have hsc := h.sc
  have hml := hm.1
  have hn5 := hm.2.1
  refine L_law07_made_3_rule W _ _ _ _ _ _ _ _ _ N (fun i t => ∃ (j : Nat) (ls : List Lk) (x : Option Addr) (cc k : Nat), i = j ∧ (j : Int) ≤ N ∧ Kp (fun q => q = a.block ∨ q = cb) t0 t ∧ DrO s.size t a b k ∧ k ≤ 100 + 4 * j ∧ Own t ⟨cb, 0, none⟩ (.slice wx ws.length wc) ∧ Own t ⟨cb, 1, none⟩ (.int .i64 n) ∧ Own t ⟨cb, 2, none⟩ (.slice rx rs.length rc) ∧ Own t ⟨cb, 3, none⟩ (.slice x ls.length cc) ∧ Fr t0.size t x ls.length cc 4 (lkV ls) ∧ ls.length ≤ j ∧ Ll ml ls) (fun i _ => (N - i).toNat) 0 t0
    ⟨0, [], none, 0, k, rfl, hN.1, Kp.refl _, hd, by omega, h.c0, h.c1, h.c2, h.c3, Fr.nil _ _ _, Nat.le_refl _, by simp, fun l hl => by cases hl⟩ ?_
  rintro i t ⟨j, ls, x, cc, k, rfl, hj, kt, hd, hk, c0, c1, c2, c3, fr, hlj, hll⟩
  generalize hnx : (fun vs => N_law07_made_3 _ _ (j : Int) t vs) = nx
  have hz0 : t0.size ≤ t.size := kt.1
  unfold B_law07_made_3
  refine BR_dec (fun hlt => ?_) (fun hge => ?_)
  · have hdd : ∀ q, q < s.size → ¬ (q = cb ∨ t0.size ≤ q) := fun q hq => by omega
    have hna : ¬ cb = a.block := by omega
    have hJ : ∀ (t' : Hp) (x' : Option Addr) (c' k' : Nat) (ls' : List Lk), Kp (fun q => q = a.block ∨ q = cb) t0 t' → DrO s.size t' a b k' → k' ≤ 100 + 4 * (j + 1) → Own t' ⟨cb, 0, none⟩ (.slice wx ws.length wc) → Own t' ⟨cb, 1, none⟩ (.int .i64 n) → Own t' ⟨cb, 2, none⟩ (.slice rx rs.length rc) → Own t' ⟨cb, 3, none⟩ (.slice x' ls'.length c') → Fr t0.size t' x' ls'.length c' 4 (lkV ls') → ls'.length ≤ j + 1 → Ll ml ls' →
        J_law07_made_0 W (endK K E) (drV a b) ⟨cb, 0, none⟩ gx gl.length gc mx ml.length mc N nx (j : Int) t' := by
      intro t' x' c' k' ls' g1 g2 g3 g4 g5 g6 g7 g8 g9 g10
      unfold J_law07_made_0
      try simp only [TUP_mk, AGG_mk, HD_mk, NL_mk, TYI_mk, TYB_mk, TYP_mk, TYL_mk, TYS_mk, TYM_mk, SO_mk, NX_mk, endK_mk, endK_mk', add_0]
      rw [← hnx]
      refine ⟨_, rfl, ⟨j + 1, ls', x', c', k', wrap_succ (by omega), by omega, g1, g2, g3, g4, g5, g6, g7, g8, g9, g10⟩, ?_⟩
      rw [wrap_succ (by omega)]
      show (N - ((j + 1 : Nat) : Int)).toNat < (N - (j : Int)).toNat
      omega
    clear hnx
    refine ⟨_, c1.cell, ⟨_, c1.cell, ?_⟩⟩
    refine c_draw hd (by omega) ⟨hn, by omega⟩ fun t1 p k1 z1 p0 p1 d1 => ?_
    try simp only [TUP_mk, AGG_mk, HD_mk, NL_mk, TYI_mk, TYB_mk, TYP_mk, TYL_mk, TYS_mk, TYM_mk, SO_mk, NX_mk, endK_mk, endK_mk', add_0]
    refine ANDS_i ⟨_, (k1.own hna c1).cell, rfl⟩ ?_
    refine c_draw d1 (by omega) ⟨hn, by omega⟩ fun t2 q k2 z2 q0 q1 d2 => ?_
    try simp only [TUP_mk, AGG_mk, HD_mk, NL_mk, TYI_mk, TYB_mk, TYP_mk, TYL_mk, TYS_mk, TYM_mk, SO_mk, NX_mk, endK_mk, endK_mk', add_0]
    have k02 := k1.trans k2
    have kt2 : Kp (fun q => q = a.block ∨ q = cb) t0 t2 := kp_step kt k02 fun z hz => .inl (.inl hz)
    have fk : ∀ {t'}, Kp (· = a.block) t t' → Fr t0.size t' x ls.length cc 4 (lkV ls) := fun k => fr.kp k fun a' ha' hb' => by have := fr.fr a' ha'; have := kt.1; have := h.kp.1; have : a'.block = a.block := hb'; omega
    refine BR_eq (fun hpq => ?_) (fun hpq => ?_)
    · exact hJ t2 x cc _ ls kt2 d2 (by omega) (k02.own hna c0) (k02.own hna c1) (k02.own hna c2) (k02.own hna c3) (fk k02) (by omega) hll
    obtain ⟨p, rfl⟩ := Int.eq_ofNat_of_zero_le p0
    obtain ⟨q, rfl⟩ := Int.eq_ofNat_of_zero_le q0
    have hpl : p < ml.length := by omega
    have hql : q < ml.length := by omega
    have hmt : RowAt t2 mx (miV ml) := h.m.keep kt2 fun y hy hh => by have := h.mb y hy; omega
    obtain ⟨am, hx0, gm1⟩ := row_mi hmt q hql
    obtain ⟨am', hx0', gm2⟩ := row_mi hmt p hpl
    rw [hx0] at hx0'; cases hx0'
    rw [hx0]
    refine IXS_nat hql ⟨_, gm1, IXS_nat hpl ⟨_, gm2, ⟨_, _, _, (k02.own hna c3).cell, ?_⟩⟩⟩
    have b1 := hm.2.2 _ (List.getElem_mem hql)
    have b2 := hm.2.2 _ (List.getElem_mem hpl)
    have m1 : mAt ml (q : Int) = ml[q] := mAt_get hql
    have m2 : mAt ml (p : Int) = ml[p] := mAt_get hpl
    generalize ml[q] = vq at *
    generalize ml[p] = vp at *
    have hfin : ∀ (t' : Hp) (u v : Int) (k' : Nat), Kp (· = a.block) t t' → DrO s.size t' a b k' → k' ≤ 100 + 4 * (j + 1) → 0 ≤ u → u < 9 → 0 ≤ v → v < 9 → ∀ (p1 q1 : Int), p1 = (if (IntKind.wrap .i64 ((IntKind.wrap .i64 (vq - vp)) - u)) > (-600) then (IntKind.wrap .i64 ((IntKind.wrap .i64 (vq - vp)) - u)) else (-600)) → q1 = (if (IntKind.wrap .i64 ((IntKind.wrap .i64 (vq - vp)) + v)) < 600 then (IntKind.wrap .i64 ((IntKind.wrap .i64 (vq - vp)) + v)) else 600) →
        ∀ (t'' : Hp) (x' : Option Addr) (c' : Nat), Kp (fun z => z = cb ∨ t0.size ≤ z) t' t'' → Own t'' ⟨cb, 3, none⟩ (.slice x' (ls.length + 1) c') → (∀ j w, j ≠ 3 → Own t' ⟨cb, j, none⟩ w → Own t'' ⟨cb, j, none⟩ w) → Fr t0.size t'' x' (ls.length + 1) c' 4 (lkV (ls ++ [⟨(p : Int), (q : Int), p1, q1⟩])) → J_law07_made_0 W (endK K E) (drV a b) ⟨cb, 0, none⟩ gx gl.length gc (some am) ml.length mc N nx (j : Int) t'' := by
      intro t' u v k' kk dd hk' u0 u1 v0 v1 p1 q1 hp1 hq1 t'' x' c' k2 w3 wk fr'
      rw [← hx0]
      rw [wrap_i64 (n := vq - vp) (by omega) (by omega), wrap_i64 (by omega) (by omega)] at hp1 hq1
      have hlen : (ls ++ [(⟨(p : Int), (q : Int), p1, q1⟩ : Lk)]).length = ls.length + 1 := by simp
      refine hJ t'' x' c' k' (ls ++ [⟨(p : Int), (q : Int), p1, q1⟩]) (kp_step (kp_step kt kk fun z hz => .inl (.inl hz)) k2 fun z hz => hz.elim (fun h => .inl (.inr h)) .inr) (dd.kp k2 hdd) hk' (wk 0 _ (by omega) (kk.own hna c0)) (wk 1 _ (by omega) (kk.own hna c1)) (wk 2 _ (by omega) (kk.own hna c2)) (by rw [hlen]; exact w3) (by rw [hlen]; exact fr') (by rw [hlen]; omega) ⟨by rw [hlen]; omega, fun l hl => ?_⟩
      rcases List.mem_append.1 hl with hl | hl
      · exact hll.2 l hl
      · rw [List.mem_singleton] at hl; subst hl
        simp only
        rw [m1, m2]
        have e1 : p1 ≤ vq - vp ∧ -600 ≤ p1 := by rw [hp1]; split <;> omega
        have e2 : vq - vp ≤ q1 ∧ q1 ≤ 600 := by rw [hq1]; split <;> omega
        have : (p : Int) ≠ (q : Int) := hpq
        omega
    refine c_draw d2 (by omega) (by omega) fun t3 u k3 z3 u0 u1 d3 => ?_
    try simp only [TUP_mk, AGG_mk, HD_mk, NL_mk, TYI_mk, TYB_mk, TYP_mk, TYL_mk, TYS_mk, TYM_mk, SO_mk, NX_mk, endK_mk, endK_mk', add_0]
    have k03 := k02.trans k3
    refine ANDS_i ⟨_, _, _, (k03.own hna c3).cell, rfl⟩ ?_
    have s3 : t0.size ≤ t3.size := by have := k03.1; omega
    refine CONJ_two ?_ ?_
    · refine ANDS_i ⟨_, _, _, (k03.own hna c3).cell, rfl⟩ ?_
      refine c_draw d3 (by omega) (by omega) fun t4 v k4 z4 v0 v1 d4 => ?_
      try simp only [TUP_mk, AGG_mk, HD_mk, NL_mk, TYI_mk, TYB_mk, TYP_mk, TYL_mk, TYS_mk, TYM_mk, SO_mk, NX_mk, endK_mk, endK_mk', add_0]
      have k04 := k03.trans k4
      refine ANDS_i ⟨_, _, _, (k04.own hna c3).cell, rfl⟩ (ANDS_i ⟨_, _, _, (k04.own hna c3).cell, rfl⟩ ?_)
      exact made_link hcb (by have := k04.1; omega) (k04.own hna c3) (fk k04) (by omega) (hfin t4 u v _ k04 d4 (by omega) u0 u1 v0 v1 _ _ rfl rfl)
    · refine c_draw d3 (by omega) (by omega) fun t4 v k4 z4 v0 v1 d4 => ?_
      try simp only [TUP_mk, AGG_mk, HD_mk, NL_mk, TYI_mk, TYB_mk, TYP_mk, TYL_mk, TYS_mk, TYM_mk, SO_mk, NX_mk, endK_mk, endK_mk', add_0]
      have k04 := k03.trans k4
      refine ANDS_i ⟨_, _, _, (k04.own hna c3).cell, rfl⟩ ?_
      refine CONJ_two ?_ ?_
      · refine ANDS_i ⟨_, _, _, (k04.own hna c3).cell, rfl⟩ (ANDS_i ⟨_, _, _, (k04.own hna c3).cell, rfl⟩ ?_)
        exact made_link hcb (by have := k04.1; omega) (k04.own hna c3) (fk k04) (by omega) (hfin t4 u v _ k04 d4 (by omega) u0 u1 v0 v1 _ _ rfl rfl)
      · refine ANDS_i ⟨_, _, _, (k04.own hna c3).cell, rfl⟩ (ANDS_i ⟨_, _, _, (k04.own hna c3).cell, rfl⟩ ?_)
        exact made_link hcb (by have := k04.1; omega) (k04.own hna c3) (fk k04) (by omega) (hfin t4 u v _ k04 d4 (by omega) u0 u1 v0 v1 _ _ rfl rfl)
  · have hh : MB s a b cb t ⟨ws, n, rs, ls⟩ gl ml wx gx mx rx x wc rc cc := by
      have hdq : ∀ {x : Option Addr}, (∀ q, x = some q → cb < q.block) → ∀ q, x = some q → ¬ (q.block = a.block ∨ q.block = cb) := fun hx q hq => by have := hx q hq; omega
      refine ⟨?_, h.ab, h.sc, c0, c1, c2, c3, h.w.keep kt (hdq h.wb), h.g.keep kt (hdq h.gb), h.m.keep kt (hdq h.mb), h.r.keep kt (hdq h.rb), fr.row, h.wb, h.gb, h.mb, h.rb, fun q hq => by have := fr.fr q hq; omega⟩
      exact kp_step h.kp kt fun q hq => hq.elim .inl fun hq => .inr (by omega)
    exact made_end hh (made_of hw hm hr hll) he
end
end Go.Proofs.Ytknpmijgdfeliaa.G
