import Derived.Test.YtkgcbfbbcaajpaaC3
/- Who surely is before somebody who surely is before a third one is before this one, nobody has a place that is less than those of all who surely are before, at least one can have won, and nobody can be before one who surely has: the statement RankThird holds for every input, with no condition. -/
/- The document's functions of layer 10: is a table valid? -/
set_option linter.unusedSimpArgs false
set_option linter.unusedVariables false
set_option maxRecDepth 20000
namespace Go.Proofs.Ytkgcbfbbcaajpaa.G
open Go.V
/-- A table as an argument lies. -/
structure TbA (s : Hp) (za : Addr) (T : Tb) : Prop where
  men : cellAt s (za.add 0) = some (.int .i64 T.men)
  sheets : cellAt s (za.add 1) = some (.int .i64 T.sheets)
  off : ∃ x c, cellAt s (za.add 2) = some (.slice x T.off.length c) ∧ RowAt s x (ints T.off)
  sc : ∃ y c, cellAt s (za.add 3) = some (.slice y T.sc.length c) ∧ ScAt s y T.sc
theorem TbA.ext {s s' : Hp} {za : Addr} {T : Tb} (e : Ext s s') (h : TbA s za T) : TbA s' za T where
  men := e.cell h.men
  sheets := e.cell h.sheets
  off := by obtain ⟨x, c, h1, h2⟩ := h.off; exact ⟨x, c, e.cell h1, h2.ext e⟩
  sc := by obtain ⟨x, c, h1, h2⟩ := h.sc; exact ⟨x, c, e.cell h1, h2.ext e⟩
theorem tbA_new {s s1 : Hp} {b : Nat} {T : Tb} {x y : Option Addr} {c c' : Nat} (e : Ext s s1) (hx : RowAt s x (ints T.off)) (hy : ScAt s y T.sc) (n1 : ∀ i v, [Value.int .i64 T.men, .int .i64 T.sheets, .slice x T.off.length c, .slice y T.sc.length c'][i]? = some v → Own s1 ⟨b, i, none⟩ v) : TbA s1 ⟨b, 0, none⟩ T :=
  ⟨(n1 0 _ rfl).cell, (n1 1 _ rfl).cell, ⟨x, c, (n1 2 _ rfl).cell, hx.ext e⟩, ⟨y, c', (n1 3 _ rfl).cell, hy.ext e⟩⟩
section
variable {W : World} {K : VK} {E : List PanicEntry → Hp → Prop} {s : Hp} {T : Tb}
theorem f_in {a b c : Int} (h : K (.bool (decide (b ≤ a ∧ a ≤ c))) s) : CALL Pg W F_ref10_in [.int .i64 a, .int .i64 b, .int .i64 c] K E s := by
  refine does_ref10_in W a b c _ s ?_
  unfold T_ref10_in
  refine BR_dec (fun h1 => ?_) (fun h1 => ?_)
  · have : decide (b ≤ a ∧ a ≤ c) = decide (a ≤ c) := by simp [h1]
    rw [← this]; exact h
  · have : decide (b ≤ a ∧ a ≤ c) = false := by simp [h1]
    rw [← this]; exact h
theorem f_Table {x y : Option Addr} {c c' : Nat} (hx : RowAt s x (ints T.off)) (hy : ScAt s y T.sc) (hlo : T.off.length ≤ 100000) (h : ∀ s', Ext s s' → K (.bool (okT T)) s') :
    CALL Pg W F_ref10_Table [.agg #[.int .i64 T.men, .int .i64 T.sheets, .slice x T.off.length c, .slice y T.sc.length c']] K E s := by
  refine does_ref10_Table W T.men T.sheets x T.off.length c y T.sc.length c' _ s ?_
  unfold T_ref10_Table
  refine NEW_rule fun s1 e1 z1 n1 _ => ?_
  have ta := tbA_new e1 hx hy n1
  have no : okT T = false → ∀ t, Ext s1 t → (endK K E) (.returned (.bool false)) t := fun hf t et => by
    have := h t (e1.trans et)
    rw [hf] at this; exact this
  have hokT : okT T = (decide (1 ≤ T.men ∧ T.men ≤ 6) && (decide (1 ≤ T.sheets ∧ T.sheets ≤ 5) && (decide ((T.off.length : Int) = T.men) && (!T.off.any badO && (decide (T.sc.length ≤ 30) && okS T [] T.sc))))) := rfl
  -- the loops
  have loops : ((1 ≤ T.men ∧ T.men ≤ 6) ∧ (1 ≤ T.sheets ∧ T.sheets ≤ 5)) → okT T = (!T.off.any badO && okS T [] T.sc) → T.sc.length ≤ 30 → L_ref10_Table_0 W (endK K E) ⟨s.size, 0, none⟩ false 0 s1 := by
    intro hms hok h30
    refine L_ref10_Table_0_rule W _ ⟨s.size, 0, none⟩ (fun _ n t => Ext s1 t ∧ ∃ k : Nat, k ≤ T.off.length ∧ n = k ∧ ∀ j, j < k → badO (T.off.getD j 0) = false) (fun _ n _ => (T.off.length - n).toNat) false 0 s1 ⟨Ext.refl _, 0, by omega, rfl, fun j hj => by omega⟩ ?_
    rintro b28 n29 t ⟨et, k, hk, rfl, hz⟩
    obtain ⟨x1, c1, g1, g2⟩ := (ta.ext et).off
    unfold B_ref10_Table_0
    refine ⟨_, _, _, g1, ?_⟩
    refine BR_dec (fun h1 => ?_) (fun h1 => ?_)
    · have hkl : k < T.off.length := by omega
      obtain ⟨a, ha, g⟩ := row_int g2 hkl
      have tk : ((k : Int)).toNat = k := by omega
      refine ⟨_, _, _, g1, a, ha, ⟨by omega, by omega⟩, _, by rw [tk]; exact g, ?_⟩
      refine f_in ?_
      try simp only [TUP_mk, AGG_mk, HD_mk, NL_mk, TYI_mk, TYB_mk, TYP_mk, TYL_mk, TYS_mk, TYM_mk, SO_mk, NX_mk, endK_mk, endK_mk', add_0]
      have hb : (!decide (0 ≤ T.off.getD k 0 ∧ T.off.getD k 0 ≤ 100)) = badO (T.off.getD k 0) := rfl
      refine BR_bool (fun h2 => ?_) (fun h2 => ?_)
      · have hany : T.off.any badO = true := List.any_eq_true.2 ⟨T.off[k], List.getElem_mem hkl, by rw [show T.off[k] = T.off.getD k 0 by simp [List.getD, hkl]]; exact h2⟩
        exact no (by rw [hok, hany]; rfl) t et
      · have hw : IntKind.i64.wrap ((k : Int) + 1) = ((k + 1 : Nat) : Int) := by rw [wrap_i64 (by omega) (by omega)]; rfl
        refine ⟨_, _, rfl, ⟨et, k + 1, by omega, hw, fun j hj => ?_⟩, ?_⟩
        · by_cases e : j = k
          · subst e; exact h2
          · exact hz j (by omega)
        · show ((T.off.length : Int) - IntKind.i64.wrap ((k : Int) + 1)).toNat < ((T.off.length : Int) - k).toNat
          rw [hw]; omega
    · have hany : T.off.any badO = false := List.any_eq_false.2 fun y hy => by
        obtain ⟨j, hj, rfl⟩ := List.mem_iff_getElem.1 hy
        have := hz j (by omega)
        rw [show T.off.getD j 0 = T.off[j] by simp [List.getD, hj]] at this
        rw [this]; simp
      rw [hany] at hok
      have hok2 : okT T = okS T [] T.sc := by rw [hok]; rfl
      refine L_ref10_Table_1_rule W _ ⟨s.size, 0, none⟩ (fun _ n t' => Ext s1 t' ∧ ∃ i : Nat, i ≤ T.sc.length ∧ n = i ∧ okS T ((T.sc.take i).map Sc.pr) (T.sc.drop i) = okS T [] T.sc) (fun _ n _ => (T.sc.length - n).toNat) b28 0 t ⟨et, 0, by omega, rfl, rfl⟩ ?_
      rintro b41 n42 u ⟨eu, i, hi, rfl, hoki⟩
      obtain ⟨y1, cy, q1, q2⟩ := (ta.ext eu).sc
      unfold B_ref10_Table_1
      refine ⟨_, _, _, q1, ?_⟩
      refine BR_dec (fun h2 => ?_) (fun h2 => ?_)
      · have hil : i < T.sc.length := by omega
        have hdrop : T.sc.drop i = T.sc[i] :: T.sc.drop (i + 1) := List.drop_eq_getElem_cons hil
        have hcons : okS T ((T.sc.take i).map Sc.pr) (T.sc.drop i) = (okSc T ((T.sc.take i).map Sc.pr) T.sc[i] && okS T ((T.sc.take (i + 1)).map Sc.pr) (T.sc.drop (i + 1))) := by
          rw [hdrop, List.take_add_one, List.getElem?_eq_getElem hil, List.map_append]
          rfl
        have bad : okSc T ((T.sc.take i).map Sc.pr) T.sc[i] = false → okT T = false := fun hb => by rw [hok2, ← hoki, hcons, hb, Bool.false_and]
        obtain ⟨a, ha, g0, g1', g2', g3⟩ := q2 i hil
        have ti : ((i : Int)).toNat = i := by omega
        refine ⟨_, _, _, q1, a, ha, ⟨by omega, by omega⟩, ?_⟩
        rw [ti]
        refine ⟨_, g0, _, g1', _, g2', _, g3, ?_⟩
        refine NEWZ_rule zc_55 fun u1 f1 y1 m1 => ?_
        refine wr4 rfl rfl rfl rfl (new4 m1) fun u2 k2 z2 o0 o1 o2 o3 => ?_
        have e2 : Ext u u2 := ext_own f1 (Nat.le_refl _) k2
        have eu2 := eu.trans e2
        have ta2 := ta.ext eu2
        have hokc : okSc T ((T.sc.take i).map Sc.pr) T.sc[i] = (decide (0 ≤ T.sc[i].man ∧ T.sc[i].man ≤ T.men - 1) && (decide (0 ≤ T.sc[i].sheet ∧ T.sc[i].sheet ≤ T.sheets - 1) && ((findA (T.sc[i].man, T.sc[i].sheet) ((T.sc.take i).map Sc.pr) 0).isNone && (decide (0 ≤ T.sc[i].lo) && (decide (T.sc[i].lo ≤ T.sc[i].hi) && decide (T.sc[i].hi ≤ 40)))))) := rfl
        have hw : IntKind.i64.wrap ((i : Int) + 1) = ((i + 1 : Nat) : Int) := by rw [wrap_i64 (by omega) (by omega)]; rfl
        have hms' : ((T.sc.length : Int) - IntKind.i64.wrap ((i : Int) + 1)).toNat < ((T.sc.length : Int) - i).toNat := by rw [hw]; omega
        generalize hnx : (fun vs => N_ref10_Table_1 (fun _ n t' => Ext s1 t' ∧ ∃ i : Nat, i ≤ T.sc.length ∧ n = i ∧ okS T ((T.sc.take i).map Sc.pr) (T.sc.drop i) = okS T [] T.sc) (fun _ n _ => (T.sc.length - n).toNat) b41 i u vs) = nx1
        have hgo : okSc T ((T.sc.take i).map Sc.pr) T.sc[i] = true → nx1 [.bool b41, .int .i64 (IntKind.wrap .i64 ((i : Int) + 1))] u2 := fun hT => by
          rw [← hnx]
          exact ⟨_, _, rfl, ⟨eu2, i + 1, by omega, hw, by rw [← hoki, hcons, hT, Bool.true_and]⟩, hms'⟩
        -- the scores before
        have inner : okSc T ((T.sc.take i).map Sc.pr) T.sc[i] = (findA (T.sc[i].man, T.sc[i].sheet) ((T.sc.take i).map Sc.pr) 0).isNone → L_ref10_Table_2 W (endK K E) nx1 ⟨s.size, 0, none⟩ i ⟨u.size, 0, none⟩ b41 0 u2 := by
          intro hF
          obtain ⟨yy, cyy, p1, p2⟩ := ta2.sc
          refine L_ref10_Table_2_rule W _ nx1 ⟨s.size, 0, none⟩ i ⟨u.size, 0, none⟩ (fun b n t' => t' = u2 ∧ b = b41 ∧ ∃ j : Nat, j ≤ i ∧ n = j ∧ ∀ q, (hq : q < T.sc.length) → q < j → (T.sc[q].man, T.sc[q].sheet) ≠ (T.sc[i].man, T.sc[i].sheet)) (fun _ n _ => (i - n).toNat) b41 0 u2 ⟨rfl, rfl, 0, by omega, rfl, fun q _ hq => by omega⟩ ?_
          rintro b73 n74 u3 ⟨rfl, rfl, j, hj, rfl, hne⟩
          unfold B_ref10_Table_2
          refine BR_dec (fun h3 => ?_) (fun h3 => ?_)
          · have hjl : j < T.sc.length := by omega
            obtain ⟨a', ha', r0, r1, _, _⟩ := p2 j hjl
            have tj : ((j : Int)).toNat = j := by omega
            have hwj : IntKind.i64.wrap ((j : Int) + 1) = ((j + 1 : Nat) : Int) := by rw [wrap_i64 (by omega) (by omega)]; rfl
            have j7 : ∀ q : Bool, (q = true → (T.sc[j].man, T.sc[j].sheet) = (T.sc[i].man, T.sc[i].sheet)) → (q = false → (T.sc[j].man, T.sc[j].sheet) ≠ (T.sc[i].man, T.sc[i].sheet)) → J_ref10_Table_7 W (endK K E) q ⟨s.size, 0, none⟩ i ⟨u.size, 0, none⟩ (fun vs => N_ref10_Table_2 (fun b n t' => t' = u3 ∧ b = b73 ∧ ∃ j : Nat, j ≤ i ∧ n = j ∧ ∀ q, (hq : q < T.sc.length) → q < j → (T.sc[q].man, T.sc[q].sheet) ≠ (T.sc[i].man, T.sc[i].sheet)) (fun _ n _ => (i - n).toNat) b73 j u3 vs) b73 j u3 := by
              intro q hq1 hq2
              unfold J_ref10_Table_7
              refine BR_bool (fun hh => ?_) (fun hh => ?_)
              · have hsome : (findA (T.sc[i].man, T.sc[i].sheet) ((T.sc.take i).map Sc.pr) 0).isNone = false := by
                  cases hf : findA (T.sc[i].man, T.sc[i].sheet) ((T.sc.take i).map Sc.pr) 0 with
                  | some v => rfl
                  | none =>
                    have := (findA_none _ _).1 hf T.sc[j].pr (List.mem_map.2 ⟨T.sc[j], by
                      have : T.sc[j] = (T.sc.take i)[j]'(by rw [List.length_take]; omega) := by rw [List.getElem_take]
                      rw [this]; exact List.getElem_mem _, rfl⟩)
                    exact absurd (hq1 hh) this
                exact no (bad (by rw [hF, hsome])) _ eu2
              · refine ⟨rfl, _, _, rfl, ⟨rfl, rfl, j + 1, by omega, hwj, fun q' hq' hqj => ?_⟩, ?_⟩
                · by_cases e : q' = j
                  · subst e; exact hq2 hh
                  · exact hne q' hq' (by omega)
                · show ((i : Int) - IntKind.i64.wrap ((j : Int) + 1)).toNat < ((i : Int) - j).toNat
                  rw [hwj]; omega
            refine ⟨_, _, _, p1, a', ha', ⟨by omega, by omega⟩, _, by rw [tj]; exact r0, _, o0.cell, ?_⟩
            refine BR_eq (fun hm => ?_) (fun hm => j7 _ (fun hh => by cases hh) (fun _ hc => hm (by injection hc)))
            refine ⟨_, _, _, p1, a', ha', ⟨by omega, by omega⟩, _, by rw [tj]; exact r1, _, o1.cell, ?_⟩
            refine j7 _ (fun hh => by rw [hm, beq_iff_eq.1 hh]) (fun hh hc => ?_)
            injection hc with _ hc
            have := beq_eq_false_iff_ne.1 hh
            exact this hc
          · have hji : j = i := by omega
            subst hji
            have hnone : (findA (T.sc[j].man, T.sc[j].sheet) ((T.sc.take j).map Sc.pr) 0).isNone = true := by
              have : findA (T.sc[j].man, T.sc[j].sheet) ((T.sc.take j).map Sc.pr) 0 = none := (findA_none _ _).2 fun v hv => by
                obtain ⟨w, hw', rfl⟩ := List.mem_map.1 hv
                obtain ⟨q, hq, rfl⟩ := List.mem_iff_getElem.1 hw'
                rw [List.length_take] at hq
                rw [List.getElem_take]
                exact hne q (by omega) (by omega)
              rw [this]; rfl
            exact ⟨rfl, hgo (by rw [hF, hnone])⟩
        have j3 : ∀ q : Bool, (q = false → okSc T ((T.sc.take i).map Sc.pr) T.sc[i] = (findA (T.sc[i].man, T.sc[i].sheet) ((T.sc.take i).map Sc.pr) 0).isNone) → (q = true → okSc T ((T.sc.take i).map Sc.pr) T.sc[i] = false) → J_ref10_Table_3 W (endK K E) q nx1 ⟨s.size, 0, none⟩ i u.size b41 u2 := by
          intro q hq1 hq2
          unfold J_ref10_Table_3
          exact BR_bool (fun hh => no (bad (hq2 hh)) _ eu2) (fun hh => inner (hq1 hh))
        generalize hS : okSc T ((T.sc.take i).map Sc.pr) T.sc[i] = S at *
        generalize hN : (findA (T.sc[i].man, T.sc[i].sheet) ((T.sc.take i).map Sc.pr) 0).isNone = N at *
        have j4 : ∀ q : Bool, (q = false → S = (N && decide (T.sc[i].hi ≤ 40))) → (q = true → S = false) → J_ref10_Table_4 W (endK K E) q nx1 ⟨s.size, 0, none⟩ i u.size b41 u2 := by
          intro q hq1 hq2
          unfold J_ref10_Table_4
          refine BR_bool (fun hh => j3 _ (fun hf => by cases hf) (fun _ => hq2 hh)) (fun hh => ?_)
          refine ⟨_, o3.cell, j3 _ (fun hf => ?_) (fun hf => ?_)⟩
          · have := of_decide_eq_false hf
            rw [hq1 hh, decide_eq_true (show T.sc[i].hi ≤ 40 by omega), Bool.and_true]
          · have := of_decide_eq_true hf
            rw [hq1 hh, decide_eq_false (show ¬ T.sc[i].hi ≤ 40 by omega), Bool.and_false]
        have j5 : ∀ q : Bool, (q = false → S = (N && (decide (T.sc[i].lo ≤ T.sc[i].hi) && decide (T.sc[i].hi ≤ 40)))) → (q = true → S = false) → J_ref10_Table_5 W (endK K E) q nx1 ⟨s.size, 0, none⟩ i u.size b41 u2 := by
          intro q hq1 hq2
          unfold J_ref10_Table_5
          refine BR_bool (fun hh => j4 _ (fun hf => by cases hf) (fun _ => hq2 hh)) (fun hh => ?_)
          refine ⟨_, o2.cell, _, o3.cell, j4 _ (fun hf => ?_) (fun hf => ?_)⟩
          · have := of_decide_eq_false hf
            rw [hq1 hh, decide_eq_true (show T.sc[i].lo ≤ T.sc[i].hi by omega), Bool.true_and]
          · have := of_decide_eq_true hf
            rw [hq1 hh, decide_eq_false (show ¬ T.sc[i].lo ≤ T.sc[i].hi by omega), Bool.false_and, Bool.and_false]
        have j6 : ∀ q : Bool, (q = false → S = (N && (decide (0 ≤ T.sc[i].lo) && (decide (T.sc[i].lo ≤ T.sc[i].hi) && decide (T.sc[i].hi ≤ 40))))) → (q = true → S = false) → J_ref10_Table_6 W (endK K E) q nx1 ⟨s.size, 0, none⟩ i u.size b41 u2 := by
          intro q hq1 hq2
          unfold J_ref10_Table_6
          refine BR_bool (fun hh => j5 _ (fun hf => by cases hf) (fun _ => hq2 hh)) (fun hh => ?_)
          refine ⟨_, o2.cell, j5 _ (fun hf => ?_) (fun hf => ?_)⟩
          · have := of_decide_eq_false hf
            rw [hq1 hh, decide_eq_true (show 0 ≤ T.sc[i].lo by omega), Bool.true_and]
          · have := of_decide_eq_true hf
            rw [hq1 hh, decide_eq_false (show ¬ 0 ≤ T.sc[i].lo by omega), Bool.false_and, Bool.and_false]
        refine ⟨_, o0.cell, _, ta2.men, ?_⟩
        refine f_in ?_
        try simp only [TUP_mk, AGG_mk, HD_mk, NL_mk, TYI_mk, TYB_mk, TYP_mk, TYL_mk, TYS_mk, TYM_mk, SO_mk, NX_mk, endK_mk, endK_mk', add_0]
        have w1 : IntKind.i64.wrap (T.men - 1) = T.men - 1 := wrap_i64 (by omega) (by omega)
        have w2 : IntKind.i64.wrap (T.sheets - 1) = T.sheets - 1 := wrap_i64 (by omega) (by omega)
        rw [w1]
        refine BR_not (fun hm => j6 _ (fun hf => by cases hf) (fun _ => by rw [hokc, hm, Bool.false_and])) (fun hm => ?_)
        refine ⟨_, o1.cell, _, ta2.sheets, ?_⟩
        refine f_in ?_
        try simp only [TUP_mk, AGG_mk, HD_mk, NL_mk, TYI_mk, TYB_mk, TYP_mk, TYL_mk, TYS_mk, TYM_mk, SO_mk, NX_mk, endK_mk, endK_mk', add_0]
        rw [w2]
        refine j6 _ (fun hf => ?_) (fun hf => ?_)
        · have hb : decide (0 ≤ T.sc[i].sheet ∧ T.sc[i].sheet ≤ T.sheets - 1) = true := by
            cases hd : decide (0 ≤ T.sc[i].sheet ∧ T.sc[i].sheet ≤ T.sheets - 1) with
            | true => rfl
            | false => rw [hd] at hf; cases hf
          rw [hokc, hm, hb, Bool.true_and, Bool.true_and]
        · have hb : decide (0 ≤ T.sc[i].sheet ∧ T.sc[i].sheet ≤ T.sheets - 1) = false := by
            cases hd : decide (0 ≤ T.sc[i].sheet ∧ T.sc[i].sheet ≤ T.sheets - 1) with
            | false => rfl
            | true => rw [hd] at hf; cases hf
          rw [hokc, hm, hb, Bool.false_and, Bool.and_false]
      · have hil : i = T.sc.length := by omega
        subst hil
        rw [List.drop_length] at hoki
        have := h u (e1.trans eu)
        rw [hok2, ← hoki] at this
        exact this
  have j0 : ∀ q : Bool, (q = false → ((1 ≤ T.men ∧ T.men ≤ 6) ∧ (1 ≤ T.sheets ∧ T.sheets ≤ 5)) ∧ okT T = (!T.off.any badO && okS T [] T.sc) ∧ T.sc.length ≤ 30) → (q = true → okT T = false) → J_ref10_Table_0 W (endK K E) q s.size s1 := by
    intro q g1 g2
    unfold J_ref10_Table_0
    exact BR_bool (fun hh => no (g2 hh) s1 (Ext.refl _)) (fun hh => loops (g1 hh).1 (g1 hh).2.1 (g1 hh).2.2)
  obtain ⟨x1, c1, g1, _⟩ := ta.off
  obtain ⟨y1, cy, q1, _⟩ := ta.sc
  have j1 : ∀ q : Bool, (q = false → ((1 ≤ T.men ∧ T.men ≤ 6) ∧ (1 ≤ T.sheets ∧ T.sheets ≤ 5)) ∧ okT T = (!T.off.any badO && (decide (T.sc.length ≤ 30) && okS T [] T.sc))) → (q = true → okT T = false) → J_ref10_Table_1 W (endK K E) q s.size s1 := by
    intro q a1 a2
    unfold J_ref10_Table_1
    refine BR_bool (fun hh => j0 _ (fun hf => by cases hf) (fun _ => a2 hh)) (fun hh => ?_)
    refine ⟨_, _, _, q1, j0 _ (fun hf => ?_) (fun hf => ?_)⟩
    · have := of_decide_eq_false hf
      have h30 : T.sc.length ≤ 30 := by omega
      exact ⟨(a1 hh).1, by rw [(a1 hh).2, decide_eq_true h30, Bool.true_and], h30⟩
    · have := of_decide_eq_true hf
      rw [(a1 hh).2, decide_eq_false (show ¬ T.sc.length ≤ 30 by omega), Bool.false_and, Bool.and_false]
  have j2 : ∀ q : Bool, (q = false → (1 ≤ T.men ∧ T.men ≤ 6) ∧ (1 ≤ T.sheets ∧ T.sheets ≤ 5)) → (q = true → okT T = false) → J_ref10_Table_2 W (endK K E) q s.size s1 := by
    intro q a1 a2
    unfold J_ref10_Table_2
    refine BR_bool (fun hh => j1 _ (fun hf => by cases hf) (fun _ => a2 hh)) (fun hh => ?_)
    obtain ⟨m1, m2⟩ := a1 hh
    refine ⟨_, _, _, g1, _, ta.men, j1 _ (fun hf => ?_) (fun hf => ?_)⟩
    · have hl : (T.off.length : Int) = T.men := by simpa using hf
      refine ⟨⟨m1, m2⟩, ?_⟩
      rw [hokT, decide_eq_true m1, decide_eq_true m2, decide_eq_true hl, Bool.true_and, Bool.true_and, Bool.true_and]
    · have hl : ¬ (T.off.length : Int) = T.men := by simpa using hf
      rw [hokT, decide_eq_false hl, Bool.false_and, Bool.and_false, Bool.and_false]
  refine ⟨_, ta.men, ?_⟩
  refine f_in ?_
  try simp only [TUP_mk, AGG_mk, HD_mk, NL_mk, TYI_mk, TYB_mk, TYP_mk, TYL_mk, TYS_mk, TYM_mk, SO_mk, NX_mk, endK_mk, endK_mk', add_0]
  refine BR_not (fun hm => j2 _ (fun hf => by cases hf) (fun _ => by rw [hokT, hm, Bool.false_and])) (fun hm => ?_)
  refine ⟨_, ta.sheets, ?_⟩
  refine f_in ?_
  try simp only [TUP_mk, AGG_mk, HD_mk, NL_mk, TYI_mk, TYB_mk, TYP_mk, TYL_mk, TYS_mk, TYM_mk, SO_mk, NX_mk, endK_mk, endK_mk', add_0]
  refine j2 _ (fun hf => ?_) (fun hf => ?_)
  · have hb : 1 ≤ T.sheets ∧ T.sheets ≤ 5 := by
      by_cases hd : 1 ≤ T.sheets ∧ T.sheets ≤ 5
      · exact hd
      · rw [decide_eq_false hd] at hf; cases hf
    exact ⟨of_decide_eq_true hm, hb⟩
  · have hb : ¬ (1 ≤ T.sheets ∧ T.sheets ≤ 5) := fun hd => by rw [decide_eq_true hd] at hf; cases hf
    rw [hokT, decide_eq_false hb, Bool.false_and, Bool.and_false]
end
end Go.Proofs.Ytkgcbfbbcaajpaa.G

/- Arguments by their types. -/
set_option linter.unusedVariables false
set_option maxRecDepth 20000
namespace Go.Proofs.Ytkgcbfbbcaajpaa.G
open Go.V
section
variable {s : Hp}
theorem rds_25 (n : Nat) (cs : List Value) : Rds Pg s (n + 1) 25 cs = (cs.length = 4 ∧ Rds Pg s n 3 ((cs.drop 0).take 1) ∧ Rds Pg s n 3 ((cs.drop 1).take 1) ∧ Rds Pg s n 22 ((cs.drop 2).take 1) ∧ Rds Pg s n 23 ((cs.drop 3).take 1) ∧ True) := by kernel_rfl
theorem rds_3 (n : Nat) (cs : List Value) : Rds Pg s (n + 1) 3 cs = (∃ m, cs = [.int .i64 m] ∧ (Lit.int .i64 m).wf = true) := by kernel_rfl
theorem rds_22 (n : Nat) (cs : List Value) : Rds Pg s (n + 1) 22 cs = (∃ a l c, cs = [.slice a l c] ∧ l ≤ c ∧ c ≤ maxLen ∧ (a = none → l = 0 ∧ c = 0) ∧ ∀ i, i < l → ∃ b es, a = some b ∧ es.length = 1 ∧ (∀ j v, es[j]? = some v → cellAt s ((b.add (i * 1)).add j) = some v) ∧ Rds Pg s n 3 es) := by kernel_rfl
theorem rds_23 (n : Nat) (cs : List Value) : Rds Pg s (n + 1) 23 cs = (∃ a l c, cs = [.slice a l c] ∧ l ≤ c ∧ c ≤ maxLen ∧ (a = none → l = 0 ∧ c = 0) ∧ ∀ i, i < l → ∃ b es, a = some b ∧ es.length = 4 ∧ (∀ j v, es[j]? = some v → cellAt s ((b.add (i * 4)).add j) = some v) ∧ Rds Pg s n 55 es) := by kernel_rfl
theorem rds_55 (n : Nat) (cs : List Value) : Rds Pg s (n + 1) 55 cs = (cs.length = 4 ∧ Rds Pg s n 3 ((cs.drop 0).take 1) ∧ Rds Pg s n 3 ((cs.drop 1).take 1) ∧ Rds Pg s n 29 ((cs.drop 2).take 2) ∧ True) := by kernel_rfl
theorem rds_29 (n : Nat) (cs : List Value) : Rds Pg s (n + 1) 29 cs = (cs.length = 2 ∧ Rds Pg s n 3 ((cs.drop 0).take 1) ∧ Rds Pg s n 3 ((cs.drop 1).take 1) ∧ True) := by kernel_rfl
theorem ag_25 : isAg Pg 25 = true := by kernel_rfl
theorem ag_3 : isAg Pg 3 = false := by kernel_rfl
theorem choose_of {α : Type} {P : Nat → α → Prop} : ∀ l : Nat, (∀ i, i < l → ∃ m, P i m) → ∃ ms : List α, ms.length = l ∧ ∀ i (h : i < ms.length), P i ms[i]
  | 0, _ => ⟨[], rfl, fun i h => by simp at h⟩
  | l + 1, h => by
    obtain ⟨ms, h1, h2⟩ := choose_of l (fun i hi => h i (by omega))
    obtain ⟨m, hm⟩ := h l (by omega)
    refine ⟨ms ++ [m], by simp [h1], fun i hi => ?_⟩
    by_cases hil : i < ms.length
    · rw [List.getElem_append_left hil]; exact h2 i hil
    · simp at hi
      have : i = ms.length := by omega
      subst this
      rw [List.getElem_append_right (Nat.le_refl _)]
      simp [h1]; exact hm
theorem sc_rds {n : Nat} {es : List Value} (h : Rds Pg s (n + 3) 55 es) : ∃ m : Sc, es = [.int .i64 m.man, .int .i64 m.sheet, .int .i64 m.lo, .int .i64 m.hi] := by
  rw [rds_55, rds_29, rds_3, rds_3] at h
  obtain ⟨h0, ⟨c, h1, _⟩, ⟨l, h2, _⟩, ⟨h3, h4, h5, _⟩, _⟩ := h
  rw [rds_3] at h4 h5
  obtain ⟨u, h4, _⟩ := h4
  obtain ⟨v, h5, _⟩ := h5
  match es, h0 with
  | [a, b, d, e], _ =>
    simp at h1 h2 h4 h5
    subst h1; subst h2; subst h4; subst h5
    exact ⟨⟨c, l, u, v⟩, rfl⟩
theorem table_rd {v : Value} (h : RdV Pg s 25 v) : ∃ x c y c' T, v = .agg #[.int .i64 (T : Tb).men, .int .i64 T.sheets, .slice x T.off.length c, .slice y T.sc.length c'] ∧ RowAt s x (ints T.off) ∧ ScAt s y T.sc := by
  obtain ⟨cs, rfl, h⟩ := h
  rw [ag_25, rds_25, rds_22, rds_23, rds_3, rds_3] at *
  obtain ⟨h0, ⟨n, h1, _⟩, ⟨m, h2, _⟩, ⟨a, l, c, h3, _, _, _, h4⟩, ⟨b, k, c', h5, _, _, _, h6⟩, _⟩ := h
  match cs, h0 with
  | [p, q, u, w], _ =>
    simp at h1 h2 h3 h5
    subst h1; subst h2; subst h3; subst h5
    have key1 : ∀ i, i < l → ∃ z : Int, ∃ d, a = some d ∧ cellAt s (d.add (i * 1)) = some (.int .i64 z) := by
      intro i hi
      obtain ⟨d, es, hd, hes, hc, hr⟩ := h4 i hi
      rw [rds_3] at hr
      obtain ⟨z, rfl, _⟩ := hr
      exact ⟨z, d, hd, hc 0 _ rfl⟩
    have key2 : ∀ i, i < k → ∃ z : Sc, ∃ d, b = some d ∧ cellAt s ((d.add (i * 4)).add 0) = some (.int .i64 z.man) ∧ cellAt s ((d.add (i * 4)).add 1) = some (.int .i64 z.sheet) ∧ cellAt s ((d.add (i * 4)).add 2) = some (.int .i64 z.lo) ∧ cellAt s ((d.add (i * 4)).add 3) = some (.int .i64 z.hi) := by
      intro i hi
      obtain ⟨d, es, hd, hes, hc, hr⟩ := h6 i hi
      obtain ⟨z, rfl⟩ := sc_rds (n := 3) hr
      exact ⟨z, d, hd, hc 0 _ rfl, hc 1 _ rfl, hc 2 _ rfl, hc 3 _ rfl⟩
    obtain ⟨os, hl, ho⟩ := choose_of l key1
    obtain ⟨ss, hk, hs⟩ := choose_of k key2
    subst hl
    subst hk
    refine ⟨a, c, b, c', ⟨n, m, os, ss⟩, rfl, fun i hi => ?_, fun i hi => hs i hi⟩
    have hi' : i < os.length := by rw [ints_len] at hi; exact hi
    rw [ints_get hi]
    exact ho i hi'
theorem int_rd {v : Value} (h : RdV Pg s 3 v) : ∃ n, v = .int .i64 n := by
  obtain ⟨cs, rfl, h⟩ := h
  rw [ag_3, rds_3] at *
  obtain ⟨m, rfl, hw⟩ := h
  exact ⟨m, rfl⟩
end
end Go.Proofs.Ytkgcbfbbcaajpaa.G

/- The document's functions of layer 10: what is known of a score; what somebody has. -/
set_option linter.unusedSimpArgs false
set_option linter.unusedVariables false
set_option maxRecDepth 20000
namespace Go.Proofs.Ytkgcbfbbcaajpaa.G
open Go.V
theorem findA_find {k : Int × Int} : ∀ (l : List Pr) (i : Nat), (findA k l i).map (·.2) = (l.find? fun x => decide (x.1 = k)).map (·.2)
  | [], _ => rfl
  | x :: r, i => by
    unfold findA
    rw [List.find?_cons]
    by_cases h : k = x.1
    · rw [if_pos h, decide_eq_true h.symm]; rfl
    · rw [if_neg h, decide_eq_false (fun e => h e.symm)]
      exact findA_find r (i + 1)
theorem pts_find {l : List Pr} {k : Int × Int} : pts l k = ((l.find? fun x => decide (x.1 = k)).map (·.2)).getD (0, 40) := by
  rw [← findA_find l 0]
  unfold pts
  cases findA k l 0 <;> rfl
section
variable {W : World} {K : VK} {E : List PanicEntry → Hp → Prop} {s : Hp} {T : Tb}
theorem f_Points {x y : Option Addr} {c c' : Nat} {m k : Int} (hx : RowAt s x (ints T.off)) (hy : ScAt s y T.sc) (hl : T.sc.length ≤ 100000) (h : ∀ s', Ext s s' → K (spanV (pts (prs T) (m, k))) s') :
    CALL Pg W F_ref10_Points [.agg #[.int .i64 T.men, .int .i64 T.sheets, .slice x T.off.length c, .slice y T.sc.length c'], .int .i64 m, .int .i64 k] K E s := by
  refine does_ref10_Points W T.men T.sheets x T.off.length c y T.sc.length c' m k _ s ?_
  unfold T_ref10_Points
  refine NEW_rule fun s1 e1 z1 n1 _ => ?_
  refine NEWZ_rule zc_29 fun s2 e2 z2 n2 => ?_
  have ta := (tbA_new e1 hx hy n1).ext e2
  have e02 := e1.trans e2
  have hs1 := e1.1
  have b0 := n2 0 _ rfl
  have b1 := n2 1 _ rfl
  refine L_ref10_Points_0_rule W _ m k ⟨s.size, 0, none⟩ ⟨s1.size, 0, none⟩ (fun n t => Ext s2 t ∧ ∃ i : Nat, i ≤ T.sc.length ∧ n = i ∧ ∀ j, j < i → ∀ w, (prs T)[j]? = some w → decide (w.1 = (m, k)) = false) (fun n _ => (T.sc.length - n).toNat) 0 s2 ⟨Ext.refl _, 0, by omega, rfl, fun j hj => by omega⟩ ?_
  rintro n13 t ⟨et, i, hi, rfl, hno⟩
  obtain ⟨y1, cy, q1, q2⟩ := (ta.ext et).sc
  have hpl : (prs T).length = T.sc.length := by unfold prs; rw [List.length_map]
  unfold B_ref10_Points_0
  refine ⟨_, _, _, q1, ?_⟩
  refine BR_dec (fun h1 => ?_) (fun h1 => ?_)
  · have hil : i < T.sc.length := by omega
    obtain ⟨a, ha, g0, g1, g2, g3⟩ := q2 i hil
    have ti : ((i : Int)).toNat = i := by omega
    refine ⟨_, _, _, q1, a, ha, ⟨by omega, by omega⟩, ?_⟩
    rw [ti]
    refine ⟨_, g0, _, g1, _, g2, _, g3, ?_⟩
    refine NEWZ_rule zc_55 fun u1 f1 y1 m1 => ?_
    refine wr4 rfl rfl rfl rfl (new4 m1) fun u2 k2 z2 o0 o1 o2 o3 => ?_
    have e2' : Ext t u2 := ext_own f1 (Nat.le_refl _) k2
    have eu := et.trans e2'
    have hpi : (prs T)[i]? = some T.sc[i].pr := by unfold prs; rw [List.getElem?_map, List.getElem?_eq_getElem hil]; rfl
    have hw : IntKind.i64.wrap ((i : Int) + 1) = ((i + 1 : Nat) : Int) := by rw [wrap_i64 (by omega) (by omega)]; rfl
    have j0 : ∀ q : Bool, q = decide (T.sc[i].pr.1 = (m, k)) → J_ref10_Points_0 W (endK K E) q t.size ⟨s1.size, 0, none⟩ m k ⟨s.size, 0, none⟩ (fun vs => N_ref10_Points_0 (fun n t => Ext s2 t ∧ ∃ i : Nat, i ≤ T.sc.length ∧ n = i ∧ ∀ j, j < i → ∀ w, (prs T)[j]? = some w → decide (w.1 = (m, k)) = false) (fun n _ => (T.sc.length - n).toNat) i t vs) i u2 := by
      intro q hq
      unfold J_ref10_Points_0
      refine BR_bool (fun hh => ?_) (fun hh => ?_)
      · refine ⟨_, o2.cell, _, o3.cell, fin_span (eu.own b0) (eu.own b1) fun s' k' => ?_⟩
        have hp : pts (prs T) (m, k) = (T.sc[i].lo, T.sc[i].hi) := by
          rw [pts_find, find_first (prs T) i T.sc[i].pr hpi (by rw [← hq]; exact hh) hno]; rfl
        rw [hp] at h
        exact h s' (kp_new (e02.trans eu) (by omega) k')
      · refine ⟨rfl, _, rfl, ⟨eu, i + 1, by omega, hw, fun j hj w hw' => ?_⟩, ?_⟩
        · by_cases e : j = i
          · subst e
            rw [hpi] at hw'
            injection hw' with hw'
            rw [← hw', ← hq]; exact hh
          · exact hno j (by omega) w hw'
        · show ((T.sc.length : Int) - IntKind.i64.wrap ((i : Int) + 1)).toNat < ((T.sc.length : Int) - i).toNat
          rw [hw]; omega
    refine ⟨_, o0.cell, ?_⟩
    refine BR_eq (fun hm => ?_) (fun hm => j0 _ (decide_eq_false (fun hc => hm (by injection hc))).symm)
    refine ⟨_, o1.cell, j0 _ ?_⟩
    have : (T.sc[i].sheet == k) = decide (T.sc[i].sheet = k) := by rw [Bool.beq_eq_decide_eq]
    rw [this]
    congr 1
    apply propext
    constructor
    · intro hs; show (T.sc[i].man, T.sc[i].sheet) = (m, k); rw [hm, hs]
    · intro hc; injection hc
  · have hp : pts (prs T) (m, k) = (0, 40) := by
      have : (prs T).find? (fun x => decide (x.1 = (m, k))) = none := List.find?_eq_none.2 fun w hw => by
        obtain ⟨j, hj, rfl⟩ := List.mem_iff_getElem.1 hw
        rw [hno j (by omega) _ (List.getElem?_eq_getElem hj)]; simp
      rw [pts_find, this]; rfl
    rw [hp] at h
    exact fin_span (et.own b0) (et.own b1) fun s' k' => h s' (kp_new (e02.trans et) (by omega) k')
theorem f_ahead {x y : Option Addr} {c c' l l' : Nat} {a b : List Int} (ha : RowAt s x (ints a)) (hb : RowAt s y (ints b)) (hl : l = a.length) (hl' : l' = b.length) (hab : a.length = b.length) (h8 : a.length ≤ 1000) (h : K (.bool (aheadL a b)) s) : CALL Pg W F_ref10_ahead [.slice x l c, .slice y l' c'] K E s := by
  subst hl
  subst hl'
  refine does_ref10_ahead W x _ c y _ c' _ s ?_
  unfold T_ref10_ahead
  refine L_ref10_ahead_0_rule W _ x a.length c y b.length c' (fun _ n t => t = s ∧ ∃ k : Nat, k ≤ a.length ∧ n = k ∧ ∀ j, j < k → a.getD j 0 = b.getD j 0) (fun _ n _ => (a.length - n).toNat) false 0 s ⟨rfl, 0, by omega, rfl, fun j hj => by omega⟩ ?_
  rintro b7 n8 t ⟨rfl, k, hk, rfl, heq⟩
  unfold B_ref10_ahead_0
  refine BR_dec (fun h1 => ?_) (fun h1 => ?_)
  · have hka : k < a.length := by omega
    obtain ⟨p, hp, g⟩ := row_int ha hka
    obtain ⟨q, hq, g'⟩ := row_int hb (show k < b.length by omega)
    have tk : ((k : Int)).toNat = k := by omega
    refine ⟨p, hp, ⟨by omega, by omega⟩, _, by rw [tk]; exact g, q, hq, ⟨by omega, by omega⟩, _, by rw [tk]; exact g', ?_⟩
    refine BR_ne (fun hne => ?_) (fun he => ?_)
    · refine ⟨p, hp, ⟨by omega, by omega⟩, _, by rw [tk]; exact g, q, hq, ⟨by omega, by omega⟩, _, by rw [tk]; exact g', ?_⟩
      rw [ahead_drop a b k heq hka (by omega) hne] at h
      exact h
    · have hw : IntKind.i64.wrap ((k : Int) + 1) = ((k + 1 : Nat) : Int) := by rw [wrap_i64 (by omega) (by omega)]; rfl
      refine ⟨rfl, _, _, rfl, ⟨rfl, k + 1, by omega, hw, fun j hj => ?_⟩, ?_⟩
      · by_cases e : j = k
        · subst e; exact he
        · exact heq j (by omega)
      · show ((a.length : Int) - IntKind.i64.wrap ((k : Int) + 1)).toNat < ((a.length : Int) - k).toNat
        rw [hw]; omega
  · have hz : aheadL a b = false := by
      have : a = b := by
        apply List.ext_getElem hab
        intro j h2 h3
        have := heq j (by omega)
        simpa [List.getD, h2, h3] using this
      rw [this]; exact ahead_same b
    rw [hz] at h
    exact h
theorem f_row {x y z : Option Addr} {c c' cz l : Nat} {d : List Int} {i : Nat} (hx : RowAt s x (ints T.off)) (hy : ScAt s y T.sc) (hz : RowAt s z (ints d)) (hl : l = d.length) (hi : i < T.off.length) (ho : 0 ≤ T.off.getD i 0 ∧ T.off.getD i 0 ≤ 100) (hd : ∀ n ∈ d, 0 ≤ n ∧ n ≤ 40) (h8 : d.length ≤ 1000)
    (h : ∀ s' w cw, Ext s s' → RowAt s' w (ints ((d.sum - T.off.getD i 0) :: d)) → K (.slice w (1 + d.length) cw) s') :
    CALL Pg W F_ref10_row [.agg #[.int .i64 T.men, .int .i64 T.sheets, .slice x T.off.length c, .slice y T.sc.length c'], .int .i64 i, .slice z l cz] K E s := by
  subst hl
  refine does_ref10_row W T.men T.sheets x T.off.length c y T.sc.length c' i z _ cz _ s ?_
  unfold T_ref10_row
  refine NEW_rule fun s1 e1 z1 n1 _ => ?_
  obtain ⟨a, ha, g⟩ := row_int (hx.ext e1) hi
  have ti : ((i : Int)).toNat = i := by omega
  refine ⟨_, _, _, (n1 2 _ rfl).cell, a, ha, ⟨by omega, by omega⟩, _, by rw [ti]; exact g, ?_⟩
  have hw0 : IntKind.wrap .i64 (0 - T.off.getD i 0) = - T.off.getD i 0 := by rw [wrap_i64 (by omega) (by omega)]; omega
  dsimp only
  rw [hw0]
  have hsum : ∀ k, k ≤ d.length → 0 ≤ (d.take k).sum ∧ (d.take k).sum ≤ 40 * k := by
    intro k hk
    have := sum_lim (l := d.take k) (fun n hn => hd n (List.mem_of_mem_take hn))
    rw [List.length_take, Nat.min_eq_left hk] at this
    exact this
  refine L_ref10_row_0_rule W _ z d.length cz (fun v n t => t = s1 ∧ ∃ k : Nat, k ≤ d.length ∧ n = k ∧ v = (d.take k).sum - T.off.getD i 0) (fun _ n _ => (d.length - n).toNat) _ 0 s1 ⟨rfl, 0, by omega, rfl, by simp⟩ ?_
  rintro n19 n20 t ⟨rfl, k, hk, rfl, rfl⟩
  unfold B_ref10_row_0
  refine BR_dec (fun h1 => ?_) (fun h1 => ?_)
  · have hkl : k < d.length := by omega
    obtain ⟨b, hb, g'⟩ := row_int (hz.ext e1) hkl
    have tk : ((k : Int)).toNat = k := by omega
    refine ⟨b, hb, ⟨by omega, by omega⟩, _, by rw [tk]; exact g', ?_⟩
    have hw : IntKind.i64.wrap ((k : Int) + 1) = ((k + 1 : Nat) : Int) := by rw [wrap_i64 (by omega) (by omega)]; rfl
    have hs := hsum (k + 1) (by omega)
    have e : (d.take (k + 1)).sum = (d.take k).sum + d.getD k 0 := by
      have hg : d.getD k 0 = d[k] := by simp [List.getD, hkl]
      rw [hg, List.take_add_one, List.getElem?_eq_getElem hkl, List.sum_append]
      show (d.take k).sum + ([d[k]] : List Int).sum = _
      rw [List.sum_cons, List.sum_nil, Int.add_zero]
    rw [e] at hs
    refine ⟨rfl, _, _, rfl, ⟨rfl, k + 1, by omega, hw, ?_⟩, ?_⟩
    · rw [e, wrap_i64 (by omega) (by omega)]; omega
    · show ((d.length : Int) - IntKind.i64.wrap ((k : Int) + 1)).toNat < ((d.length : Int) - k).toNat
      rw [hw]; omega
  · have hkl : k = d.length := by omega
    subst hkl
    rw [List.take_length]
    refine NEW_rule fun s2 e2 z2 n2 _ => ?_
    have hfr : Fr t.size s2 (some ⟨t.size, 0, none⟩) 1 1 1 (ints [d.sum - T.off.getD i 0]) := ⟨⟨by simp [ints], fun j hj => ⟨_, rfl, by
      have hj0 : j = 0 := by omega
      subst hj0
      exact ⟨_, n2 0 _ rfl, fun _ => rfl⟩⟩⟩, by simp [ints], (fun b hb => by cases hb; exact Nat.le_refl _), by omega⟩
    refine APP_fr (ws := ints d) hfr e2.1 ((hz.ext e1).ext e2) (by rw [ints_len]; omega) zc_3 rfl (by omega) (ints_one _) (by omega) fun s3 x3 c3 k3 g3 f3 => ?_
    have e13 : Ext t s3 := ⟨Nat.le_trans e2.1 k3.1, fun q hq => by
      rw [k3.2 q (Nat.lt_of_lt_of_le hq e2.1) (fun ⟨b, hb, hbq⟩ => by cases hb; have : t.size = q := hbq; omega)]
      exact e2.2 q hq⟩
    rw [← ints_app] at f3
    exact h s3 x3 c3 (e1.trans e13) f3.row
theorem f_least {x y : Option Addr} {c c' : Nat} {i : Nat} (hok : okT T = true) (hi : i < T.n) (hx : RowAt s x (ints T.off)) (hy : ScAt s y T.sc)
    (h : ∀ s' w cw, Ext s s' → RowAt s' w (ints (rowL (pts (prs T)) false T.m (offT T i) i)) → K (.slice w (1 + T.m) cw) s') :
    CALL Pg W F_ref10_least [.agg #[.int .i64 T.men, .int .i64 T.sheets, .slice x T.off.length c, .slice y T.sc.length c'], .int .i64 i] K E s := by
  have vd := okT_vd hok
  have hm5 := vd.m5
  obtain ⟨_, hsh, _, _, h30, _⟩ := okT_iff.1 hok
  have hm : ((T.m : Nat) : Int) = T.sheets := by unfold Tb.m; omega
  refine does_ref10_least W T.men T.sheets x T.off.length c y T.sc.length c' i _ s ?_
  unfold T_ref10_least
  refine NEW_rule fun s1 e1 z1 n1 _ => ?_
  have ta := tbA_new e1 hx hy n1
  refine L_ref10_least_0_rule W _ i ⟨s.size, 0, none⟩ (fun xx ll cc n t => Ext s1 t ∧ ∃ k : Nat, k ≤ T.m ∧ n = k ∧ Li s1.size t xx ll cc (rowS (pts (prs T)) false k i)) (fun _ _ _ n _ => (T.m - n).toNat) none 0 0 0 s1 ⟨Ext.refl _, 0, by omega, rfl, ⟨Fr.nil _ _ _, fun b hb => by cases hb⟩⟩ ?_
  rintro xx ll c2 n14 t ⟨et, k, hk, rfl, li⟩
  have tat := ta.ext et
  obtain ⟨x1, c1, g1, g2⟩ := tat.off
  obtain ⟨y1, cy, q1, q2⟩ := tat.sc
  have e0t := e1.trans et
  unfold B_ref10_least_0
  refine ⟨_, tat.sheets, ?_⟩
  have hsucc : rowS (pts (prs T)) false (k + 1) i = rowS (pts (prs T)) false k i ++ [sel false (pts (prs T) ((i : Int), (k : Int)))] := by unfold rowS; rw [List.range_succ, List.map_append]; rfl
  refine BR_dec (fun h1 => ?_) (fun h1 => ?_)
  · have hkm : k < T.m := by omega
    refine ⟨_, tat.men, _, tat.sheets, _, _, _, g1, _, _, _, q1, ?_⟩
    refine f_Points g2 q2 (by omega) fun t2 f2 => ?_
    unfold spanV
    try simp only [TUP_mk, AGG_mk, HD_mk, NL_mk, TYI_mk, TYB_mk, TYP_mk, TYL_mk, TYS_mk, TYM_mk, SO_mk, NX_mk, endK_mk, endK_mk', add_0]
    refine NEW_rule fun t3 f3 y3 m3 _ => ?_
    have f23 := f2.trans f3
    have hlen := rowS_len (pts (prs T)) false k i
    refine li_add (li.ext f23) (Nat.le_trans et.1 f23.1) (m3 0 _ rfl).cell (by omega) fun t4 x4 c4 k4 li4 g4 => ?_
    have hw : IntKind.i64.wrap ((k : Int) + 1) = ((k + 1 : Nat) : Int) := by rw [wrap_i64 (by omega) (by omega)]; rfl
    refine ⟨_, _, _, _, rfl, ⟨?_, k + 1, by omega, hw, by rw [hsucc]; exact li4⟩, ?_⟩
    · have e13 := et.trans f23
      exact ⟨Nat.le_trans e13.1 k4.1, fun q hq => by
        rw [k4.2 q (Nat.lt_of_lt_of_le hq e13.1) (fun ⟨a, ha, hab⟩ => by have := li.fr.fr a ha; omega)]
        exact e13.2 q hq⟩
    · show ((T.m : Int) - IntKind.i64.wrap ((k : Int) + 1)).toNat < ((T.m : Int) - k).toNat
      rw [hw]; omega
  · have hkm : k = T.m := by omega
    subst hkm
    refine ⟨_, tat.men, _, tat.sheets, _, _, _, g1, _, _, _, q1, ?_⟩
    have hlen := rowS_len (pts (prs T)) false T.m i
    have hil : i < T.off.length := by rw [vd.len]; exact hi
    refine f_row (d := rowS (pts (prs T)) false T.m i) g2 q2 li.fr.row li.len hil (vd.off _ (by rw [show T.off.getD i 0 = T.off[i] by simp [List.getD, hil]]; exact List.getElem_mem _)) (fun n hn => ?_) (by omega) fun t2 w cw f2 hw => ?_
    · unfold rowS at hn
      obtain ⟨q, _, rfl⟩ := List.mem_map.1 hn
      have := pts_in vd ((i : Int), (q : Int))
      show 0 ≤ (pts (prs T) ((i : Int), (q : Int))).1 ∧ (pts (prs T) ((i : Int), (q : Int))).1 ≤ 40
      omega
    · try simp only [TUP_mk, AGG_mk, HD_mk, NL_mk, TYI_mk, TYB_mk, TYP_mk, TYL_mk, TYS_mk, TYM_mk, SO_mk, NX_mk, endK_mk, endK_mk', add_0]
      rw [hlen]
      exact h t2 w cw (e0t.trans f2) hw
theorem f_most {x y : Option Addr} {c c' : Nat} {i : Nat} (hok : okT T = true) (hi : i < T.n) (hx : RowAt s x (ints T.off)) (hy : ScAt s y T.sc)
    (h : ∀ s' w cw, Ext s s' → RowAt s' w (ints (rowL (pts (prs T)) true T.m (offT T i) i)) → K (.slice w (1 + T.m) cw) s') :
    CALL Pg W F_ref10_most [.agg #[.int .i64 T.men, .int .i64 T.sheets, .slice x T.off.length c, .slice y T.sc.length c'], .int .i64 i] K E s := by
  have vd := okT_vd hok
  have hm5 := vd.m5
  obtain ⟨_, hsh, _, _, h30, _⟩ := okT_iff.1 hok
  have hm : ((T.m : Nat) : Int) = T.sheets := by unfold Tb.m; omega
  refine does_ref10_most W T.men T.sheets x T.off.length c y T.sc.length c' i _ s ?_
  unfold T_ref10_most
  refine NEW_rule fun s1 e1 z1 n1 _ => ?_
  have ta := tbA_new e1 hx hy n1
  refine L_ref10_most_0_rule W _ i ⟨s.size, 0, none⟩ (fun xx ll cc n t => Ext s1 t ∧ ∃ k : Nat, k ≤ T.m ∧ n = k ∧ Li s1.size t xx ll cc (rowS (pts (prs T)) true k i)) (fun _ _ _ n _ => (T.m - n).toNat) none 0 0 0 s1 ⟨Ext.refl _, 0, by omega, rfl, ⟨Fr.nil _ _ _, fun b hb => by cases hb⟩⟩ ?_
  rintro xx ll c2 n14 t ⟨et, k, hk, rfl, li⟩
  have tat := ta.ext et
  obtain ⟨x1, c1, g1, g2⟩ := tat.off
  obtain ⟨y1, cy, q1, q2⟩ := tat.sc
  have e0t := e1.trans et
  unfold B_ref10_most_0
  refine ⟨_, tat.sheets, ?_⟩
  have hsucc : rowS (pts (prs T)) true (k + 1) i = rowS (pts (prs T)) true k i ++ [sel true (pts (prs T) ((i : Int), (k : Int)))] := by unfold rowS; rw [List.range_succ, List.map_append]; rfl
  refine BR_dec (fun h1 => ?_) (fun h1 => ?_)
  · have hkm : k < T.m := by omega
    refine ⟨_, tat.men, _, tat.sheets, _, _, _, g1, _, _, _, q1, ?_⟩
    refine f_Points g2 q2 (by omega) fun t2 f2 => ?_
    unfold spanV
    try simp only [TUP_mk, AGG_mk, HD_mk, NL_mk, TYI_mk, TYB_mk, TYP_mk, TYL_mk, TYS_mk, TYM_mk, SO_mk, NX_mk, endK_mk, endK_mk', add_0]
    refine NEW_rule fun t3 f3 y3 m3 _ => ?_
    have f23 := f2.trans f3
    have hlen := rowS_len (pts (prs T)) true k i
    refine li_add (li.ext f23) (Nat.le_trans et.1 f23.1) (m3 0 _ rfl).cell (by omega) fun t4 x4 c4 k4 li4 g4 => ?_
    have hw : IntKind.i64.wrap ((k : Int) + 1) = ((k + 1 : Nat) : Int) := by rw [wrap_i64 (by omega) (by omega)]; rfl
    refine ⟨_, _, _, _, rfl, ⟨?_, k + 1, by omega, hw, by rw [hsucc]; exact li4⟩, ?_⟩
    · have e13 := et.trans f23
      exact ⟨Nat.le_trans e13.1 k4.1, fun q hq => by
        rw [k4.2 q (Nat.lt_of_lt_of_le hq e13.1) (fun ⟨a, ha, hab⟩ => by have := li.fr.fr a ha; omega)]
        exact e13.2 q hq⟩
    · show ((T.m : Int) - IntKind.i64.wrap ((k : Int) + 1)).toNat < ((T.m : Int) - k).toNat
      rw [hw]; omega
  · have hkm : k = T.m := by omega
    subst hkm
    refine ⟨_, tat.men, _, tat.sheets, _, _, _, g1, _, _, _, q1, ?_⟩
    have hlen := rowS_len (pts (prs T)) true T.m i
    have hil : i < T.off.length := by rw [vd.len]; exact hi
    refine f_row (d := rowS (pts (prs T)) true T.m i) g2 q2 li.fr.row li.len hil (vd.off _ (by rw [show T.off.getD i 0 = T.off[i] by simp [List.getD, hil]]; exact List.getElem_mem _)) (fun n hn => ?_) (by omega) fun t2 w cw f2 hw => ?_
    · unfold rowS at hn
      obtain ⟨q, _, rfl⟩ := List.mem_map.1 hn
      have := pts_in vd ((i : Int), (q : Int))
      show 0 ≤ (pts (prs T) ((i : Int), (q : Int))).2 ∧ (pts (prs T) ((i : Int), (q : Int))).2 ≤ 40
      omega
    · try simp only [TUP_mk, AGG_mk, HD_mk, NL_mk, TYI_mk, TYB_mk, TYP_mk, TYL_mk, TYS_mk, TYM_mk, SO_mk, NX_mk, endK_mk, endK_mk', add_0]
      rw [hlen]
      exact h t2 w cw (e0t.trans f2) hw
end
end Go.Proofs.Ytkgcbfbbcaajpaa.G

/- The document's functions of layer 10: Sum, Before. -/
set_option linter.unusedSimpArgs false
set_option linter.unusedVariables false
set_option maxRecDepth 20000
namespace Go.Proofs.Ytkgcbfbbcaajpaa.G
open Go.V
section
variable {W : World} {K : VK} {E : List PanicEntry → Hp → Prop} {s : Hp} {T : Tb}
theorem f_check {x y : Option Addr} {c c' : Nat} {b : Bool} (hx : RowAt s x (ints T.off)) (hy : ScAt s y T.sc) (hlo : T.off.length ≤ 100000)
    (h : ∀ s', Ext s s' → K (.int .i64 (if okT T then (if b then 0 else 2) else 1)) s') :
    CALL Pg W F_ref10_check [.agg #[.int .i64 T.men, .int .i64 T.sheets, .slice x T.off.length c, .slice y T.sc.length c'], .bool b] K E s := by
  refine does_ref10_check W T.men T.sheets x T.off.length c y T.sc.length c' b _ s ?_
  unfold T_ref10_check
  refine NEW_rule fun s1 e1 z1 n1 _ => ?_
  refine ⟨_, (n1 0 _ rfl).cell, _, (n1 1 _ rfl).cell, _, _, _, (n1 2 _ rfl).cell, _, _, _, (n1 3 _ rfl).cell, ?_⟩
  refine f_Table (hx.ext e1) (hy.ext e1) hlo fun s2 e2 => ?_
  try simp only [TUP_mk, AGG_mk, HD_mk, NL_mk, TYI_mk, TYB_mk, TYP_mk, TYL_mk, TYS_mk, TYM_mk, SO_mk, NX_mk, endK_mk, endK_mk', add_0]
  have h' := h s2 (e1.trans e2)
  refine BR_not (fun hv => ?_) (fun hv => ?_)
  · rw [hv] at h'; exact h'
  · rw [hv] at h'
    refine BR_not (fun hb => ?_) (fun hb => ?_)
    · rw [hb] at h'; exact h'
    · rw [hb] at h'; exact h'
theorem f_Man {x y : Option Addr} {c c' : Nat} {i : Int} (h : ∀ s' b, Ext s s' → (okT T = true → b = decide (isM T i)) → K (.bool b) s') :
    CALL Pg W F_ref10_Man [.agg #[.int .i64 T.men, .int .i64 T.sheets, .slice x T.off.length c, .slice y T.sc.length c'], .int .i64 i] K E s := by
  refine does_ref10_Man W T.men T.sheets x T.off.length c y T.sc.length c' i _ s ?_
  unfold T_ref10_Man
  refine NEW_rule fun s1 e1 z1 n1 _ => ?_
  refine ⟨_, (n1 0 _ rfl).cell, ?_⟩
  refine f_in ?_
  try simp only [TUP_mk, AGG_mk, HD_mk, NL_mk, TYI_mk, TYB_mk, TYP_mk, TYL_mk, TYS_mk, TYM_mk, SO_mk, NX_mk, endK_mk, endK_mk', add_0]
  refine h s1 _ e1 fun hok => ?_
  obtain ⟨hm, _⟩ := okT_iff.1 hok
  rw [wrap_i64 (by omega) (by omega)]
  rfl
theorem new2' {s : Hp} {b : Nat} {v0 v1 : Value} (h0 : Own s ⟨b, 0, none⟩ v0) (h1 : Own s ⟨b, 1, none⟩ v1) : ∀ j, j < 2 → ∃ y, Own s ((⟨b, 0, none⟩ : Addr).add j) y := by
  intro j hj
  match j, hj with
  | 0, _ => exact ⟨_, h0⟩
  | 1, _ => exact ⟨_, h1⟩
theorem f_surely {x y : Option Addr} {c c' : Nat} {a b : Nat} (hok : okT T = true) (ha : a < T.n) (hb : b < T.n) (hx : RowAt s x (ints T.off)) (hy : ScAt s y T.sc)
    (h : ∀ s', Ext s s' → K (.bool (befP (pts (prs T)) false T.m T.off a b)) s') :
    CALL Pg W F_ref10_surely [.agg #[.int .i64 T.men, .int .i64 T.sheets, .slice x T.off.length c, .slice y T.sc.length c'], .int .i64 a, .int .i64 b] K E s := by
  have vd := okT_vd hok
  have hm5 := vd.m5
  refine does_ref10_surely W T.men T.sheets x T.off.length c y T.sc.length c' a b _ s ?_
  unfold T_ref10_surely
  refine NEW_rule fun s1 e1 z1 n1 _ => ?_
  have c0 := (n1 0 _ rfl).cell
  have c1 := (n1 1 _ rfl).cell
  have c2 := (n1 2 _ rfl).cell
  have c3 := (n1 3 _ rfl).cell
  refine BR_ne (fun hne => ?_) (fun he => ?_)
  · have hab : a ≠ b := fun e => hne (by rw [e])
    refine ⟨_, c0, _, c1, _, _, _, c2, _, _, _, c3, _, c0, _, c1, _, _, _, c2, _, _, _, c3, ?_⟩
    refine f_least hok ha (hx.ext e1) (hy.ext e1) fun s2 w cw e2 r1 => ?_
    try simp only [TUP_mk, AGG_mk, HD_mk, NL_mk, TYI_mk, TYB_mk, TYP_mk, TYL_mk, TYS_mk, TYM_mk, SO_mk, NX_mk, endK_mk, endK_mk', add_0]
    have e02 := e1.trans e2
    refine ⟨⟨_, e2.cell c0, _, e2.cell c1, _, _, _, e2.cell c2, _, _, _, e2.cell c3, rfl⟩, ?_⟩
    refine f_most hok hb (hx.ext e02) (hy.ext e02) fun s3 w' cw' e3 r2 => ?_
    try simp only [TUP_mk, AGG_mk, HD_mk, NL_mk, TYI_mk, TYB_mk, TYP_mk, TYL_mk, TYS_mk, TYM_mk, SO_mk, NX_mk, endK_mk, endK_mk', add_0]
    refine f_ahead (r1.ext e3) r2 (by rw [rowL_len]; omega) (by rw [rowL_len]; omega) (by rw [rowL_len, rowL_len]) (by rw [rowL_len]; omega) ?_
    try simp only [TUP_mk, AGG_mk, HD_mk, NL_mk, TYI_mk, TYB_mk, TYP_mk, TYL_mk, TYS_mk, TYM_mk, SO_mk, NX_mk, endK_mk, endK_mk', add_0]
    have := h s3 (e02.trans e3)
    unfold befP at this
    rw [decide_eq_true hab, Bool.true_and] at this
    exact this
  · have hab : a = b := by omega
    have := h s1 e1
    unfold befP at this
    rw [decide_eq_false (fun hn => hn hab), Bool.false_and] at this
    exact this
theorem f_can {x y : Option Addr} {c c' : Nat} {a b : Nat} (hok : okT T = true) (ha : a < T.n) (hb : b < T.n) (hx : RowAt s x (ints T.off)) (hy : ScAt s y T.sc)
    (h : ∀ s', Ext s s' → K (.bool (befP (pts (prs T)) true T.m T.off a b)) s') :
    CALL Pg W F_ref10_can [.agg #[.int .i64 T.men, .int .i64 T.sheets, .slice x T.off.length c, .slice y T.sc.length c'], .int .i64 a, .int .i64 b] K E s := by
  have vd := okT_vd hok
  have hm5 := vd.m5
  refine does_ref10_can W T.men T.sheets x T.off.length c y T.sc.length c' a b _ s ?_
  unfold T_ref10_can
  refine NEW_rule fun s1 e1 z1 n1 _ => ?_
  have c0 := (n1 0 _ rfl).cell
  have c1 := (n1 1 _ rfl).cell
  have c2 := (n1 2 _ rfl).cell
  have c3 := (n1 3 _ rfl).cell
  refine BR_ne (fun hne => ?_) (fun he => ?_)
  · have hab : a ≠ b := fun e => hne (by rw [e])
    refine ⟨_, c0, _, c1, _, _, _, c2, _, _, _, c3, _, c0, _, c1, _, _, _, c2, _, _, _, c3, ?_⟩
    refine f_most hok ha (hx.ext e1) (hy.ext e1) fun s2 w cw e2 r1 => ?_
    try simp only [TUP_mk, AGG_mk, HD_mk, NL_mk, TYI_mk, TYB_mk, TYP_mk, TYL_mk, TYS_mk, TYM_mk, SO_mk, NX_mk, endK_mk, endK_mk', add_0]
    have e02 := e1.trans e2
    refine ⟨⟨_, e2.cell c0, _, e2.cell c1, _, _, _, e2.cell c2, _, _, _, e2.cell c3, rfl⟩, ?_⟩
    refine f_least hok hb (hx.ext e02) (hy.ext e02) fun s3 w' cw' e3 r2 => ?_
    try simp only [TUP_mk, AGG_mk, HD_mk, NL_mk, TYI_mk, TYB_mk, TYP_mk, TYL_mk, TYS_mk, TYM_mk, SO_mk, NX_mk, endK_mk, endK_mk', add_0]
    refine f_ahead (r1.ext e3) r2 (by rw [rowL_len]; omega) (by rw [rowL_len]; omega) (by rw [rowL_len, rowL_len]) (by rw [rowL_len]; omega) ?_
    try simp only [TUP_mk, AGG_mk, HD_mk, NL_mk, TYI_mk, TYB_mk, TYP_mk, TYL_mk, TYS_mk, TYM_mk, SO_mk, NX_mk, endK_mk, endK_mk', add_0]
    have := h s3 (e02.trans e3)
    unfold befP at this
    rw [decide_eq_true hab, Bool.true_and] at this
    exact this
  · have hab : a = b := by omega
    have := h s1 e1
    unfold befP at this
    rw [decide_eq_false (fun hn => hn hab), Bool.false_and] at this
    exact this
theorem f_Sum {x y : Option Addr} {c c' : Nat} {i : Int} (hx : RowAt s x (ints T.off)) (hy : ScAt s y T.sc) (hlo : T.off.length ≤ 100000) (h : ∀ s', Ext s s' → K (.tuple #[spanV (sumP T i).1, .int .i64 (sumP T i).2]) s') :
    CALL Pg W F_ref10_Sum [.agg #[.int .i64 T.men, .int .i64 T.sheets, .slice x T.off.length c, .slice y T.sc.length c'], .int .i64 i] K E s := by
  refine does_ref10_Sum W T.men T.sheets x T.off.length c y T.sc.length c' i _ s ?_
  unfold T_ref10_Sum
  refine NEW_rule fun s1 e1 z1 n1 _ => ?_
  refine NEWZ_rule zc_29 fun s2 e2 z2 n2 => ?_
  have e02 := e1.trans e2
  have c0 := e2.cell (n1 0 _ rfl).cell
  have c1 := e2.cell (n1 1 _ rfl).cell
  have c2 := e2.cell (n1 2 _ rfl).cell
  have c3 := e2.cell (n1 3 _ rfl).cell
  have b0 := n2 0 _ rfl
  have b1 := n2 1 _ rfl
  have hs1 := e1.1
  refine ⟨_, c0, _, c1, _, _, _, c2, _, _, _, c3, _, c0, _, c1, _, _, _, c2, _, _, _, c3, ?_⟩
  refine f_Man fun s3 b e3 hb => ?_
  try simp only [TUP_mk, AGG_mk, HD_mk, NL_mk, TYI_mk, TYB_mk, TYP_mk, TYL_mk, TYS_mk, TYM_mk, SO_mk, NX_mk, endK_mk, endK_mk', add_0]
  refine ⟨⟨_, e3.cell c0, _, e3.cell c1, _, _, _, e3.cell c2, _, _, _, e3.cell c3, rfl⟩, ?_⟩
  have e03 := e02.trans e3
  refine f_check (hx.ext e03) (hy.ext e03) hlo fun s4 e4 => ?_
  try simp only [TUP_mk, AGG_mk, HD_mk, NL_mk, TYI_mk, TYB_mk, TYP_mk, TYL_mk, TYS_mk, TYM_mk, SO_mk, NX_mk, endK_mk, endK_mk', add_0]
  have e24 := e3.trans e4
  have e04 := e02.trans e24
  have fin : ∀ (t : Hp) (v : Int × Int) (e : Int), Ext s2 t → sumP T i = (v, e) → (WR (Addr.add ⟨s1.size, 0, none⟩ 0) (.int .i64 v.1) <| WR (Addr.add ⟨s1.size, 0, none⟩ 1) (.int .i64 v.2) <| RDI .i64 (Addr.add ⟨s1.size, 0, none⟩ 0) fun n42 => RDI .i64 (Addr.add ⟨s1.size, 0, none⟩ 1) fun n43 => K (.tuple #[(.agg #[(.int .i64 n42), (.int .i64 n43)]), (.int .i64 e)])) t := by
    intro t v e et hv
    rw [hv] at h
    refine wr2 rfl rfl (new2' (et.own b0) (et.own b1)) fun t2 k2 z2 o0 o1 => ?_
    exact ⟨_, o0.cell, _, o1.cell, h t2 (kp_new (e02.trans et) (by omega) k2)⟩
  by_cases hok : okT T = true
  · by_cases hm : isM T i
    · have hbt : b = true := by rw [hb hok]; exact decide_eq_true hm
      have hc : (if okT T = true then (if b = true then (0 : Int) else 2) else 1) = 0 := by rw [if_pos hok, if_pos hbt]
      rw [hc]
      refine BR_ne (fun hh => absurd rfl hh) (fun _ => ?_)
      refine ⟨_, e24.cell c0, _, e24.cell c1, _, _, _, e24.cell c2, _, _, _, e24.cell c3, _, e24.cell c0, _, e24.cell c1, _, _, _, e24.cell c2, _, _, _, e24.cell c3, ?_⟩
      obtain ⟨j, rfl⟩ := Int.eq_ofNat_of_zero_le hm.1
      have hjn : j < T.n := by have h2 := hm.2; obtain ⟨h3, _⟩ := okT_iff.1 hok; unfold Tb.n; omega
      refine f_least hok hjn (hx.ext e04) (hy.ext e04) fun s5 w cw e5 r1 => ?_
      try simp only [TUP_mk, AGG_mk, HD_mk, NL_mk, TYI_mk, TYB_mk, TYP_mk, TYL_mk, TYS_mk, TYM_mk, SO_mk, NX_mk, endK_mk, endK_mk', add_0]
      have e25 := e24.trans e5
      refine ⟨⟨_, e25.cell c0, _, e25.cell c1, _, _, _, e25.cell c2, _, _, _, e25.cell c3, rfl⟩, ?_⟩
      obtain ⟨a1, ha1, g1⟩ := row_int r1 (show 0 < _ by rw [rowL_len]; omega)
      refine ⟨a1, ha1, ⟨by omega, by omega⟩, _, g1, ?_⟩
      have e05 := e02.trans e25
      refine f_most hok hjn (hx.ext e05) (hy.ext e05) fun s6 w' cw' e6 r2 => ?_
      try simp only [TUP_mk, AGG_mk, HD_mk, NL_mk, TYI_mk, TYB_mk, TYP_mk, TYL_mk, TYS_mk, TYM_mk, SO_mk, NX_mk, endK_mk, endK_mk', add_0]
      refine ⟨⟨_, e6.cell g1, rfl⟩, ?_⟩
      obtain ⟨a2, ha2, g2⟩ := row_int r2 (show 0 < _ by rw [rowL_len]; omega)
      refine ⟨a2, ha2, ⟨by omega, by omega⟩, _, g2, ?_⟩
      refine fin s6 (_, _) 0 (e25.trans e6) ?_
      unfold sumP
      rw [hok, if_pos rfl, if_pos hm]; rfl
    · have hbf : b = false := by rw [hb hok]; exact decide_eq_false hm
      have hc : (if okT T = true then (if b = true then (0 : Int) else 2) else 1) = 2 := by rw [if_pos hok, hbf]; rfl
      rw [hc]
      refine BR_ne (fun _ => ?_) (fun hh => absurd hh (by decide))
      refine fin s4 (0, 0) 2 e24 ?_
      unfold sumP
      rw [hok, if_pos rfl, if_neg hm]
  · have hc : (if okT T = true then (if b = true then (0 : Int) else 2) else 1) = 1 := by rw [if_neg hok]
    rw [hc]
    refine BR_ne (fun _ => ?_) (fun hh => absurd hh (by decide))
    refine fin s4 (0, 0) 1 e24 ?_
    unfold sumP
    rw [if_neg hok]
theorem f_Before {x y : Option Addr} {c c' : Nat} {a b : Int} (hx : RowAt s x (ints T.off)) (hy : ScAt s y T.sc) (hlo : T.off.length ≤ 100000) (h : ∀ s', Ext s s' → K (.tuple #[.int .i64 (befR T a b).1, .int .i64 (befR T a b).2]) s') :
    CALL Pg W F_ref10_Before [.agg #[.int .i64 T.men, .int .i64 T.sheets, .slice x T.off.length c, .slice y T.sc.length c'], .int .i64 a, .int .i64 b] K E s := by
  refine does_ref10_Before W T.men T.sheets x T.off.length c y T.sc.length c' a b _ s ?_
  unfold T_ref10_Before
  refine NEW_rule fun s1 e1 z1 n1 _ => ?_
  have c0 := (n1 0 _ rfl).cell
  have c1 := (n1 1 _ rfl).cell
  have c2 := (n1 2 _ rfl).cell
  have c3 := (n1 3 _ rfl).cell
  refine ⟨_, c0, _, c1, _, _, _, c2, _, _, _, c3, _, c0, _, c1, _, _, _, c2, _, _, _, c3, ?_⟩
  have j0 : ∀ (t : Hp) (q : Bool), Ext s1 t → (okT T = true → q = decide (isM T a ∧ isM T b)) → J_ref10_Before_0 W (endK K E) T.men T.sheets x T.off.length c y T.sc.length c' q s.size a b t := by
    intro t q et hq
    have e0t := e1.trans et
    unfold J_ref10_Before_0
    refine f_check (hx.ext e0t) (hy.ext e0t) hlo fun t2 f2 => ?_
    try simp only [TUP_mk, AGG_mk, HD_mk, NL_mk, TYI_mk, TYB_mk, TYP_mk, TYL_mk, TYS_mk, TYM_mk, SO_mk, NX_mk, endK_mk, endK_mk', add_0]
    have et2 := et.trans f2
    have e0t2 := e1.trans et2
    by_cases hok : okT T = true
    · by_cases hm : isM T a ∧ isM T b
      · have hbt : q = true := by rw [hq hok]; exact decide_eq_true hm
        have hc : (if okT T = true then (if q = true then (0 : Int) else 2) else 1) = 0 := by rw [if_pos hok, if_pos hbt]
        rw [hc]
        refine BR_ne (fun hh => absurd rfl hh) (fun _ => ?_)
        obtain ⟨i, rfl⟩ := Int.eq_ofNat_of_zero_le hm.1.1
        obtain ⟨j, rfl⟩ := Int.eq_ofNat_of_zero_le hm.2.1
        have hr : befR T i j = (befN T i j, 0) := by unfold befR; rw [hok, if_pos rfl, if_pos hm]; rfl
        rw [hr] at h
        have hin : i < T.n := by have h2 := hm.1.2; obtain ⟨h3, _⟩ := okT_iff.1 hok; unfold Tb.n; omega
        have hjn : j < T.n := by have h2 := hm.2.2; obtain ⟨h3, _⟩ := okT_iff.1 hok; unfold Tb.n; omega
        refine ⟨_, et2.cell c0, _, et2.cell c1, _, _, _, et2.cell c2, _, _, _, et2.cell c3, ?_⟩
        refine f_surely hok hin hjn (hx.ext e0t2) (hy.ext e0t2) fun t3 f3 => ?_
        try simp only [TUP_mk, AGG_mk, HD_mk, NL_mk, TYI_mk, TYB_mk, TYP_mk, TYL_mk, TYS_mk, TYM_mk, SO_mk, NX_mk, endK_mk, endK_mk', add_0]
        have et3 := et2.trans f3
        refine BR_bool (fun h1 => ?_) (fun h1 => ?_)
        · have hN : befN T i j = 2 := by unfold befN; rw [h1, if_pos rfl]
          rw [hN] at h
          exact h t3 (e1.trans et3)
        · refine ⟨_, et3.cell c0, _, et3.cell c1, _, _, _, et3.cell c2, _, _, _, et3.cell c3, ?_⟩
          refine f_can hok hin hjn (hx.ext (e1.trans et3)) (hy.ext (e1.trans et3)) fun t4 f4 => ?_
          try simp only [TUP_mk, AGG_mk, HD_mk, NL_mk, TYI_mk, TYB_mk, TYP_mk, TYL_mk, TYS_mk, TYM_mk, SO_mk, NX_mk, endK_mk, endK_mk', add_0]
          have e04 := e1.trans (et3.trans f4)
          refine BR_bool (fun h2 => ?_) (fun h2 => ?_)
          · have hN : befN T i j = 1 := by unfold befN; rw [h1, h2]; rfl
            rw [hN] at h
            exact h t4 e04
          · have hN : befN T i j = 0 := by unfold befN; rw [h1, h2]; rfl
            rw [hN] at h
            exact h t4 e04
      · have hbf : q = false := by rw [hq hok]; exact decide_eq_false hm
        have hc : (if okT T = true then (if q = true then (0 : Int) else 2) else 1) = 2 := by rw [if_pos hok, hbf]; rfl
        rw [hc]
        refine BR_ne (fun _ => ?_) (fun hh => absurd hh (by decide))
        have hr : befR T a b = (0, 2) := by unfold befR; rw [hok, if_pos rfl, if_neg hm]
        rw [hr] at h
        exact h t2 e0t2
    · have hc : (if okT T = true then (if q = true then (0 : Int) else 2) else 1) = 1 := by rw [if_neg hok]
      rw [hc]
      refine BR_ne (fun _ => ?_) (fun hh => absurd hh (by decide))
      have hr : befR T a b = (0, 1) := by unfold befR; rw [if_neg hok]
      rw [hr] at h
      exact h t2 e0t2
  refine f_Man fun s3 q1 e3 hb => ?_
  try simp only [TUP_mk, AGG_mk, HD_mk, NL_mk, TYI_mk, TYB_mk, TYP_mk, TYL_mk, TYS_mk, TYM_mk, SO_mk, NX_mk, endK_mk, endK_mk', add_0]
  refine ⟨⟨_, e3.cell c0, _, e3.cell c1, _, _, _, e3.cell c2, _, _, _, e3.cell c3, rfl⟩, ?_⟩
  refine BR_bool (fun hq => ?_) (fun hq => ?_)
  · refine ⟨_, e3.cell c0, _, e3.cell c1, _, _, _, e3.cell c2, _, _, _, e3.cell c3, ?_⟩
    refine f_Man fun s4 q2 e4 hb2 => ?_
    try simp only [TUP_mk, AGG_mk, HD_mk, NL_mk, TYI_mk, TYB_mk, TYP_mk, TYL_mk, TYS_mk, TYM_mk, SO_mk, NX_mk, endK_mk, endK_mk', add_0]
    have e34 := e3.trans e4
    refine ⟨⟨_, e34.cell c0, _, e34.cell c1, _, _, _, e34.cell c2, _, _, _, e34.cell c3, rfl⟩, ?_⟩
    refine j0 s4 q2 e34 fun hok => ?_
    have h1 : isM T a := of_decide_eq_true ((hb hok) ▸ hq)
    rw [hb2 hok]
    congr 1
    apply propext
    exact ⟨fun h2 => ⟨h1, h2⟩, fun h2 => h2.2⟩
  · refine j0 s3 false e3 fun hok => ?_
    have h1 : ¬ isM T a := of_decide_eq_false ((hb hok) ▸ hq)
    exact (decide_eq_false (fun h2 => h1 h2.1)).symm
end
end Go.Proofs.Ytkgcbfbbcaajpaa.G

/- The document's functions of layer 10: power, place. -/
set_option linter.unusedSimpArgs false
set_option linter.unusedVariables false
set_option maxRecDepth 20000
namespace Go.Proofs.Ytkgcbfbbcaajpaa.G
open Go.V
section
variable {W : World} {K : VK} {E : List PanicEntry → Hp → Prop} {s : Hp} {T : Tb}
theorem f_power {n : Nat} (hn : n ≤ 40) (h : K (.int .i64 ((2 ^ n : Nat) : Int)) s) : CALL Pg W F_ref10_power [.int .i64 n] K E s := by
  refine does_ref10_power W n _ s ?_
  refine L_ref10_power_0_rule W _ n (fun n2 n3 t => t = s ∧ ∃ k : Nat, k ≤ n ∧ n3 = k ∧ n2 = ((2 ^ k : Nat) : Int)) (fun _ n3 _ => (n - n3).toNat) 1 0 s ⟨rfl, 0, by omega, rfl, rfl⟩ ?_
  rintro n2 n3 t ⟨rfl, k, hk, rfl, rfl⟩
  unfold B_ref10_power_0
  refine BR_dec (fun h1 => ?_) (fun h1 => ?_)
  · have hp : 2 ^ k ≤ 2 ^ 40 := Nat.pow_le_pow_right (by omega) (by omega)
    have hs : 2 ^ (k + 1) = 2 * 2 ^ k := by rw [Nat.pow_succ, Nat.mul_comm]
    refine ⟨rfl, _, _, rfl, ⟨rfl, k + 1, by omega, ?_, ?_⟩, ?_⟩
    · rw [wrap_i64 (by omega) (by omega)]; rfl
    · rw [hs]
      generalize 2 ^ k = P at *
      rw [wrap_i64 (by omega) (by omega)]; omega
    · show ((n : Int) - IntKind.i64.wrap ((k : Int) + 1)).toNat < ((n : Int) - k).toNat
      rw [wrap_i64 (by omega) (by omega)]; omega
  · have : k = n := by omega
    subst this
    exact h
theorem f_place {x y : Option Addr} {c c' : Nat} {i : Nat} (hok : okT T = true) (hi : i < T.n) (hx : RowAt s x (ints T.off)) (hy : ScAt s y T.sc)
    (h : ∀ s', Ext s s' → K (spanV (plcP (pts (prs T)) T.m T.n T.off i)) s') :
    CALL Pg W F_ref10_place [.agg #[.int .i64 T.men, .int .i64 T.sheets, .slice x T.off.length c, .slice y T.sc.length c'], .int .i64 i] K E s := by
  have vd := okT_vd hok
  have hm5 := vd.m5
  have hn6 := vd.n6
  obtain ⟨hmen, _⟩ := okT_iff.1 hok
  have hn : ((T.n : Nat) : Int) = T.men := by unfold Tb.n; omega
  refine does_ref10_place W T.men T.sheets x T.off.length c y T.sc.length c' i _ s ?_
  unfold T_ref10_place
  refine NEW_rule fun s1 e1 z1 n1 _ => ?_
  refine NEWZ_rule zc_29 fun s2 e2 z2 n2 => ?_
  refine NEWZ_rule zc_29 fun s3 e3 z3 n3 => ?_
  refine wr2 rfl rfl (new2 n3) fun s4 k4 z4 o0 o1 => ?_
  have e24 : Ext s2 s4 := ext_own e3 (Nat.le_refl _) k4
  have e14 := e2.trans e24
  have e04 := e1.trans e14
  have c0 := e14.cell (n1 0 _ rfl).cell
  have c1 := e14.cell (n1 1 _ rfl).cell
  have c2 := e14.cell (n1 2 _ rfl).cell
  have c3 := e14.cell (n1 3 _ rfl).cell
  have b0 := e24.own (n2 0 _ rfl)
  have b1 := e24.own (n2 1 _ rfl)
  have hz1 : s1.size = s.size + 1 := z1
  have hz2 : s2.size = s1.size + 1 := z2
  have hx4 := hx.ext e04
  have hy4 := hy.ext e04
  refine L_ref10_place_0_rule W _ i ⟨s.size, 0, none⟩ ⟨s1.size, 0, none⟩ ⟨s2.size, 0, none⟩ (fun n t => Kp (· = s2.size) s4 t ∧ ∃ k : Nat, k ≤ T.n ∧ n = k ∧ Own t (Addr.add ⟨s2.size, 0, none⟩ 0) (.int .i64 (1 + (cntB (fun o => befP (pts (prs T)) false T.m T.off o i) k : Nat))) ∧ Own t (Addr.add ⟨s2.size, 0, none⟩ 1) (.int .i64 (1 + (cntB (fun o => befP (pts (prs T)) true T.m T.off o i) k : Nat)))) (fun n _ => (T.n - n).toNat) 0 s4
    ⟨Kp.refl _, 0, by omega, rfl, o0, o1⟩ ?_
  rintro n13 t ⟨kt, k, hk, rfl, w0, w1⟩
  have et : Ext s t := kp_new e04 (by omega) kt
  have d0 := kt.cell (a := ⟨s.size, 0, none⟩) (by show ¬ s.size = s2.size; omega) c0
  have d1 := kt.cell (a := ⟨s.size, 1, none⟩) (by show ¬ s.size = s2.size; omega) c1
  have d2 := kt.cell (a := ⟨s.size, 2, none⟩) (by show ¬ s.size = s2.size; omega) c2
  have d3 := kt.cell (a := ⟨s.size, 3, none⟩) (by show ¬ s.size = s2.size; omega) c3
  have hl1 := cntB_le (fun o => befP (pts (prs T)) false T.m T.off o i) k
  have hl2 := cntB_le (fun o => befP (pts (prs T)) true T.m T.off o i) k
  unfold B_ref10_place_0
  refine ⟨_, d0, ?_⟩
  refine BR_dec (fun h1 => ?_) (fun h1 => ?_)
  · have hkn : k < T.n := by omega
    have hw : IntKind.i64.wrap ((k : Int) + 1) = ((k + 1 : Nat) : Int) := by rw [wrap_i64 (by omega) (by omega)]; rfl
    have hms : ((T.n : Int) - IntKind.i64.wrap ((k : Int) + 1)).toNat < ((T.n : Int) - k).toNat := by rw [hw]; omega
    have hs1 := cntB_succ (fun o => befP (pts (prs T)) false T.m T.off o i) k
    have hs2 := cntB_succ (fun o => befP (pts (prs T)) true T.m T.off o i) k
    refine BR_eq (fun hki => ?_) (fun hki => ?_)
    · have hki' : k = i := by omega
      have hb : ∀ e, befP (pts (prs T)) e T.m T.off k i = false := fun e => by unfold befP; rw [decide_eq_false (fun hne => hne hki'), Bool.false_and]
      rw [hb, if_neg (by simp), Nat.add_zero] at hs1 hs2
      unfold J_ref10_place_0
      exact ⟨rfl, _, rfl, ⟨kt, k + 1, by omega, hw, by rw [hs1]; exact w0, by rw [hs2]; exact w1⟩, hms⟩
    · have hki' : k ≠ i := by omega
      have hbe : ∀ e, befP (pts (prs T)) e T.m T.off k i = aheadL (rowL (pts (prs T)) e T.m (offT T k) k) (rowL (pts (prs T)) (!e) T.m (offT T i) i) := fun e => by unfold befP; rw [decide_eq_true hki', Bool.true_and]; rfl
      refine ⟨_, d0, _, d1, _, _, _, d2, _, _, _, d3, _, d0, _, d1, _, _, _, d2, _, _, _, d3, ?_⟩
      refine f_least hok hkn (hx.ext et) (hy.ext et) fun t1 u1 cu1 f1 r1 => ?_
      try simp only [TUP_mk, AGG_mk, HD_mk, NL_mk, TYI_mk, TYB_mk, TYP_mk, TYL_mk, TYS_mk, TYM_mk, SO_mk, NX_mk, endK_mk, endK_mk', add_0]
      refine ⟨⟨_, f1.cell d0, _, f1.cell d1, _, _, _, f1.cell d2, _, _, _, f1.cell d3, rfl⟩, ?_⟩
      have et1 := et.trans f1
      refine f_most hok hi (hx.ext et1) (hy.ext et1) fun t2 u2 cu2 f2 r2 => ?_
      try simp only [TUP_mk, AGG_mk, HD_mk, NL_mk, TYI_mk, TYB_mk, TYP_mk, TYL_mk, TYS_mk, TYM_mk, SO_mk, NX_mk, endK_mk, endK_mk', add_0]
      have f12 := f1.trans f2
      refine f_ahead (r1.ext f2) r2 (by rw [rowL_len]; omega) (by rw [rowL_len]; omega) (by rw [rowL_len, rowL_len]) (by rw [rowL_len]; omega) ?_
      try simp only [TUP_mk, AGG_mk, HD_mk, NL_mk, TYI_mk, TYB_mk, TYP_mk, TYL_mk, TYS_mk, TYM_mk, SO_mk, NX_mk, endK_mk, endK_mk', add_0]
      -- the second comparison
      have j1 : ∀ (t3 : Hp), Kp (· = s2.size) s4 t3 → Own t3 (Addr.add ⟨s2.size, 0, none⟩ 0) (.int .i64 (1 + (cntB (fun o => befP (pts (prs T)) false T.m T.off o i) (k + 1) : Nat))) → Own t3 (Addr.add ⟨s2.size, 0, none⟩ 1) (.int .i64 (1 + (cntB (fun o => befP (pts (prs T)) true T.m T.off o i) k : Nat))) → J_ref10_place_1 W (endK K E) ⟨s.size, 0, none⟩ k i ⟨s2.size, 0, none⟩ ⟨s1.size, 0, none⟩ (fun vs => N_ref10_place_0 (fun n t => Kp (· = s2.size) s4 t ∧ ∃ k : Nat, k ≤ T.n ∧ n = k ∧ Own t (Addr.add ⟨s2.size, 0, none⟩ 0) (.int .i64 (1 + (cntB (fun o => befP (pts (prs T)) false T.m T.off o i) k : Nat))) ∧ Own t (Addr.add ⟨s2.size, 0, none⟩ 1) (.int .i64 (1 + (cntB (fun o => befP (pts (prs T)) true T.m T.off o i) k : Nat)))) (fun n _ => (T.n - n).toNat) k t vs) t3 := by
        intro t3 k3 v0 v1
        have e3t : Ext s t3 := kp_new e04 (by omega) k3
        have g0 := k3.cell (a := ⟨s.size, 0, none⟩) (by show ¬ s.size = s2.size; omega) c0
        have g1 := k3.cell (a := ⟨s.size, 1, none⟩) (by show ¬ s.size = s2.size; omega) c1
        have g2 := k3.cell (a := ⟨s.size, 2, none⟩) (by show ¬ s.size = s2.size; omega) c2
        have g3 := k3.cell (a := ⟨s.size, 3, none⟩) (by show ¬ s.size = s2.size; omega) c3
        unfold J_ref10_place_1
        refine ⟨_, g0, _, g1, _, _, _, g2, _, _, _, g3, _, g0, _, g1, _, _, _, g2, _, _, _, g3, ?_⟩
        refine f_most hok hkn (hx.ext e3t) (hy.ext e3t) fun t4 u4 cu4 f4 r4 => ?_
        try simp only [TUP_mk, AGG_mk, HD_mk, NL_mk, TYI_mk, TYB_mk, TYP_mk, TYL_mk, TYS_mk, TYM_mk, SO_mk, NX_mk, endK_mk, endK_mk', add_0]
        refine ⟨⟨_, f4.cell g0, _, f4.cell g1, _, _, _, f4.cell g2, _, _, _, f4.cell g3, rfl⟩, ?_⟩
        have et4 := e3t.trans f4
        refine f_least hok hi (hx.ext et4) (hy.ext et4) fun t5 u5 cu5 f5 r5 => ?_
        try simp only [TUP_mk, AGG_mk, HD_mk, NL_mk, TYI_mk, TYB_mk, TYP_mk, TYL_mk, TYS_mk, TYM_mk, SO_mk, NX_mk, endK_mk, endK_mk', add_0]
        have f45 := f4.trans f5
        refine f_ahead (r4.ext f5) r5 (by rw [rowL_len]; omega) (by rw [rowL_len]; omega) (by rw [rowL_len, rowL_len]) (by rw [rowL_len]; omega) ?_
        try simp only [TUP_mk, AGG_mk, HD_mk, NL_mk, TYI_mk, TYB_mk, TYP_mk, TYL_mk, TYS_mk, TYM_mk, SO_mk, NX_mk, endK_mk, endK_mk', add_0]
        have hb := hbe true
        refine BR_bool (fun hh => ?_) (fun hh => ?_)
        · have hb' : befP (pts (prs T)) true T.m T.off k i = true := by rw [hb]; exact hh
          rw [hb', if_pos rfl] at hs2
          have p1 := f45.own v1
          refine ⟨_, p1.cell, WR_own (a := Addr.add ⟨s2.size, 0, none⟩ 1) p1 rfl ?_⟩
          unfold J_ref10_place_0
          refine ⟨rfl, _, rfl, ⟨Kp.setC (k3.ext f45) (.inl rfl), k + 1, by omega, hw, own_set_ne (.inr (by show (0 : Nat) ≠ 1; decide)) (f45.own v0), ?_⟩, hms⟩
          have hv : IntKind.wrap .i64 (1 + ((cntB (fun o => befP (pts (prs T)) true T.m T.off o i) k : Nat) : Int) + 1) = 1 + ((cntB (fun o => befP (pts (prs T)) true T.m T.off o i) (k + 1) : Nat) : Int) := by rw [hs2, wrap_i64 (by omega) (by omega)]; omega
          rw [hv]
          exact own_set p1
        · have hb' : befP (pts (prs T)) true T.m T.off k i = false := by rw [hb]; exact hh
          rw [hb', if_neg (by simp), Nat.add_zero] at hs2
          unfold J_ref10_place_0
          exact ⟨rfl, _, rfl, ⟨k3.ext f45, k + 1, by omega, hw, f45.own v0, by rw [hs2]; exact f45.own v1⟩, hms⟩
      have hb := hbe false
      refine BR_bool (fun hh => ?_) (fun hh => ?_)
      · have hb' : befP (pts (prs T)) false T.m T.off k i = true := by rw [hb]; exact hh
        rw [hb', if_pos rfl] at hs1
        have p0 := f12.own w0
        refine ⟨_, p0.cell, WR_own (a := Addr.add ⟨s2.size, 0, none⟩ 0) p0 rfl ?_⟩
        refine j1 _ (Kp.setC (kt.ext f12) (.inl rfl)) ?_ (own_set_ne (.inr (by show (1 : Nat) ≠ 0; decide)) (f12.own w1))
        have hv : IntKind.wrap .i64 (1 + ((cntB (fun o => befP (pts (prs T)) false T.m T.off o i) k : Nat) : Int) + 1) = 1 + ((cntB (fun o => befP (pts (prs T)) false T.m T.off o i) (k + 1) : Nat) : Int) := by rw [hs1, wrap_i64 (by omega) (by omega)]; omega
        rw [hv]
        exact own_set p0
      · have hb' : befP (pts (prs T)) false T.m T.off k i = false := by rw [hb]; exact hh
        rw [hb', if_neg (by simp), Nat.add_zero] at hs1
        exact j1 _ (kt.ext f12) (by rw [hs1]; exact f12.own w0) (f12.own w1)
  · have hkn : k = T.n := by omega
    subst hkn
    have p0 := kt.own (a := ⟨s1.size, 0, none⟩) (by show ¬ s1.size = s2.size; omega) b0
    have p1 := kt.own (a := ⟨s1.size, 1, none⟩) (by show ¬ s1.size = s2.size; omega) b1
    refine ⟨_, w0.cell, _, w1.cell, ?_⟩
    exact fin_span p0 p1 fun s' k' => h s' (kp_new et (by omega) k')
end
end Go.Proofs.Ytkgcbfbbcaajpaa.G

/- The document's functions of layer 10: Place, Winners. -/
set_option linter.unusedSimpArgs false
set_option linter.unusedVariables false
set_option maxRecDepth 20000
namespace Go.Proofs.Ytkgcbfbbcaajpaa.G
open Go.V
theorem add_or : ∀ w : Nat, w < 256 → ∀ m : Nat, m < 8 → w.testBit m = false → w + 2 ^ m = w ||| 2 ^ m := by
  have h : ((List.range 256).all fun (l : Nat) => (List.range 8).all fun (m : Nat) => l.testBit m || decide (l + 2 ^ m = l ||| 2 ^ m)) = true := by decide +kernel
  intro w hl m hm hb
  have h1 := List.all_eq_true.1 h w (by simpa using hl)
  have h2 := List.all_eq_true.1 h1 m (by simpa using hm)
  rw [hb] at h2
  simpa using h2
theorem pow_8 : ∀ k : Nat, k < 8 → 2 ^ k ≤ 128 := by decide
section
variable {W : World} {K : VK} {E : List PanicEntry → Hp → Prop} {s : Hp} {T : Tb}
theorem f_Place {x y : Option Addr} {c c' : Nat} {i : Int} (hx : RowAt s x (ints T.off)) (hy : ScAt s y T.sc) (hlo : T.off.length ≤ 100000) (h : ∀ s', Ext s s' → K (.tuple #[spanV (plcR T i).1, .int .i64 (plcR T i).2]) s') :
    CALL Pg W F_ref10_Place [.agg #[.int .i64 T.men, .int .i64 T.sheets, .slice x T.off.length c, .slice y T.sc.length c'], .int .i64 i] K E s := by
  refine does_ref10_Place W T.men T.sheets x T.off.length c y T.sc.length c' i _ s ?_
  unfold T_ref10_Place
  refine NEW_rule fun s1 e1 z1 n1 _ => ?_
  refine NEWZ_rule zc_29 fun s2 e2 z2 n2 => ?_
  have e02 := e1.trans e2
  have c0 := e2.cell (n1 0 _ rfl).cell
  have c1 := e2.cell (n1 1 _ rfl).cell
  have c2 := e2.cell (n1 2 _ rfl).cell
  have c3 := e2.cell (n1 3 _ rfl).cell
  have b0 := n2 0 _ rfl
  have b1 := n2 1 _ rfl
  have hs1 := e1.1
  refine ⟨_, c0, _, c1, _, _, _, c2, _, _, _, c3, _, c0, _, c1, _, _, _, c2, _, _, _, c3, ?_⟩
  refine f_Man fun s3 b e3 hb => ?_
  try simp only [TUP_mk, AGG_mk, HD_mk, NL_mk, TYI_mk, TYB_mk, TYP_mk, TYL_mk, TYS_mk, TYM_mk, SO_mk, NX_mk, endK_mk, endK_mk', add_0]
  refine ⟨⟨_, e3.cell c0, _, e3.cell c1, _, _, _, e3.cell c2, _, _, _, e3.cell c3, rfl⟩, ?_⟩
  have e03 := e02.trans e3
  refine f_check (hx.ext e03) (hy.ext e03) hlo fun s4 e4 => ?_
  try simp only [TUP_mk, AGG_mk, HD_mk, NL_mk, TYI_mk, TYB_mk, TYP_mk, TYL_mk, TYS_mk, TYM_mk, SO_mk, NX_mk, endK_mk, endK_mk', add_0]
  have e24 := e3.trans e4
  have e04 := e02.trans e24
  have fin : ∀ (t : Hp) (v : Int × Int) (e : Int), Ext s2 t → plcR T i = (v, e) → (WR (Addr.add ⟨s1.size, 0, none⟩ 0) (.int .i64 v.1) <| WR (Addr.add ⟨s1.size, 0, none⟩ 1) (.int .i64 v.2) <| RDI .i64 (Addr.add ⟨s1.size, 0, none⟩ 0) fun n42 => RDI .i64 (Addr.add ⟨s1.size, 0, none⟩ 1) fun n43 => K (.tuple #[(.agg #[(.int .i64 n42), (.int .i64 n43)]), (.int .i64 e)])) t := by
    intro t v e et hv
    rw [hv] at h
    refine wr2 rfl rfl (new2' (et.own b0) (et.own b1)) fun t2 k2 z2 o0 o1 => ?_
    exact ⟨_, o0.cell, _, o1.cell, h t2 (kp_new (e02.trans et) (by omega) k2)⟩
  by_cases hok : okT T = true
  · by_cases hm : isM T i
    · have hbt : b = true := by rw [hb hok]; exact decide_eq_true hm
      have hc : (if okT T = true then (if b = true then (0 : Int) else 2) else 1) = 0 := by rw [if_pos hok, if_pos hbt]
      rw [hc]
      refine BR_ne (fun hh => absurd rfl hh) (fun _ => ?_)
      refine ⟨_, e24.cell c0, _, e24.cell c1, _, _, _, e24.cell c2, _, _, _, e24.cell c3, ?_⟩
      obtain ⟨j, rfl⟩ := Int.eq_ofNat_of_zero_le hm.1
      have hjn : j < T.n := by have h2 := hm.2; obtain ⟨h3, _⟩ := okT_iff.1 hok; unfold Tb.n; omega
      refine f_place hok hjn (hx.ext e04) (hy.ext e04) fun s5 e5 => ?_
      unfold spanV
      try simp only [TUP_mk, AGG_mk, HD_mk, NL_mk, TYI_mk, TYB_mk, TYP_mk, TYL_mk, TYS_mk, TYM_mk, SO_mk, NX_mk, endK_mk, endK_mk', add_0]
      refine fin s5 _ 0 (e24.trans e5) ?_
      unfold plcR
      rw [hok, if_pos rfl, if_pos hm]; rfl
    · have hbf : b = false := by rw [hb hok]; exact decide_eq_false hm
      have hc : (if okT T = true then (if b = true then (0 : Int) else 2) else 1) = 2 := by rw [if_pos hok, hbf]; rfl
      rw [hc]
      refine BR_ne (fun _ => ?_) (fun hh => absurd hh (by decide))
      refine fin s4 (0, 0) 2 e24 ?_
      unfold plcR
      rw [hok, if_pos rfl, if_neg hm]
  · have hc : (if okT T = true then (if b = true then (0 : Int) else 2) else 1) = 1 := by rw [if_neg hok]
    rw [hc]
    refine BR_ne (fun _ => ?_) (fun hh => absurd hh (by decide))
    refine fin s4 (0, 0) 1 e24 ?_
    unfold plcR
    rw [if_neg hok]
theorem f_Winners {x y : Option Addr} {c c' : Nat} (hx : RowAt s x (ints T.off)) (hy : ScAt s y T.sc) (hlo : T.off.length ≤ 100000) (h : ∀ s', Ext s s' → K (.tuple #[.int .i64 (winP T).1, .int .i64 (winP T).2.1, .int .i64 (winP T).2.2]) s') :
    CALL Pg W F_ref10_Winners [.agg #[.int .i64 T.men, .int .i64 T.sheets, .slice x T.off.length c, .slice y T.sc.length c']] K E s := by
  refine does_ref10_Winners W T.men T.sheets x T.off.length c y T.sc.length c' _ s ?_
  unfold T_ref10_Winners
  refine NEW_rule fun s1 e1 z1 n1 _ => ?_
  have c0 := (n1 0 _ rfl).cell
  have c1 := (n1 1 _ rfl).cell
  have c2 := (n1 2 _ rfl).cell
  have c3 := (n1 3 _ rfl).cell
  refine ⟨_, c0, _, c1, _, _, _, c2, _, _, _, c3, ?_⟩
  refine f_Table (hx.ext e1) (hy.ext e1) hlo fun s2 e2 => ?_
  try simp only [TUP_mk, AGG_mk, HD_mk, NL_mk, TYI_mk, TYB_mk, TYP_mk, TYL_mk, TYS_mk, TYM_mk, SO_mk, NX_mk, endK_mk, endK_mk', add_0]
  refine BR_not (fun hv => ?_) (fun hv => ?_)
  · have hc : winP T = (0, 0, 1) := by unfold winP; rw [hv]; rfl
    rw [hc] at h
    exact h s2 (e1.trans e2)
  have vd := okT_vd hv
  have hn6 := vd.n6
  obtain ⟨hmen, _⟩ := okT_iff.1 hv
  have hn : ((T.n : Nat) : Int) = T.men := by unfold Tb.n; omega
  have hc : winP T = (((setOf' (surF T) T.n : Nat) : Int), ((setOf' (canF T) T.n : Nat) : Int), 0) := by unfold winP; rw [hv]; rfl
  rw [hc] at h
  refine L_ref10_Winners_0_rule W _ ⟨s.size, 0, none⟩ (fun a b q t => Ext s2 t ∧ ∃ k : Nat, k ≤ T.n ∧ q = k ∧ a = (setOf' (surF T) k : Nat) ∧ b = (setOf' (canF T) k : Nat)) (fun _ _ q _ => (T.n - q).toNat) 0 0 0 s2 ⟨Ext.refl _, 0, by omega, rfl, rfl, rfl⟩ ?_
  rintro n21 n22 n23 t ⟨et, k, hk, rfl, rfl, rfl⟩
  have e1t := e2.trans et
  have e0t := e1.trans e1t
  unfold B_ref10_Winners_0
  refine ⟨_, e1t.cell c0, ?_⟩
  refine BR_dec (fun h1 => ?_) (fun h1 => ?_)
  · have hkn : k < T.n := by omega
    have hw : IntKind.i64.wrap ((k : Int) + 1) = ((k + 1 : Nat) : Int) := by rw [wrap_i64 (by omega) (by omega)]; rfl
    have hms : ((T.n : Int) - IntKind.i64.wrap ((k : Int) + 1)).toNat < ((T.n : Int) - k).toNat := by rw [hw]; omega
    have hs1 : setOf' (surF T) (k + 1) = if surF T k then setOf' (surF T) k ||| 2 ^ k else setOf' (surF T) k := rfl
    have hs2 : setOf' (canF T) (k + 1) = if canF T k then setOf' (canF T) k ||| 2 ^ k else setOf' (canF T) k := rfl
    have l1 := lt_256 (setOf_lt (surF T) k) (by omega)
    have l2 := lt_256 (setOf_lt (canF T) k) (by omega)
    have q1 : (setOf' (surF T) k).testBit k = false := by rw [setOf_bit]; simp
    have q2 : (setOf' (canF T) k).testBit k = false := by rw [setOf_bit]; simp
    have hp8 := pow_8 k (by omega)
    have addw : ∀ w : Nat, w < 256 → w.testBit k = false → IntKind.wrap .i64 (((w : Nat) : Int) + ((2 ^ k : Nat) : Int)) = ((w ||| 2 ^ k : Nat) : Int) := fun w hw' hb => by
      rw [← add_or w hw' k (by omega) hb]
      generalize 2 ^ k = P at hp8 ⊢
      rw [wrap_i64 (by omega) (by omega)]; rfl
    refine ⟨_, e1t.cell c0, _, e1t.cell c1, _, _, _, e1t.cell c2, _, _, _, e1t.cell c3, ?_⟩
    refine f_place hv hkn (hx.ext e0t) (hy.ext e0t) fun t2 f2 => ?_
    unfold spanV
    try simp only [TUP_mk, AGG_mk, HD_mk, NL_mk, TYI_mk, TYB_mk, TYP_mk, TYL_mk, TYS_mk, TYM_mk, SO_mk, NX_mk, endK_mk, endK_mk', add_0]
    refine NEWZ_rule zc_29 fun t3 f3 z3 u3 => ?_
    refine wr2 rfl rfl (new2 u3) fun t4 k4 z4 o0 o1 => ?_
    have e24 : Ext t2 t4 := ext_own f3 (Nat.le_refl _) k4
    have e44 := et.trans (f2.trans e24)
    refine ⟨_, o1.cell, ?_⟩
    have j1 : ∀ a : Int, a = (setOf' (surF T) (k + 1) : Nat) → J_ref10_Winners_1 W (endK K E) t2.size k ⟨s.size, 0, none⟩ (fun vs => N_ref10_Winners_0 (fun a b q t => Ext s2 t ∧ ∃ k : Nat, k ≤ T.n ∧ q = k ∧ a = (setOf' (surF T) k : Nat) ∧ b = (setOf' (canF T) k : Nat)) (fun _ _ q _ => (T.n - q).toNat) (setOf' (surF T) k : Nat) (setOf' (canF T) k : Nat) k t vs) a (setOf' (canF T) k : Nat) t4 := by
      rintro a rfl
      unfold J_ref10_Winners_1
      refine ⟨_, o0.cell, ?_⟩
      have hcf : canF T k = decide ((plcP (pts (prs T)) T.m T.n T.off k).1 = 1) := rfl
      refine BR_eq (fun hh => ?_) (fun hh => ?_)
      · refine f_power (by omega) ?_
        try simp only [TUP_mk, AGG_mk, HD_mk, NL_mk, TYI_mk, TYB_mk, TYP_mk, TYL_mk, TYS_mk, TYM_mk, SO_mk, NX_mk, endK_mk, endK_mk', add_0]
        unfold J_ref10_Winners_0
        refine ⟨rfl, _, _, _, rfl, ⟨e44, k + 1, by omega, hw, rfl, ?_⟩, hms⟩
        rw [hs2, hcf, decide_eq_true hh, if_pos rfl]
        exact addw _ l2 q2
      · unfold J_ref10_Winners_0
        refine ⟨rfl, _, _, _, rfl, ⟨e44, k + 1, by omega, hw, rfl, ?_⟩, hms⟩
        rw [hs2, hcf, decide_eq_false hh, if_neg (by simp)]
    have hsf : surF T k = decide ((plcP (pts (prs T)) T.m T.n T.off k).2 = 1) := rfl
    refine BR_eq (fun hh => ?_) (fun hh => ?_)
    · refine f_power (by omega) ?_
      try simp only [TUP_mk, AGG_mk, HD_mk, NL_mk, TYI_mk, TYB_mk, TYP_mk, TYL_mk, TYS_mk, TYM_mk, SO_mk, NX_mk, endK_mk, endK_mk', add_0]
      refine j1 _ ?_
      rw [hs1, hsf, decide_eq_true hh, if_pos rfl]
      exact addw _ l1 q1
    · refine j1 _ ?_
      rw [hs1, hsf, decide_eq_false hh, if_neg (by simp)]
  · have hkn : k = T.n := by omega
    subst hkn
    exact h t e0t
end
end Go.Proofs.Ytkgcbfbbcaajpaa.G

/- The document's functions of layer 10: Equal. -/
set_option linter.unusedSimpArgs false
set_option linter.unusedVariables false
set_option maxRecDepth 20000
namespace Go.Proofs.Ytkgcbfbbcaajpaa.G
open Go.V
def Own2 (s : Hp) (B : Nat) : Prop := ∃ y0 y1, Own s ⟨B, 0, none⟩ y0 ∧ Own s ⟨B, 1, none⟩ y1
theorem Own2.ext {s s' : Hp} {B : Nat} (e : Ext s s') (h : Own2 s B) : Own2 s' B := by
  obtain ⟨y0, y1, h0, h1⟩ := h
  exact ⟨y0, y1, e.own h0, e.own h1⟩
theorem Own2.lt {s : Hp} {B : Nat} (h : Own2 s B) : B < s.size := by obtain ⟨_, _, h0, _⟩ := h; exact h0.lt
theorem own2_new {s' : Hp} {B : Nat} {v0 v1 : Value} (n : ∀ i v, [v0, v1][i]? = some v → Own s' ⟨B, i, none⟩ v) : Own2 s' B := ⟨_, _, n 0 _ rfl, n 1 _ rfl⟩
theorem CONJ_cons {s : Hp} {a : Hp → Prop} {l : List (Hp → Prop)} (h1 : a s) (h2 : CONJ l s) (hl : l ≠ []) : CONJ (a :: l) s := by
  cases l with
  | nil => exact absurd rfl hl
  | cons b l => exact ⟨h1, h2⟩
section
variable {W : World} {K : VK} {E : List PanicEntry → Hp → Prop} {s : Hp} {T : Tb}
/-- Two spans are written, and then it goes on. -/
theorem two_wr {s0 t : Hp} {B C : Nat} {v0 v1 w0 w1 : Int} {KK : Hp → Prop} (hB : Own2 t B) (hC : Own2 t C) (hne : B ≠ C) (e : Ext s0 t) (h1 : s0.size ≤ B) (h2 : s0.size ≤ C)
    (h : ∀ t', Ext s0 t' → Own t' ⟨B, 0, none⟩ (.int .i64 v0) → Own t' ⟨B, 1, none⟩ (.int .i64 v1) → Own t' ⟨C, 0, none⟩ (.int .i64 w0) → Own t' ⟨C, 1, none⟩ (.int .i64 w1) → KK t') :
    (WR (Addr.add ⟨B, 0, none⟩ 0) (.int .i64 v0) <| WR (Addr.add ⟨B, 0, none⟩ 1) (.int .i64 v1) <| WR (Addr.add ⟨C, 0, none⟩ 0) (.int .i64 w0) <| WR (Addr.add ⟨C, 0, none⟩ 1) (.int .i64 w1) <| KK) t := by
  obtain ⟨y0, y1, b0, b1⟩ := hB
  obtain ⟨z0, z1, c0, c1⟩ := hC
  refine wr2 rfl rfl (new2' b0 b1) fun t2 k2 q2 o0 o1 => ?_
  refine wr2 rfl rfl (new2' (k2.own (by show ¬ C = B; omega) c0) (k2.own (by show ¬ C = B; omega) c1)) fun t3 k3 q3 p0 p1 => ?_
  exact h t3 (kp_new (kp_new e h1 k2) h2 k3) (k3.own (by show ¬ B = C; omega) o0) (k3.own (by show ¬ B = C; omega) o1) p0 p1
theorem f_Equal_in {x y : Option Addr} {c c' k B11 : Nat} {i j : Nat} {q : Bool} {nx : List Value → Hp → Prop} {R : Ending → Hp → Prop} {s1 t0 : Hp} (hx : RowAt s1 x (ints T.off)) (hy : ScAt s1 y T.sc) (h30 : T.sc.length ≤ 30) (hkm : (k : Int) < T.sheets)
    (c0 : cellAt s1 ⟨B11, 0, none⟩ = some (.int .i64 T.men)) (c1 : cellAt s1 ⟨B11, 1, none⟩ = some (.int .i64 T.sheets)) (c2 : cellAt s1 ⟨B11, 2, none⟩ = some (.slice x T.off.length c)) (c3 : cellAt s1 ⟨B11, 3, none⟩ = some (.slice y T.sc.length c')) (et0 : Ext s1 t0)
    (h : ∀ t B C, Ext s1 t → Own t ⟨B, 0, none⟩ (.int .i64 (pts (prs T) ((i : Int), (k : Int))).1) → Own t ⟨B, 1, none⟩ (.int .i64 (pts (prs T) ((i : Int), (k : Int))).2) → Own t ⟨C, 0, none⟩ (.int .i64 (pts (prs T) ((j : Int), (k : Int))).1) → Own t ⟨C, 1, none⟩ (.int .i64 (pts (prs T) ((j : Int), (k : Int))).2) → J_ref10_Equal_2 W R q (some ⟨B, 0, none⟩) (some ⟨C, 0, none⟩) i j ⟨B11, 0, none⟩ nx k t) :
    B_ref10_Equal_0 W R i j ⟨B11, 0, none⟩ q k nx t0 := by
  unfold B_ref10_Equal_0
  refine ⟨_, et0.cell c1, ?_⟩
  refine BR_dec (fun _ => ?_) (fun hh => absurd hkm hh)
  have et := et0
  have hs0 := et0.1
  refine ⟨_, et.cell c0, _, et.cell c1, _, _, _, et.cell c2, _, _, _, et.cell c3, _, et.cell c0, _, et.cell c1, _, _, _, et.cell c2, _, _, _, et.cell c3, ?_⟩
  repeat' (first
    | (refine CONJ_two ?_ ?_)
    | (refine CONJ_cons ?_ ?_ (by simp))
    | (refine ⟨⟨_, et.cell c0, _, et.cell c1, _, _, _, et.cell c2, _, _, _, et.cell c3, rfl⟩, ?_⟩)
    | (refine f_Points (hx.ext et) (hy.ext et) (by omega) fun t1 f1 => ?_
       unfold spanV
       try simp only [TUP_mk, AGG_mk, HD_mk, NL_mk, TYI_mk, TYB_mk, TYP_mk, TYL_mk, TYS_mk, TYM_mk, SO_mk, NX_mk, endK_mk, endK_mk', add_0]
       have et := et.trans f1
       (try have m1 := m1.ext f1)
       (try have m2 := m2.ext f1))
    | (have m2 := m1
       have hs1 := et.1
       have hm2 := m2.lt
       refine NEWZ_rule zc_29 fun t1 f1 z1 n1 => ?_
       have et := et.trans f1
       have m2 := m2.ext f1
       have m1 := own2_new n1)
    | (have hs1 := et.1
       refine NEWZ_rule zc_29 fun t1 f1 z1 n1 => ?_
       have et := et.trans f1
       have m1 := own2_new n1))
  all_goals first
    | exact two_wr m1 m2 (by omega) et (by omega) (by omega) fun t' e' o0 o1 p0 p1 => h t' _ _ e' o0 o1 p0 p1
    | exact two_wr m2 m1 (by omega) et (by omega) (by omega) fun t' e' o0 o1 p0 p1 => h t' _ _ e' o0 o1 p0 p1
end
end Go.Proofs.Ytkgcbfbbcaajpaa.G

/- More of the functions' shallow texts, by gen.py. -/
set_option linter.unusedVariables false
set_option maxRecDepth 100000
namespace Go.Proofs.Ytkgcbfbbcaajpaa.G
open Go.V
def an_3 : Nat → Ann := fun b => match b with
  | _ => {}
abbrev rv_3 : List ResultVar := [.tmp 6]
abbrev rs_3 : List Nat := [152, 6]
def J_law10_RankReads_0 (W : World) (R : Ending → Hp → Prop) (b245 : Bool) (b209 : Bool) (b226 : Bool) (n212 : Int) (n229 : Int) : Hp → Prop :=
  BR b245
    (BR (b209 == b226)
      (BR (n212 == n229)
        (CALL Pg W F_law10_awake []
          (fun v246 => TYB v246 fun b248 =>
            R (.returned (.bool b248)))
            (fun e247 => R (.panicked e247)))
        (R (.returned (.bool false))))
      (R (.returned (.bool false))))
    (R (.returned (.bool false)))
def J_law10_RankReads_1 (W : World) (R : Ending → Hp → Prop) (b244 : Bool) (n175 : Int) (n195 : Int) (b209 : Bool) (b226 : Bool) (n212 : Int) (n229 : Int) : Hp → Prop :=
  BR b244
    (J_law10_RankReads_0 W R (n175 == n195) b209 b226 n212 n229)
    (J_law10_RankReads_0 W R false b209 b226 n212 n229)
def J_law10_RankReads_2 (W : World) (R : Ending → Hp → Prop) (b243 : Bool) (n172 : Int) (n192 : Int) (n175 : Int) (n195 : Int) (b209 : Bool) (b226 : Bool) (n212 : Int) (n229 : Int) : Hp → Prop :=
  BR b243
    (J_law10_RankReads_1 W R (n172 == n192) n175 n195 b209 b226 n212 n229)
    (J_law10_RankReads_1 W R false n175 n195 b209 b226 n212 n229)
def J_law10_RankReads_3 (W : World) (R : Ending → Hp → Prop) (b242 : Bool) (n169 : Int) (n189 : Int) (n172 : Int) (n192 : Int) (n175 : Int) (n195 : Int) (b209 : Bool) (b226 : Bool) (n212 : Int) (n229 : Int) : Hp → Prop :=
  BR b242
    (J_law10_RankReads_2 W R (n169 == n189) n172 n192 n175 n195 b209 b226 n212 n229)
    (J_law10_RankReads_2 W R false n172 n192 n175 n195 b209 b226 n212 n229)
def J_law10_RankReads_4 (W : World) (R : Ending → Hp → Prop) (b241 : Bool) (n130 : Int) (n154 : Int) (n169 : Int) (n189 : Int) (n172 : Int) (n192 : Int) (n175 : Int) (n195 : Int) (b209 : Bool) (b226 : Bool) (n212 : Int) (n229 : Int) : Hp → Prop :=
  BR b241
    (J_law10_RankReads_3 W R (n130 == n154) n169 n189 n172 n192 n175 n195 b209 b226 n212 n229)
    (J_law10_RankReads_3 W R false n169 n189 n172 n192 n175 n195 b209 b226 n212 n229)
def J_law10_RankReads_5 (W : World) (R : Ending → Hp → Prop) (b236 : Bool) (B131 : Nat) (B155 : Nat) (n130 : Int) (n154 : Int) (n169 : Int) (n189 : Int) (n172 : Int) (n192 : Int) (n175 : Int) (n195 : Int) (b209 : Bool) (b226 : Bool) (n212 : Int) (n229 : Int) : Hp → Prop :=
  BR b236
    (RDI .i64 (Addr.add ⟨B131, 0, none⟩ 0) fun n237 =>
      RDI .i64 (Addr.add ⟨B131, 0, none⟩ 1) fun n238 =>
        RDI .i64 (Addr.add ⟨B155, 0, none⟩ 0) fun n239 =>
          RDI .i64 (Addr.add ⟨B155, 0, none⟩ 1) fun n240 =>
            J_law10_RankReads_4 W R ((n237 == n239) && (n238 == n240)) n130 n154 n169 n189 n172 n192 n175 n195 b209 b226 n212 n229)
    (J_law10_RankReads_4 W R false n130 n154 n169 n189 n172 n192 n175 n195 b209 b226 n212 n229)
def J_law10_RankReads_6 (W : World) (R : Ending → Hp → Prop) (b235 : Bool) (n90 : Int) (n107 : Int) (B131 : Nat) (B155 : Nat) (n130 : Int) (n154 : Int) (n169 : Int) (n189 : Int) (n172 : Int) (n192 : Int) (n175 : Int) (n195 : Int) (b209 : Bool) (b226 : Bool) (n212 : Int) (n229 : Int) : Hp → Prop :=
  BR b235
    (J_law10_RankReads_5 W R (n90 == n107) B131 B155 n130 n154 n169 n189 n172 n192 n175 n195 b209 b226 n212 n229)
    (J_law10_RankReads_5 W R false B131 B155 n130 n154 n169 n189 n172 n192 n175 n195 b209 b226 n212 n229)
def J_law10_RankReads_7 (W : World) (R : Ending → Hp → Prop) (b234 : Bool) (n87 : Int) (n104 : Int) (n90 : Int) (n107 : Int) (B131 : Nat) (B155 : Nat) (n130 : Int) (n154 : Int) (n169 : Int) (n189 : Int) (n172 : Int) (n192 : Int) (n175 : Int) (n195 : Int) (b209 : Bool) (b226 : Bool) (n212 : Int) (n229 : Int) : Hp → Prop :=
  BR b234
    (J_law10_RankReads_6 W R (n87 == n104) n90 n107 B131 B155 n130 n154 n169 n189 n172 n192 n175 n195 b209 b226 n212 n229)
    (J_law10_RankReads_6 W R false n90 n107 B131 B155 n130 n154 n169 n189 n172 n192 n175 n195 b209 b226 n212 n229)
def T_law10_RankReads (W : World) (n1 : Int) (n2 : Int) (x3 : Option Addr) (l4 : Nat) (c5 : Nat) (x6 : Option Addr) (l7 : Nat) (c8 : Nat) (n9 : Int) (n10 : Int) (R : Ending → Hp → Prop) : Hp → Prop :=
  NEW 25 [(.int .i64 n1), (.int .i64 n2), (.slice x3 l4 c5), (.slice x6 l7 c8)] fun B11 =>
    RDI .i64 (Addr.add ⟨B11, 0, none⟩ 0) fun n12 =>
      RDI .i64 (Addr.add ⟨B11, 0, none⟩ 1) fun n13 =>
        RDL (Addr.add ⟨B11, 0, none⟩ 2) fun x14 l15 c16 =>
          RDL (Addr.add ⟨B11, 0, none⟩ 3) fun x17 l18 c19 =>
            CALL Pg W F_law10_far [(.agg #[(.int .i64 n12), (.int .i64 n13), (.slice x14 l15 c16), (.slice x17 l18 c19)])]
              (fun v20 => TYB v20 fun b22 =>
                BR b22
                  (CALL Pg W F_law10_awake []
                    (fun v23 => TYB v23 fun b25 =>
                      R (.returned (.bool b25)))
                      (fun e24 => R (.panicked e24)))
                  (RDI .i64 (Addr.add ⟨B11, 0, none⟩ 0) fun n26 =>
                    RDI .i64 (Addr.add ⟨B11, 0, none⟩ 1) fun n27 =>
                      RDL (Addr.add ⟨B11, 0, none⟩ 2) fun x28 l29 c30 =>
                        RDL (Addr.add ⟨B11, 0, none⟩ 3) fun x31 l32 c33 =>
                          CALL Pg W F_rank_Sum [(.agg #[(.int .i64 n26), (.int .i64 n27), (.slice x28 l29 c30), (.slice x31 l32 c33)]), (.int .i64 n9)]
                            (fun v34 => TUP v34 fun q36 => HD q36 fun v37 r38 => AGG v37 fun q39 => HD q39 fun v40 r41 => TYI .i64 v40 fun n42 =>
                              HD r41 fun v43 r44 => TYI .i64 v43 fun n45 =>
                                NL r44 <|
                                  HD r38 fun v46 r47 => TYI .i64 v46 fun n48 =>
                                    NL r47 <|
                                      NEWZ Pg 29 fun B49 =>
                                        WR (Addr.add ⟨B49, 0, none⟩ 0) (.int .i64 n42) <|
                                          WR (Addr.add ⟨B49, 0, none⟩ 1) (.int .i64 n45) <|
                                            RDI .i64 (Addr.add ⟨B11, 0, none⟩ 0) fun n50 =>
                                              RDI .i64 (Addr.add ⟨B11, 0, none⟩ 1) fun n51 =>
                                                RDL (Addr.add ⟨B11, 0, none⟩ 2) fun x52 l53 c54 =>
                                                  RDL (Addr.add ⟨B11, 0, none⟩ 3) fun x55 l56 c57 =>
                                                    CALL Pg W F_ref10_Sum [(.agg #[(.int .i64 n50), (.int .i64 n51), (.slice x52 l53 c54), (.slice x55 l56 c57)]), (.int .i64 n9)]
                                                      (fun v58 => TUP v58 fun q60 => HD q60 fun v61 r62 => AGG v61 fun q63 => HD q63 fun v64 r65 => TYI .i64 v64 fun n66 =>
                                                        HD r65 fun v67 r68 => TYI .i64 v67 fun n69 =>
                                                          NL r68 <|
                                                            HD r62 fun v70 r71 => TYI .i64 v70 fun n72 =>
                                                              NL r71 <|
                                                                NEWZ Pg 29 fun B73 =>
                                                                  WR (Addr.add ⟨B73, 0, none⟩ 0) (.int .i64 n66) <|
                                                                    WR (Addr.add ⟨B73, 0, none⟩ 1) (.int .i64 n69) <|
                                                                      RDI .i64 (Addr.add ⟨B11, 0, none⟩ 0) fun n74 =>
                                                                        RDI .i64 (Addr.add ⟨B11, 0, none⟩ 1) fun n75 =>
                                                                          RDL (Addr.add ⟨B11, 0, none⟩ 2) fun x76 l77 c78 =>
                                                                            RDL (Addr.add ⟨B11, 0, none⟩ 3) fun x79 l80 c81 =>
                                                                              CALL Pg W F_rank_Before [(.agg #[(.int .i64 n74), (.int .i64 n75), (.slice x76 l77 c78), (.slice x79 l80 c81)]), (.int .i64 n9), (.int .i64 n10)]
                                                                                (fun v82 => TUP v82 fun q84 => HD q84 fun v85 r86 => TYI .i64 v85 fun n87 =>
                                                                                  HD r86 fun v88 r89 => TYI .i64 v88 fun n90 =>
                                                                                    NL r89 <|
                                                                                      RDI .i64 (Addr.add ⟨B11, 0, none⟩ 0) fun n91 =>
                                                                                        RDI .i64 (Addr.add ⟨B11, 0, none⟩ 1) fun n92 =>
                                                                                          RDL (Addr.add ⟨B11, 0, none⟩ 2) fun x93 l94 c95 =>
                                                                                            RDL (Addr.add ⟨B11, 0, none⟩ 3) fun x96 l97 c98 =>
                                                                                              CALL Pg W F_ref10_Before [(.agg #[(.int .i64 n91), (.int .i64 n92), (.slice x93 l94 c95), (.slice x96 l97 c98)]), (.int .i64 n9), (.int .i64 n10)]
                                                                                                (fun v99 => TUP v99 fun q101 => HD q101 fun v102 r103 => TYI .i64 v102 fun n104 =>
                                                                                                  HD r103 fun v105 r106 => TYI .i64 v105 fun n107 =>
                                                                                                    NL r106 <|
                                                                                                      RDI .i64 (Addr.add ⟨B11, 0, none⟩ 0) fun n108 =>
                                                                                                        RDI .i64 (Addr.add ⟨B11, 0, none⟩ 1) fun n109 =>
                                                                                                          RDL (Addr.add ⟨B11, 0, none⟩ 2) fun x110 l111 c112 =>
                                                                                                            RDL (Addr.add ⟨B11, 0, none⟩ 3) fun x113 l114 c115 =>
                                                                                                              CALL Pg W F_rank_Place [(.agg #[(.int .i64 n108), (.int .i64 n109), (.slice x110 l111 c112), (.slice x113 l114 c115)]), (.int .i64 n9)]
                                                                                                                (fun v116 => TUP v116 fun q118 => HD q118 fun v119 r120 => AGG v119 fun q121 => HD q121 fun v122 r123 => TYI .i64 v122 fun n124 =>
                                                                                                                  HD r123 fun v125 r126 => TYI .i64 v125 fun n127 =>
                                                                                                                    NL r126 <|
                                                                                                                      HD r120 fun v128 r129 => TYI .i64 v128 fun n130 =>
                                                                                                                        NL r129 <|
                                                                                                                          NEWZ Pg 29 fun B131 =>
                                                                                                                            WR (Addr.add ⟨B131, 0, none⟩ 0) (.int .i64 n124) <|
                                                                                                                              WR (Addr.add ⟨B131, 0, none⟩ 1) (.int .i64 n127) <|
                                                                                                                                RDI .i64 (Addr.add ⟨B11, 0, none⟩ 0) fun n132 =>
                                                                                                                                  RDI .i64 (Addr.add ⟨B11, 0, none⟩ 1) fun n133 =>
                                                                                                                                    RDL (Addr.add ⟨B11, 0, none⟩ 2) fun x134 l135 c136 =>
                                                                                                                                      RDL (Addr.add ⟨B11, 0, none⟩ 3) fun x137 l138 c139 =>
                                                                                                                                        CALL Pg W F_ref10_Place [(.agg #[(.int .i64 n132), (.int .i64 n133), (.slice x134 l135 c136), (.slice x137 l138 c139)]), (.int .i64 n9)]
                                                                                                                                          (fun v140 => TUP v140 fun q142 => HD q142 fun v143 r144 => AGG v143 fun q145 => HD q145 fun v146 r147 => TYI .i64 v146 fun n148 =>
                                                                                                                                            HD r147 fun v149 r150 => TYI .i64 v149 fun n151 =>
                                                                                                                                              NL r150 <|
                                                                                                                                                HD r144 fun v152 r153 => TYI .i64 v152 fun n154 =>
                                                                                                                                                  NL r153 <|
                                                                                                                                                    NEWZ Pg 29 fun B155 =>
                                                                                                                                                      WR (Addr.add ⟨B155, 0, none⟩ 0) (.int .i64 n148) <|
                                                                                                                                                        WR (Addr.add ⟨B155, 0, none⟩ 1) (.int .i64 n151) <|
                                                                                                                                                          RDI .i64 (Addr.add ⟨B11, 0, none⟩ 0) fun n156 =>
                                                                                                                                                            RDI .i64 (Addr.add ⟨B11, 0, none⟩ 1) fun n157 =>
                                                                                                                                                              RDL (Addr.add ⟨B11, 0, none⟩ 2) fun x158 l159 c160 =>
                                                                                                                                                                RDL (Addr.add ⟨B11, 0, none⟩ 3) fun x161 l162 c163 =>
                                                                                                                                                                  CALL Pg W F_rank_Winners [(.agg #[(.int .i64 n156), (.int .i64 n157), (.slice x158 l159 c160), (.slice x161 l162 c163)])]
                                                                                                                                                                    (fun v164 => TUP v164 fun q166 => HD q166 fun v167 r168 => TYI .i64 v167 fun n169 =>
                                                                                                                                                                      HD r168 fun v170 r171 => TYI .i64 v170 fun n172 =>
                                                                                                                                                                        HD r171 fun v173 r174 => TYI .i64 v173 fun n175 =>
                                                                                                                                                                          NL r174 <|
                                                                                                                                                                            RDI .i64 (Addr.add ⟨B11, 0, none⟩ 0) fun n176 =>
                                                                                                                                                                              RDI .i64 (Addr.add ⟨B11, 0, none⟩ 1) fun n177 =>
                                                                                                                                                                                RDL (Addr.add ⟨B11, 0, none⟩ 2) fun x178 l179 c180 =>
                                                                                                                                                                                  RDL (Addr.add ⟨B11, 0, none⟩ 3) fun x181 l182 c183 =>
                                                                                                                                                                                    CALL Pg W F_ref10_Winners [(.agg #[(.int .i64 n176), (.int .i64 n177), (.slice x178 l179 c180), (.slice x181 l182 c183)])]
                                                                                                                                                                                      (fun v184 => TUP v184 fun q186 => HD q186 fun v187 r188 => TYI .i64 v187 fun n189 =>
                                                                                                                                                                                        HD r188 fun v190 r191 => TYI .i64 v190 fun n192 =>
                                                                                                                                                                                          HD r191 fun v193 r194 => TYI .i64 v193 fun n195 =>
                                                                                                                                                                                            NL r194 <|
                                                                                                                                                                                              RDI .i64 (Addr.add ⟨B11, 0, none⟩ 0) fun n196 =>
                                                                                                                                                                                                RDI .i64 (Addr.add ⟨B11, 0, none⟩ 1) fun n197 =>
                                                                                                                                                                                                  RDL (Addr.add ⟨B11, 0, none⟩ 2) fun x198 l199 c200 =>
                                                                                                                                                                                                    RDL (Addr.add ⟨B11, 0, none⟩ 3) fun x201 l202 c203 =>
                                                                                                                                                                                                      CALL Pg W F_rank_Equal [(.agg #[(.int .i64 n196), (.int .i64 n197), (.slice x198 l199 c200), (.slice x201 l202 c203)]), (.int .i64 n9), (.int .i64 n10)]
                                                                                                                                                                                                        (fun v204 => TUP v204 fun q206 => HD q206 fun v207 r208 => TYB v207 fun b209 =>
                                                                                                                                                                                                          HD r208 fun v210 r211 => TYI .i64 v210 fun n212 =>
                                                                                                                                                                                                            NL r211 <|
                                                                                                                                                                                                              RDI .i64 (Addr.add ⟨B11, 0, none⟩ 0) fun n213 =>
                                                                                                                                                                                                                RDI .i64 (Addr.add ⟨B11, 0, none⟩ 1) fun n214 =>
                                                                                                                                                                                                                  RDL (Addr.add ⟨B11, 0, none⟩ 2) fun x215 l216 c217 =>
                                                                                                                                                                                                                    RDL (Addr.add ⟨B11, 0, none⟩ 3) fun x218 l219 c220 =>
                                                                                                                                                                                                                      CALL Pg W F_ref10_Equal [(.agg #[(.int .i64 n213), (.int .i64 n214), (.slice x215 l216 c217), (.slice x218 l219 c220)]), (.int .i64 n9), (.int .i64 n10)]
                                                                                                                                                                                                                        (fun v221 => TUP v221 fun q223 => HD q223 fun v224 r225 => TYB v224 fun b226 =>
                                                                                                                                                                                                                          HD r225 fun v227 r228 => TYI .i64 v227 fun n229 =>
                                                                                                                                                                                                                            NL r228 <|
                                                                                                                                                                                                                              RDI .i64 (Addr.add ⟨B49, 0, none⟩ 0) fun n230 =>
                                                                                                                                                                                                                                RDI .i64 (Addr.add ⟨B49, 0, none⟩ 1) fun n231 =>
                                                                                                                                                                                                                                  RDI .i64 (Addr.add ⟨B73, 0, none⟩ 0) fun n232 =>
                                                                                                                                                                                                                                    RDI .i64 (Addr.add ⟨B73, 0, none⟩ 1) fun n233 =>
                                                                                                                                                                                                                                      BR ((n230 == n232) && (n231 == n233))
                                                                                                                                                                                                                                        (J_law10_RankReads_7 W R (n48 == n72) n87 n104 n90 n107 B131 B155 n130 n154 n169 n189 n172 n192 n175 n195 b209 b226 n212 n229)
                                                                                                                                                                                                                                        (J_law10_RankReads_7 W R false n87 n104 n90 n107 B131 B155 n130 n154 n169 n189 n172 n192 n175 n195 b209 b226 n212 n229))
                                                                                                                                                                                                                          (fun e222 => R (.panicked e222)))
                                                                                                                                                                                                          (fun e205 => R (.panicked e205)))
                                                                                                                                                                                        (fun e185 => R (.panicked e185)))
                                                                                                                                                                      (fun e165 => R (.panicked e165)))
                                                                                                                                            (fun e141 => R (.panicked e141)))
                                                                                                                  (fun e117 => R (.panicked e117)))
                                                                                                  (fun e100 => R (.panicked e100)))
                                                                                  (fun e83 => R (.panicked e83)))
                                                        (fun e59 => R (.panicked e59)))
                              (fun e35 => R (.panicked e35))))
                (fun e21 => R (.panicked e21))
theorem T_law10_RankReads_eq (W : World) (n1 : Int) (n2 : Int) (x3 : Option Addr) (l4 : Nat) (c5 : Nat) (x6 : Option Addr) (l7 : Nat) (c8 : Nat) (n9 : Int) (n10 : Int) (R : Ending → Hp → Prop) : vfun Pg W an_3 Try.f3 [(.agg #[(.int .i64 n1), (.int .i64 n2), (.slice x3 l4 c5), (.slice x6 l7 c8)]), (.int .i64 n9), (.int .i64 n10)] R = T_law10_RankReads W n1 n2 x3 l4 c5 x6 l7 c8 n9 n10 R := by kernel_rfl
theorem does_law10_RankReads (W : World) (n1 : Int) (n2 : Int) (x3 : Option Addr) (l4 : Nat) (c5 : Nat) (x6 : Option Addr) (l7 : Nat) (c8 : Nat) (n9 : Int) (n10 : Int) (R : Ending → Hp → Prop) (s : Hp) (h : T_law10_RankReads W n1 n2 x3 l4 c5 x6 l7 c8 n9 n10 R s) : Does Pg W F_law10_RankReads #[(.agg #[(.int .i64 n1), (.int .i64 n2), (.slice x3 l4 c5), (.slice x6 l7 c8)]), (.int .i64 n9), (.int .i64 n10)] s R :=
  does_of_vfun Pg W an_3 Try.func3 rfl (by kernel_rfl) (by rw [T_law10_RankReads_eq]; exact h)
end Go.Proofs.Ytkgcbfbbcaajpaa.G

/- The document's functions of layer 10: Equal; the statement RankReads. -/
set_option linter.unusedSimpArgs false
set_option linter.unusedVariables false
set_option maxRecDepth 20000
namespace Go.Proofs.Ytkgcbfbbcaajpaa.G
open Go.V
section
variable {W : World} {K : VK} {E : List PanicEntry → Hp → Prop} {s : Hp} {T : Tb}
def eqK' (T : Tb) (i j k : Nat) : Bool := decide (offT T i = offT T j) && (List.range k).all (ovl T i j)
theorem eqK_succ (i j k : Nat) : eqK' T i j (k + 1) = (eqK' T i j k && ovl T i j k) := by
  unfold eqK'
  rw [List.range_succ, List.all_append]
  simp [Bool.and_assoc]
theorem f_Equal {x y : Option Addr} {c c' : Nat} {a b : Int} (hx : RowAt s x (ints T.off)) (hy : ScAt s y T.sc) (hlo : T.off.length ≤ 100000) (h : ∀ s', Ext s s' → K (.tuple #[.bool (eqR T a b).1, .int .i64 (eqR T a b).2]) s') :
    CALL Pg W F_ref10_Equal [.agg #[.int .i64 T.men, .int .i64 T.sheets, .slice x T.off.length c, .slice y T.sc.length c'], .int .i64 a, .int .i64 b] K E s := by
  refine does_ref10_Equal W T.men T.sheets x T.off.length c y T.sc.length c' a b _ s ?_
  unfold T_ref10_Equal
  refine NEW_rule fun s1 e1 z1 n1 _ => ?_
  have c0 := (n1 0 _ rfl).cell
  have c1 := (n1 1 _ rfl).cell
  have c2 := (n1 2 _ rfl).cell
  have c3 := (n1 3 _ rfl).cell
  refine ⟨_, c0, _, c1, _, _, _, c2, _, _, _, c3, _, c0, _, c1, _, _, _, c2, _, _, _, c3, ?_⟩
  have j0 : ∀ (t : Hp) (q : Bool), Ext s1 t → (okT T = true → q = decide (isM T a ∧ isM T b)) → J_ref10_Equal_0 W (endK K E) T.men T.sheets x T.off.length c y T.sc.length c' q s.size a b t := by
    intro t q et hq
    have e0t := e1.trans et
    unfold J_ref10_Equal_0
    refine f_check (hx.ext e0t) (hy.ext e0t) hlo fun t2 f2 => ?_
    try simp only [TUP_mk, AGG_mk, HD_mk, NL_mk, TYI_mk, TYB_mk, TYP_mk, TYL_mk, TYS_mk, TYM_mk, SO_mk, NX_mk, endK_mk, endK_mk', add_0]
    have et2 := et.trans f2
    have e0t2 := e1.trans et2
    by_cases hok : okT T = true
    · by_cases hm : isM T a ∧ isM T b
      · have hbt : q = true := by rw [hq hok]; exact decide_eq_true hm
        have hc : (if okT T = true then (if q = true then (0 : Int) else 2) else 1) = 0 := by rw [if_pos hok, if_pos hbt]
        rw [hc]
        refine BR_ne (fun hh => absurd rfl hh) (fun _ => ?_)
        obtain ⟨i, rfl⟩ := Int.eq_ofNat_of_zero_le hm.1.1
        obtain ⟨j, rfl⟩ := Int.eq_ofNat_of_zero_le hm.2.1
        have hr : eqR T i j = (eqP T i j, 0) := by unfold eqR; rw [hok, if_pos rfl, if_pos hm]; rfl
        rw [hr] at h
        have vd := okT_vd hok
        have hlen := vd.len
        have hm5 := vd.m5
        obtain ⟨h3, hsh, _, _, h30, _⟩ := okT_iff.1 hok
        have hmm : ((T.m : Nat) : Int) = T.sheets := by unfold Tb.m; omega
        have hin : i < T.n := by have h2 := hm.1.2; unfold Tb.n; omega
        have hjn : j < T.n := by have h2 := hm.2.2; unfold Tb.n; omega
        have hx2 := hx.ext e0t2
        obtain ⟨p1, hp1, g1⟩ := row_int hx2 (show i < T.off.length by omega)
        obtain ⟨p2, hp2, g2⟩ := row_int hx2 (show j < T.off.length by omega)
        have ti : ((i : Int)).toNat = i := by omega
        have tj : ((j : Int)).toNat = j := by omega
        refine ⟨_, _, _, et2.cell c2, p1, hp1, ⟨by omega, by omega⟩, _, by rw [ti]; exact g1, _, _, _, et2.cell c2, p2, hp2, ⟨by omega, by omega⟩, _, by rw [tj]; exact g2, ?_⟩
        have h0 : (T.off.getD i 0 == T.off.getD j 0) = eqK' T i j 0 := by unfold eqK' offT; rw [Bool.beq_eq_decide_eq]; simp
        dsimp only
        rw [h0]
        refine L_ref10_Equal_0_rule W _ i j ⟨s.size, 0, none⟩ (fun q n t' => Ext s1 t' ∧ ∃ k : Nat, k ≤ T.m ∧ n = k ∧ q = eqK' T i j k) (fun _ n _ => (T.m - n).toNat) _ 0 t2 ⟨et2, 0, by omega, rfl, rfl⟩ ?_
        rintro q1 n98 u ⟨eu, k, hk, rfl, rfl⟩
        by_cases hkm : k < T.m
        · have hw : IntKind.i64.wrap ((k : Int) + 1) = ((k + 1 : Nat) : Int) := by rw [wrap_i64 (by omega) (by omega)]; rfl
          have hms : ((T.m : Int) - IntKind.i64.wrap ((k : Int) + 1)).toNat < ((T.m : Int) - k).toNat := by rw [hw]; omega
          refine f_Equal_in (hx.ext e1) (hy.ext e1) h30 (by omega) c0 c1 c2 c3 eu fun t3 B C e3 o0 o1 p0 p1 => ?_
          have hs := eqK_succ (T := T) i j k
          unfold J_ref10_Equal_2
          refine BR_bool (fun hh => ?_) (fun hh => ?_)
          · refine ⟨_, o0.cell, _, p0.cell, _, o1.cell, _, p1.cell, ?_⟩
            unfold J_ref10_Equal_1
            refine ⟨rfl, _, _, rfl, ⟨e3, k + 1, by omega, hw, ?_⟩, hms⟩
            rw [hs, hh, Bool.true_and]
            have v1 := pts_in vd ((i : Int), (k : Int))
            have v2 := pts_in vd ((j : Int), (k : Int))
            have hov : ovl T i j k = !(decide ((pts (prs T) ((i : Int), (k : Int))).1 > (pts (prs T) ((j : Int), (k : Int))).2) || decide ((pts (prs T) ((j : Int), (k : Int))).1 > (pts (prs T) ((i : Int), (k : Int))).2)) := rfl
            rw [hov]
            generalize (pts (prs T) ((i : Int), (k : Int))).1 = A0 at *
            generalize (pts (prs T) ((i : Int), (k : Int))).2 = A1 at *
            generalize (pts (prs T) ((j : Int), (k : Int))).1 = B0 at *
            generalize (pts (prs T) ((j : Int), (k : Int))).2 = B1 at *
            by_cases ha : A0 > B1
            · rw [decide_eq_true ha]
              refine decide_eq_false ?_
              split <;> split <;> omega
            · rw [decide_eq_false ha]
              by_cases hb : B0 > A1
              · rw [decide_eq_true hb]
                refine decide_eq_false ?_
                split <;> split <;> omega
              · rw [decide_eq_false hb]
                refine decide_eq_true ?_
                split <;> split <;> omega
          · unfold J_ref10_Equal_1
            exact ⟨rfl, _, _, rfl, ⟨e3, k + 1, by omega, hw, by rw [hs, hh, Bool.false_and]⟩, hms⟩
        · have hkm' : k = T.m := by omega
          subst hkm'
          have hP : eqP T i j = eqK' T i j T.m := by unfold eqP eqK'; rw [Bool.and_comm]
          unfold B_ref10_Equal_0
          refine ⟨_, eu.cell c1, ?_⟩
          refine BR_dec (fun hh => by omega) (fun _ => ?_)
          have h' := h u (e1.trans eu)
          rw [hP] at h'
          refine BR_bool (fun hh => ?_) (fun hh => ?_)
          · rw [hh] at h'; exact h'
          · have hij : ((i : Int) == (j : Int)) = false := by
              rw [beq_eq_false_iff_ne]
              intro hij
              have hij' : i = j := by omega
              subst hij'
              have : eqK' T i i T.m = true := by
                unfold eqK'
                rw [decide_eq_true rfl, Bool.true_and]
                refine List.all_eq_true.2 fun q _ => ?_
                have v1 := pts_in vd ((i : Int), (q : Int))
                unfold ovl
                rw [decide_eq_false (by omega)]; rfl
              rw [this] at hh; cases hh
            rw [hij]
            rw [hh] at h'; exact h'
      · have hbf : q = false := by rw [hq hok]; exact decide_eq_false hm
        have hc : (if okT T = true then (if q = true then (0 : Int) else 2) else 1) = 2 := by rw [if_pos hok, hbf]; rfl
        rw [hc]
        refine BR_ne (fun _ => ?_) (fun hh => absurd hh (by decide))
        have hr : eqR T a b = (false, 2) := by unfold eqR; rw [hok, if_pos rfl, if_neg hm]
        rw [hr] at h
        exact h t2 e0t2
    · have hc : (if okT T = true then (if q = true then (0 : Int) else 2) else 1) = 1 := by rw [if_neg hok]
      rw [hc]
      refine BR_ne (fun _ => ?_) (fun hh => absurd hh (by decide))
      have hr : eqR T a b = (false, 1) := by unfold eqR; rw [if_neg hok]
      rw [hr] at h
      exact h t2 e0t2
  refine f_Man fun s3 q1 e3 hb => ?_
  try simp only [TUP_mk, AGG_mk, HD_mk, NL_mk, TYI_mk, TYB_mk, TYP_mk, TYL_mk, TYS_mk, TYM_mk, SO_mk, NX_mk, endK_mk, endK_mk', add_0]
  refine ⟨⟨_, e3.cell c0, _, e3.cell c1, _, _, _, e3.cell c2, _, _, _, e3.cell c3, rfl⟩, ?_⟩
  refine BR_bool (fun hq => ?_) (fun hq => ?_)
  · refine ⟨_, e3.cell c0, _, e3.cell c1, _, _, _, e3.cell c2, _, _, _, e3.cell c3, ?_⟩
    refine f_Man fun s4 q2 e4 hb2 => ?_
    try simp only [TUP_mk, AGG_mk, HD_mk, NL_mk, TYI_mk, TYB_mk, TYP_mk, TYL_mk, TYS_mk, TYM_mk, SO_mk, NX_mk, endK_mk, endK_mk', add_0]
    have e34 := e3.trans e4
    refine ⟨⟨_, e34.cell c0, _, e34.cell c1, _, _, _, e34.cell c2, _, _, _, e34.cell c3, rfl⟩, ?_⟩
    refine j0 s4 q2 e34 fun hok => ?_
    have h1 : isM T a := of_decide_eq_true ((hb hok) ▸ hq)
    rw [hb2 hok]
    congr 1
    apply propext
    exact ⟨fun h2 => ⟨h1, h2⟩, fun h2 => h2.2⟩
  · refine j0 s3 false e3 fun hok => ?_
    have h1 : ¬ isM T a := of_decide_eq_false ((hb hok) ▸ hq)
    exact (decide_eq_false (fun h2 => h1 h2.1)).symm
end
end Go.Proofs.Ytkgcbfbbcaajpaa.G

/- The statement RankReads. -/
set_option linter.unusedSimpArgs false
set_option linter.unusedVariables false
set_option maxRecDepth 20000
namespace Go.Proofs.Ytkgcbfbbcaajpaa.G
open Go.V
section
variable {W : World} {K : VK} {E : List PanicEntry → Hp → Prop} {s : Hp} {T : Tb}
theorem c_far {x y : Option Addr} {c c' : Nat} (h : ∀ s' b, Ext s s' → (b = false → T.off.length ≤ 40 ∧ T.sc.length ≤ 100) → K (.bool b) s') :
    CALL Pg W F_law10_far [.agg #[.int .i64 T.men, .int .i64 T.sheets, .slice x T.off.length c, .slice y T.sc.length c']] K E s := by
  refine does_law10_far W T.men T.sheets x T.off.length c y T.sc.length c' _ s ?_
  unfold T_law10_far
  refine NEW_rule fun s1 e1 z1 n1 _ => ?_
  refine ⟨_, _, _, (n1 2 _ rfl).cell, ?_⟩
  refine BR_dec (fun h1 => h s1 true e1 (fun hh => by cases hh)) (fun h1 => ?_)
  refine ⟨_, _, _, (n1 3 _ rfl).cell, ?_⟩
  exact h s1 _ e1 (fun hh => by have := of_decide_eq_false hh; omega)
theorem c_awake' {s0 : Hp} (e : Ext s0 s) (h : ∀ s', Ext s0 s' → K (.bool true) s') : CALL Pg W F_law10_awake [] K E s := c_awake fun s' e' => h s' (e.trans e')
theorem w_RankReads {x y : Option Addr} {c c' : Nat} {a b : Int} (hx : RowAt s x (ints T.off)) (hy : ScAt s y T.sc) (h : ∀ s', Ext s s' → K (.bool true) s') :
    CALL Pg W F_law10_RankReads [.agg #[.int .i64 T.men, .int .i64 T.sheets, .slice x T.off.length c, .slice y T.sc.length c'], .int .i64 a, .int .i64 b] K E s := by
  refine does_law10_RankReads W T.men T.sheets x T.off.length c y T.sc.length c' a b _ s ?_
  unfold T_law10_RankReads
  refine NEW_rule fun s1 e1 z1 n1 _ => ?_
  have c0 := (n1 0 _ rfl).cell
  have c1 := (n1 1 _ rfl).cell
  have c2 := (n1 2 _ rfl).cell
  have c3 := (n1 3 _ rfl).cell
  refine ⟨_, c0, _, c1, _, _, _, c2, _, _, _, c3, ?_⟩
  refine c_far fun s2 q e2 hq => ?_
  try simp only [TUP_mk, AGG_mk, HD_mk, NL_mk, TYI_mk, TYB_mk, TYP_mk, TYL_mk, TYS_mk, TYM_mk, SO_mk, NX_mk, endK_mk, endK_mk', add_0]
  refine BR_bool (fun hb => c_awake' e2 fun t et => h t (e1.trans et)) (fun hb => ?_)
  obtain ⟨h40, _⟩ := hq hb
  have hlo : T.off.length ≤ 100000 := by omega
  have rd : ∀ {t : Hp}, Ext s1 t → RowAt t x (ints T.off) ∧ ScAt t y T.sc := fun e => ⟨hx.ext (e1.trans e), hy.ext (e1.trans e)⟩
  refine ⟨_, e2.cell c0, _, e2.cell c1, _, _, _, e2.cell c2, _, _, _, e2.cell c3, ?_⟩
  refine c_Sum (rd e2).1 (rd e2).2 hlo fun s3 e3 => ?_
  unfold spanV
  try simp only [TUP_mk, AGG_mk, HD_mk, NL_mk, TYI_mk, TYB_mk, TYP_mk, TYL_mk, TYS_mk, TYM_mk, SO_mk, NX_mk, endK_mk, endK_mk', add_0]
  refine NEWZ_rule zc_29 fun s4 e4 z4 n4 => ?_
  refine wr2 rfl rfl (new2 n4) fun s5 k5 z5 a0 a1 => ?_
  have e15 := e2.trans (e3.trans (ext_own e4 (Nat.le_refl _) k5))
  refine ⟨_, e15.cell c0, _, e15.cell c1, _, _, _, e15.cell c2, _, _, _, e15.cell c3, ?_⟩
  refine f_Sum (rd e15).1 (rd e15).2 hlo fun s6 e6 => ?_
  unfold spanV
  try simp only [TUP_mk, AGG_mk, HD_mk, NL_mk, TYI_mk, TYB_mk, TYP_mk, TYL_mk, TYS_mk, TYM_mk, SO_mk, NX_mk, endK_mk, endK_mk', add_0]
  refine NEWZ_rule zc_29 fun s7 e7 z7 n7 => ?_
  refine wr2 rfl rfl (new2 n7) fun s8 k8 z8 b0 b1 => ?_
  have e58 := e6.trans (ext_own e7 (Nat.le_refl _) k8)
  have e18 := e15.trans e58
  refine ⟨_, e18.cell c0, _, e18.cell c1, _, _, _, e18.cell c2, _, _, _, e18.cell c3, ?_⟩
  refine c_Before (rd e18).1 (rd e18).2 hlo fun s9 e9 => ?_
  try simp only [TUP_mk, AGG_mk, HD_mk, NL_mk, TYI_mk, TYB_mk, TYP_mk, TYL_mk, TYS_mk, TYM_mk, SO_mk, NX_mk, endK_mk, endK_mk', add_0]
  have e19 := e18.trans e9
  refine ⟨_, e19.cell c0, _, e19.cell c1, _, _, _, e19.cell c2, _, _, _, e19.cell c3, ?_⟩
  refine f_Before (rd e19).1 (rd e19).2 hlo fun t1 f1 => ?_
  try simp only [TUP_mk, AGG_mk, HD_mk, NL_mk, TYI_mk, TYB_mk, TYP_mk, TYL_mk, TYS_mk, TYM_mk, SO_mk, NX_mk, endK_mk, endK_mk', add_0]
  have g1 := e19.trans f1
  refine ⟨_, g1.cell c0, _, g1.cell c1, _, _, _, g1.cell c2, _, _, _, g1.cell c3, ?_⟩
  refine c_Place (rd g1).1 (rd g1).2 hlo fun t2 f2 => ?_
  unfold spanV
  try simp only [TUP_mk, AGG_mk, HD_mk, NL_mk, TYI_mk, TYB_mk, TYP_mk, TYL_mk, TYS_mk, TYM_mk, SO_mk, NX_mk, endK_mk, endK_mk', add_0]
  refine NEWZ_rule zc_29 fun t3 f3 y3 m3 => ?_
  refine wr2 rfl rfl (new2 m3) fun t4 k4 y4 p0 p1 => ?_
  have g4 := g1.trans (f2.trans (ext_own f3 (Nat.le_refl _) k4))
  refine ⟨_, g4.cell c0, _, g4.cell c1, _, _, _, g4.cell c2, _, _, _, g4.cell c3, ?_⟩
  refine f_Place (rd g4).1 (rd g4).2 hlo fun t5 f5 => ?_
  unfold spanV
  try simp only [TUP_mk, AGG_mk, HD_mk, NL_mk, TYI_mk, TYB_mk, TYP_mk, TYL_mk, TYS_mk, TYM_mk, SO_mk, NX_mk, endK_mk, endK_mk', add_0]
  refine NEWZ_rule zc_29 fun t6 f6 y6 m6 => ?_
  refine wr2 rfl rfl (new2 m6) fun t7 k7 y7 q0 q1 => ?_
  have f47 := f5.trans (ext_own f6 (Nat.le_refl _) k7)
  have g7 := g4.trans f47
  refine ⟨_, g7.cell c0, _, g7.cell c1, _, _, _, g7.cell c2, _, _, _, g7.cell c3, ?_⟩
  refine c_Winners (rd g7).1 (rd g7).2 hlo fun t8 f8 => ?_
  try simp only [TUP_mk, AGG_mk, HD_mk, NL_mk, TYI_mk, TYB_mk, TYP_mk, TYL_mk, TYS_mk, TYM_mk, SO_mk, NX_mk, endK_mk, endK_mk', add_0]
  have g8 := g7.trans f8
  refine ⟨_, g8.cell c0, _, g8.cell c1, _, _, _, g8.cell c2, _, _, _, g8.cell c3, ?_⟩
  refine f_Winners (rd g8).1 (rd g8).2 hlo fun t9 f9 => ?_
  try simp only [TUP_mk, AGG_mk, HD_mk, NL_mk, TYI_mk, TYB_mk, TYP_mk, TYL_mk, TYS_mk, TYM_mk, SO_mk, NX_mk, endK_mk, endK_mk', add_0]
  have g9 := g8.trans f9
  refine ⟨_, g9.cell c0, _, g9.cell c1, _, _, _, g9.cell c2, _, _, _, g9.cell c3, ?_⟩
  refine c_Equal (rd g9).1 (rd g9).2 hlo fun u1 v1 => ?_
  try simp only [TUP_mk, AGG_mk, HD_mk, NL_mk, TYI_mk, TYB_mk, TYP_mk, TYL_mk, TYS_mk, TYM_mk, SO_mk, NX_mk, endK_mk, endK_mk', add_0]
  have h1 := g9.trans v1
  refine ⟨_, h1.cell c0, _, h1.cell c1, _, _, _, h1.cell c2, _, _, _, h1.cell c3, ?_⟩
  refine f_Equal (rd h1).1 (rd h1).2 hlo fun u2 v2 => ?_
  try simp only [TUP_mk, AGG_mk, HD_mk, NL_mk, TYI_mk, TYB_mk, TYP_mk, TYL_mk, TYS_mk, TYM_mk, SO_mk, NX_mk, endK_mk, endK_mk', add_0]
  have h2 := h1.trans v2
  have w7 := f8.trans (f9.trans (v1.trans v2))
  have w4 := f47.trans w7
  have w8 := e9.trans (f1.trans (f2.trans ((ext_own f3 (Nat.le_refl _) k4).trans w4)))
  have w5 := e58.trans w8
  refine ⟨_, (w5.own a0).cell, _, (w5.own a1).cell, _, (w8.own b0).cell, _, (w8.own b1).cell, ?_⟩
  refine BR_bool (fun _ => ?_) (fun hh => by simp at hh)
  unfold J_law10_RankReads_7
  refine BR_eq (fun _ => ?_) (fun hh => absurd rfl hh)
  unfold J_law10_RankReads_6
  refine BR_eq (fun _ => ?_) (fun hh => absurd rfl hh)
  unfold J_law10_RankReads_5
  refine BR_eq (fun _ => ?_) (fun hh => absurd rfl hh)
  refine ⟨_, (w4.own p0).cell, _, (w4.own p1).cell, _, (w7.own q0).cell, _, (w7.own q1).cell, ?_⟩
  unfold J_law10_RankReads_4
  refine BR_bool (fun _ => ?_) (fun hh => by simp at hh)
  unfold J_law10_RankReads_3
  refine BR_eq (fun _ => ?_) (fun hh => absurd rfl hh)
  unfold J_law10_RankReads_2
  refine BR_eq (fun _ => ?_) (fun hh => absurd rfl hh)
  unfold J_law10_RankReads_1
  refine BR_eq (fun _ => ?_) (fun hh => absurd rfl hh)
  unfold J_law10_RankReads_0
  refine BR_eq (fun _ => ?_) (fun hh => absurd rfl hh)
  refine BR_eq (fun _ => ?_) (fun hh => absurd rfl hh)
  refine BR_eq (fun _ => ?_) (fun hh => absurd rfl hh)
  exact c_awake' h2 fun t et => h t (e1.trans et)
end
end Go.Proofs.Ytkgcbfbbcaajpaa.G

/- Shorter ways through texts over the visible heap: known conditions, counting, variables that are made and written. -/
set_option linter.unusedSimpArgs false
set_option linter.unusedVariables false
set_option maxRecDepth 20000
namespace Go.V
theorem BR_t (x y : Hp → Prop) : BR true x y = x := rfl
theorem BR_f (x y : Hp → Prop) : BR false x y = y := rfl
theorem wrap_succ {k : Nat} (h : k < 1000000000) : IntKind.i64.wrap ((k : Int) + 1) = ((k + 1 : Nat) : Int) := by rw [wrap_i64 (by omega) (by omega)]; rfl
theorem ms_succ {k n : Nat} (h : k < n) (h2 : n ≤ 1000000000) : ((n : Int) - IntKind.i64.wrap ((k : Int) + 1)).toNat < ((n : Int) - (k : Int)).toNat := by rw [wrap_succ (by omega)]; omega
theorem toNat_nat (k : Nat) : ((k : Nat) : Int).toNat = k := Int.toNat_natCast k
theorem NNI_of {b : Int} {K : Hp → Prop} {s : Hp} (hb : 0 ≤ b) (h : K s) : NNI b K s := by
  obtain ⟨n, rfl⟩ := Int.eq_ofNat_of_zero_le hb
  exact h
section
variable {s s0 s' : Hp} {K : Hp → Prop}
/-- A write into a block that was made behind 's0'. -/
theorem ext_kp {b : Nat} (e : Ext s0 s) (h : s0.size ≤ b) (k : Kp (· = b) s s') : Ext s0 s' := ⟨Nat.le_trans e.1 k.1, fun q hq => by
  rw [k.2 q (Nat.lt_of_lt_of_le hq e.1) (fun hh => by have h2 : q = b := hh; omega)]; exact e.2 q hq⟩
theorem kp_nil {C : Nat → Prop} (e : Ext s0 s) (h : ∀ b, C b → s0.size ≤ b) (k : Kp C s s') : Ext s0 s' := ⟨Nat.le_trans e.1 k.1, fun q hq => by
  rw [k.2 q (Nat.lt_of_lt_of_le hq e.1) (fun hh => by have := h q hh; omega)]; exact e.2 q hq⟩
theorem wr1 {a : Addr} {v y : Value} (ha : Own s a y) (h0 : oneCell v = true) (h : ∀ s', Kp (· = a.block) s s' → s'.size = s.size → Own s' a v → K s') : WR a v K s :=
  WR_own ha h0 (h _ (Kp.setC (Kp.refl s) (.inl rfl)) (setC_size _ _ _) (own_set ha))
end
section
variable {P : Program} {s : Hp} {t : TypeId}
/-- A new variable of one cell that is written. -/
theorem nw1 {z0 v0 : Value} {K : Nat → Hp → Prop} (hz : zc P t = [z0]) (h0 : oneCell v0 = true) (h : ∀ s', Ext s s' → s'.size = s.size + 1 → Own s' ⟨s.size, 0, none⟩ v0 → K s.size s') :
    NEWZ P t (fun B => WR (Addr.add ⟨B, 0, none⟩ 0) v0 (K B)) s := by
  refine NEWZ_rule hz fun s1 e1 z1 n1 => ?_
  refine wr1 (a := ⟨s.size, 0, none⟩) (n1 0 _ rfl) h0 fun s2 k2 z2 o2 => ?_
  exact h s2 (ext_kp e1 (Nat.le_refl _) k2) (by omega) o2
/-- .. of more cells. -/
theorem nwN {cs vs : List Value} {K : Nat → Hp → Prop} (hz : zc P t = cs) (hl : vs.length = cs.length) (hv : ∀ v ∈ vs, oneCell v = true) (h : ∀ s', Ext s s' → s'.size = s.size + 1 → (∀ i (h : i < vs.length), Own s' ⟨s.size, i, none⟩ vs[i]) → K s.size s') :
    NEWZ P t (fun B => wrN vs ⟨B, 0, none⟩ 0 (K B)) s := by
  refine NEWZ_rule hz fun s1 e1 z1 n1 => ?_
  refine wrN_rule vs _ 0 _ s1 (fun i hi => ⟨cs[i]'(by omega), ?_⟩) hv fun s2 k2 z2 o2 _ => ?_
  · have := n1 i cs[i] (List.getElem?_eq_getElem (by omega))
    rw [add_nil, Nat.zero_add, Nat.zero_add]; exact this
  · refine h s2 (ext_kp e1 (Nat.le_refl _) k2) (by omega) fun i hi => ?_
    have := o2 i hi
    rw [add_nil, Nat.zero_add, Nat.zero_add] at this; exact this
theorem nw2 {z0 z1 v0 v1 : Value} {K : Nat → Hp → Prop} (hz : zc P t = [z0, z1]) (h0 : oneCell v0 = true) (h1 : oneCell v1 = true) (h : ∀ s', Ext s s' → s'.size = s.size + 1 → Own s' ⟨s.size, 0, none⟩ v0 → Own s' ⟨s.size, 1, none⟩ v1 → K s.size s') :
    NEWZ P t (fun B => WR (Addr.add ⟨B, 0, none⟩ 0) v0 (WR (Addr.add ⟨B, 0, none⟩ 1) v1 (K B))) s :=
  nwN (vs := [v0, v1]) hz rfl (by simp [h0, h1]) fun s' e z o => h s' e z (o 0 (by simp)) (o 1 (by simp))
theorem nw3 {z0 z1 z2 v0 v1 v2 : Value} {K : Nat → Hp → Prop} (hz : zc P t = [z0, z1, z2]) (h0 : oneCell v0 = true) (h1 : oneCell v1 = true) (h2 : oneCell v2 = true) (h : ∀ s', Ext s s' → s'.size = s.size + 1 → Own s' ⟨s.size, 0, none⟩ v0 → Own s' ⟨s.size, 1, none⟩ v1 → Own s' ⟨s.size, 2, none⟩ v2 → K s.size s') :
    NEWZ P t (fun B => WR (Addr.add ⟨B, 0, none⟩ 0) v0 (WR (Addr.add ⟨B, 0, none⟩ 1) v1 (WR (Addr.add ⟨B, 0, none⟩ 2) v2 (K B)))) s :=
  nwN (vs := [v0, v1, v2]) hz rfl (by simp [h0, h1, h2]) fun s' e z o => h s' e z (o 0 (by simp)) (o 1 (by simp)) (o 2 (by simp))
theorem nw4 {z0 z1 z2 z3 v0 v1 v2 v3 : Value} {K : Nat → Hp → Prop} (hz : zc P t = [z0, z1, z2, z3]) (h0 : oneCell v0 = true) (h1 : oneCell v1 = true) (h2 : oneCell v2 = true) (h3 : oneCell v3 = true) (h : ∀ s', Ext s s' → s'.size = s.size + 1 → Own s' ⟨s.size, 0, none⟩ v0 → Own s' ⟨s.size, 1, none⟩ v1 → Own s' ⟨s.size, 2, none⟩ v2 → Own s' ⟨s.size, 3, none⟩ v3 → K s.size s') :
    NEWZ P t (fun B => WR (Addr.add ⟨B, 0, none⟩ 0) v0 (WR (Addr.add ⟨B, 0, none⟩ 1) v1 (WR (Addr.add ⟨B, 0, none⟩ 2) v2 (WR (Addr.add ⟨B, 0, none⟩ 3) v3 (K B))))) s :=
  nwN (vs := [v0, v1, v2, v3]) hz rfl (by simp [h0, h1, h2, h3]) fun s' e z o => h s' e z (o 0 (by simp)) (o 1 (by simp)) (o 2 (by simp)) (o 3 (by simp))
/-- A new variable as it is. -/
theorem nz1 {v0 : Value} {K : Nat → Hp → Prop} (hz : zc P t = [v0]) (h : ∀ s', Ext s s' → s'.size = s.size + 1 → Own s' ⟨s.size, 0, none⟩ v0 → K s.size s') : NEWZ P t K s :=
  NEWZ_rule hz fun s1 e1 z1 n1 => h s1 e1 z1 (n1 0 _ rfl)
theorem nz2 {v0 v1 : Value} {K : Nat → Hp → Prop} (hz : zc P t = [v0, v1]) (h : ∀ s', Ext s s' → s'.size = s.size + 1 → Own s' ⟨s.size, 0, none⟩ v0 → Own s' ⟨s.size, 1, none⟩ v1 → K s.size s') : NEWZ P t K s :=
  NEWZ_rule hz fun s1 e1 z1 n1 => h s1 e1 z1 (n1 0 _ rfl) (n1 1 _ rfl)
theorem nz4 {v0 v1 v2 v3 : Value} {K : Nat → Hp → Prop} (hz : zc P t = [v0, v1, v2, v3]) (h : ∀ s', Ext s s' → s'.size = s.size + 1 → Own s' ⟨s.size, 0, none⟩ v0 → Own s' ⟨s.size, 1, none⟩ v1 → Own s' ⟨s.size, 2, none⟩ v2 → Own s' ⟨s.size, 3, none⟩ v3 → K s.size s') : NEWZ P t K s :=
  NEWZ_rule hz fun s1 e1 z1 n1 => h s1 e1 z1 (n1 0 _ rfl) (n1 1 _ rfl) (n1 2 _ rfl) (n1 3 _ rfl)
theorem ne1 {v0 : Value} {K : Nat → Hp → Prop} (h : ∀ s', Ext s s' → s'.size = s.size + 1 → Own s' ⟨s.size, 0, none⟩ v0 → K s.size s') : NEW t [v0] K s :=
  NEW_rule fun s1 e1 z1 n1 _ => h s1 e1 z1 (n1 0 _ rfl)
theorem ne2 {v0 v1 : Value} {K : Nat → Hp → Prop} (h : ∀ s', Ext s s' → s'.size = s.size + 1 → Own s' ⟨s.size, 0, none⟩ v0 → Own s' ⟨s.size, 1, none⟩ v1 → K s.size s') : NEW t [v0, v1] K s :=
  NEW_rule fun s1 e1 z1 n1 _ => h s1 e1 z1 (n1 0 _ rfl) (n1 1 _ rfl)
theorem ne4 {v0 v1 v2 v3 : Value} {K : Nat → Hp → Prop} (h : ∀ s', Ext s s' → s'.size = s.size + 1 → Own s' ⟨s.size, 0, none⟩ v0 → Own s' ⟨s.size, 1, none⟩ v1 → Own s' ⟨s.size, 2, none⟩ v2 → Own s' ⟨s.size, 3, none⟩ v3 → K s.size s') : NEW t [v0, v1, v2, v3] K s :=
  NEW_rule fun s1 e1 z1 n1 _ => h s1 e1 z1 (n1 0 _ rfl) (n1 1 _ rfl) (n1 2 _ rfl) (n1 3 _ rfl)
end
end Go.V
namespace Go.V
theorem MKS_rule {P : Program} {t : TypeId} {n : Nat} {z : Value} {K : Nat → Hp → Prop} {s : Hp} (hz : zc P t = [z]) (hn : n ≤ 100000) (h : ∀ s', Ext s s' → s'.size = s.size + 1 → (∀ i, i < n → Own s' ⟨s.size, i, none⟩ z) → K s.size s') : MKS P t (n : Int) (n : Int) K s := by
  refine ⟨⟨by omega, by omega, by omega⟩, ?_⟩
  rw [hz, Int.toNat_natCast]
  exact h _ (Ext.push (Ext.refl _)) (by simp) fun i hi => own_new (repL_getD z n i hi)
theorem IXS_nat {a : Addr} {l i es : Nat} {K : Addr → Hp → Prop} {s : Hp} (h : i < l) (hk : K (a.add (i * es)) s) : IXS (some a) l (i : Int) es K s := ⟨a, rfl, ⟨by omega, by omega⟩, hk⟩
end Go.V

/- Rank, in plain Lean: who surely is before whom, who can be; places; winners. -/
set_option linter.unusedSimpArgs false
set_option linter.unusedVariables false
set_option maxRecDepth 20000
namespace Go.Proofs.Ytkgcbfbbcaajpaa.G
open Go.V
/-! ### Rows -/
theorem gt_le {a b c : List Int} (hl : b.length = c.length) (h1 : aheadL a b = true) (h2 : aheadL c b = false) : aheadL a c = true := by
  cases h : aheadL b c with
  | true => exact ahead_trans _ _ _ h1 h
  | false => rw [ahead_tri _ _ hl h h2] at h1; exact h1
theorem le_gt {a b c : List Int} (hl : a.length = b.length) (h1 : aheadL b a = false) (h2 : aheadL b c = true) : aheadL a c = true := by
  cases h : aheadL a b with
  | true => exact ahead_trans _ _ _ h h2
  | false => rw [ahead_tri _ _ hl h h1]; exact h2
theorem gt_asym {a b : List Int} (h : aheadL a b = true) : aheadL b a = false := by
  cases h2 : aheadL b a with
  | false => rfl
  | true => have := ahead_trans _ _ _ h h2; rw [ahead_same] at this; cases this
theorem le_le {a b c : List Int} (hl : a.length = b.length) (h1 : aheadL a b = false) (h2 : aheadL b c = false) : aheadL a c = false := by
  cases h : aheadL a c with
  | false => rfl
  | true => have := le_gt hl.symm h1 h; rw [this] at h2; cases h2
/-! ### What somebody has -/
def lowR (T : Tb) (i : Nat) : List Int := rowL (pts (prs T)) false T.m (offT T i) i
def topR (T : Tb) (i : Nat) : List Int := rowL (pts (prs T)) true T.m (offT T i) i
theorem lowR_len (T : Tb) (i : Nat) : (lowR T i).length = T.m + 1 := rowL_len _ _ _ _ _
theorem topR_len (T : Tb) (i : Nat) : (topR T i).length = T.m + 1 := rowL_len _ _ _ _ _
def canT (T : Tb) (a b : Nat) : Bool := befP (pts (prs T)) true T.m T.off a b
theorem surT_eq (T : Tb) (a b : Nat) : surT T a b = (decide (a ≠ b) && aheadL (lowR T a) (topR T b)) := rfl
theorem canT_eq (T : Tb) (a b : Nat) : canT T a b = (decide (a ≠ b) && aheadL (topR T a) (lowR T b)) := rfl
theorem surT_iff {T : Tb} {a b : Nat} : surT T a b = true ↔ a ≠ b ∧ aheadL (lowR T a) (topR T b) = true := by rw [surT_eq]; simp
theorem canT_iff {T : Tb} {a b : Nat} : canT T a b = true ↔ a ≠ b ∧ aheadL (topR T a) (lowR T b) = true := by rw [canT_eq]; simp
theorem surT_self (T : Tb) (a : Nat) : surT T a a = false := by rw [surT_eq]; simp
theorem canT_self (T : Tb) (a : Nat) : canT T a a = false := by rw [canT_eq]; simp
theorem sur_not {T : Tb} {a b : Nat} (h : surT T a b = true) : canT T b a = false := by
  obtain ⟨h1, h2⟩ := surT_iff.1 h
  rw [canT_eq, gt_asym h2, Bool.and_false]
section
variable {T : Tb} (hok : okT T = true)
include hok
theorem low_top (i : Nat) : aheadL (lowR T i) (topR T i) = false := row_le fun k => (pts_in (okT_vd hok) k).2.1
theorem sur_can {a b : Nat} (h : surT T a b = true) : canT T a b = true := by
  obtain ⟨h1, h2⟩ := surT_iff.1 h
  exact canT_iff.2 ⟨h1, le_gt (by rw [topR_len, lowR_len]) (low_top hok a) (gt_le (by rw [topR_len, lowR_len]) h2 (low_top hok b))⟩
theorem sur_asym {a b : Nat} (h : surT T a b = true) : surT T b a = false := by
  cases h2 : surT T b a with
  | false => rfl
  | true => have := sur_can hok h2; rw [sur_not h] at this; cases this
theorem sur_trans {a b c : Nat} (h : surT T a b = true) (h' : surT T b c = true) : surT T a c = true := by
  obtain ⟨h1, h2⟩ := surT_iff.1 h
  obtain ⟨h3, h4⟩ := surT_iff.1 h'
  refine surT_iff.2 ⟨fun e => ?_, ahead_trans _ _ _ (gt_le (by rw [topR_len, lowR_len]) h2 (low_top hok b)) h4⟩
  subst e
  rw [sur_asym hok h] at h'; cases h'
theorem can_sur {o a b : Nat} (h : canT T o a = true) (h' : surT T a b = true) : canT T o b = true := by
  obtain ⟨h1, h2⟩ := canT_iff.1 h
  obtain ⟨h3, h4⟩ := surT_iff.1 h'
  refine canT_iff.2 ⟨fun e => ?_, ahead_trans _ _ _ h2 (gt_le (by rw [topR_len, lowR_len]) h4 (low_top hok b))⟩
  subst e
  rw [sur_not h'] at h; cases h
theorem sur_of_sur {o a b : Nat} (h : surT T o a = true) (h' : surT T a b = true) : surT T o b = true := sur_trans hok h h'
end
/-! ### Counts -/
theorem cntB_mono {f g : Nat → Bool} : ∀ (n : Nat), (∀ o, o < n → f o = true → g o = true) → cntB f n ≤ cntB g n
  | 0, _ => by simp [cntB]
  | n + 1, h => by
    rw [cntB_succ, cntB_succ]
    have ih := cntB_mono (f := f) (g := g) n fun o ho => h o (by omega)
    have h0 := h n (by omega)
    cases hf : f n <;> cases hg : g n <;> simp_all <;> omega
theorem cntB_lt {f g : Nat → Bool} {a : Nat} (ha : f a = false) (hg : g a = true) : ∀ (n : Nat), a < n → (∀ o, o < n → f o = true → g o = true) → cntB f n < cntB g n
  | 0, h, _ => by omega
  | n + 1, hn, h => by
    rw [cntB_succ, cntB_succ]
    by_cases e : a = n
    · subst e
      have := cntB_mono (f := f) (g := g) a fun o ho => h o (by omega)
      rw [ha, hg]; simp; omega
    · have ih := cntB_lt ha hg n (by omega) fun o ho => h o (by omega)
      have h0 := h n (by omega)
      cases hf : f n <;> cases hg : g n <;> simp_all <;> omega
theorem cntB_ext {f g : Nat → Bool} {n : Nat} (h : ∀ o, o < n → f o = g o) : cntB f n = cntB g n := by
  unfold cntB
  congr 1
  exact List.filter_congr fun o ho => h o (List.mem_range.1 ho)
theorem cntB_zero {f : Nat → Bool} {n : Nat} : cntB f n = 0 ↔ ∀ o, o < n → f o = false := by
  unfold cntB
  rw [List.length_eq_zero_iff, List.filter_eq_nil_iff]
  constructor
  · intro h o ho; have := h o (List.mem_range.2 ho); simpa using this
  · intro h o ho; rw [h o (List.mem_range.1 ho)]; simp
/-! ### Places -/
def plcT (T : Tb) (i : Nat) : Int × Int := plcP (pts (prs T)) T.m T.n T.off i
theorem plcT_eq (T : Tb) (i : Nat) : plcT T i = ((1 : Int) + ((cntB (fun o => surT T o i) T.n : Nat) : Int), (1 : Int) + ((cntB (fun o => canT T o i) T.n : Nat) : Int)) := rfl
theorem befN_eq (T : Tb) (a b : Nat) : befN T a b = if surT T a b then 2 else if canT T a b then 1 else 0 := rfl
theorem befN_lim (T : Tb) (a b : Nat) : 0 ≤ befN T a b ∧ befN T a b ≤ 2 := by
  rw [befN_eq]; split
  · omega
  · split <;> omega
theorem befN_two {T : Tb} {a b : Nat} : befN T a b = 2 ↔ surT T a b = true := by
  rw [befN_eq]
  cases surT T a b with
  | true => simp
  | false => cases canT T a b <;> simp
theorem surF_no {T : Tb} {i o : Nat} (h : surF T i = true) (ho : o < T.n) : canT T o i = false := by
  have h1 : (plcT T i).2 = 1 := of_decide_eq_true h
  rw [plcT_eq] at h1
  have h2 : cntB (fun o => canT T o i) T.n = 0 := by have : (1 : Int) + _ = 1 := h1; omega
  exact cntB_zero.1 h2 o ho
section
variable {T : Tb} (hok : okT T = true)
include hok
theorem befN_zero {a b : Nat} : befN T a b = 0 ↔ canT T a b = false := by
  rw [befN_eq]
  cases h : surT T a b with
  | true => simp [sur_can hok h]
  | false => cases canT T a b <;> simp
theorem plc_lo {a b : Nat} (ha : a < T.n) (h : surT T a b = true) : (plcT T a).1 < (plcT T b).1 := by
  rw [plcT_eq, plcT_eq]
  have := cntB_lt (f := fun o => surT T o a) (g := fun o => surT T o b) (surT_self T a) h T.n ha fun o _ ho => sur_trans hok ho h
  show 1 + _ < 1 + _
  omega
theorem plc_hi {a b : Nat} (ha : a < T.n) (h : surT T a b = true) : (plcT T a).2 < (plcT T b).2 := by
  rw [plcT_eq, plcT_eq]
  have := cntB_lt (f := fun o => canT T o a) (g := fun o => canT T o b) (canT_self T a) (sur_can hok h) T.n ha fun o _ ho => can_sur hok ho h
  show 1 + _ < 1 + _
  omega
theorem plc_le (i : Nat) : (plcT T i).1 ≤ (plcT T i).2 := by
  rw [plcT_eq]
  have := cntB_mono (f := fun o => surT T o i) (g := fun o => canT T o i) T.n fun o _ ho => sur_can hok ho
  show 1 + _ ≤ 1 + _
  omega
theorem surF_can {i : Nat} (h : surF T i = true) : canF T i = true := by
  have h1 := of_decide_eq_true h
  have h2 := plc_le hok i
  have h3 : (1 : Int) ≤ (plcT T i).1 := by rw [plcT_eq]; show (1 : Int) ≤ 1 + _; omega
  have h4 : (plcT T i).2 = 1 := h1
  exact decide_eq_true (show (plcT T i).1 = 1 by omega)
theorem canF_ex : ∃ i, i < T.n ∧ canF T i = true := by
  have vd := okT_vd hok
  have n1 := vd.n1
  obtain ⟨i, hf, hi⟩ := first_ex hok (left := List.range T.n) (by intro e; have := congrArg List.length e; simp at this; omega) fun o ho => List.mem_range.1 ho
  refine ⟨i, List.mem_range.1 hi, decide_eq_true ?_⟩
  show (plcT T i).1 = 1
  have := List.find?_some hf
  unfold isFirst at this
  simp only [Bool.and_eq_true] at this
  have hh : held T (List.range T.n) i = false := by simpa using this.2
  rw [plcT_eq, cntB_zero.2 fun o ho => ?_]
  · rfl
  · unfold held at hh
    have := List.any_eq_false.1 hh o (List.mem_range.2 ho)
    simpa using this
end
/-! ### Sets as numbers -/
theorem bits_pos {f : Nat → Bool} {n i : Nat} (hi : i < n) (h : f i = true) : 0 < setOf' f n := by
  rcases Nat.eq_zero_or_pos (setOf' f n) with h0 | h0
  · have := setOf_bit f n i
    rw [h0, h, decide_eq_true hi] at this
    simp at this
  · exact h0
theorem shr_zero : ∀ w : Nat, w < 256 → ∀ n : Nat, n ≤ 8 → w < 2 ^ n → shrv .i64 (w : Int) (n : Int) = 0 := by
  have h : ((List.range 256).all fun (l : Nat) => (List.range 9).all fun (m : Nat) => decide (2 ^ m ≤ l) || decide (shrv .i64 (l : Int) (m : Int) = 0)) = true := by decide +kernel
  intro w hl n hn hw
  have h1 := List.all_eq_true.1 h w (by simpa using hl)
  have h2 := List.all_eq_true.1 h1 n (by simp; omega)
  rw [decide_eq_false (by omega)] at h2
  simpa using h2
theorem bit_is : ∀ w : Nat, w < 256 → ∀ n : Nat, n < 8 → (andv .i64 (shrv .i64 (w : Int) (n : Int)) 1 == 1) = w.testBit n := by
  have h : ((List.range 256).all fun (l : Nat) => (List.range 8).all fun (m : Nat) => decide ((andv .i64 (shrv .i64 (l : Int) (m : Int)) 1 == 1) = l.testBit m)) = true := by decide +kernel
  intro w hl m hm
  have h1 := List.all_eq_true.1 h w (by simpa using hl)
  have h2 := List.all_eq_true.1 h1 m (by simpa using hm)
  exact of_decide_eq_true h2
theorem andn_zero : ∀ w : Nat, w < 64 → ∀ v : Nat, v < 64 → (∀ i, i < 6 → w.testBit i = true → v.testBit i = true) → andnv .i64 (w : Int) (v : Int) = 0 := by
  have h : ((List.range 64).all fun (l : Nat) => (List.range 64).all fun (m : Nat) => decide (andnv .i64 (l : Int) (m : Int) = 0) || (List.range 6).any fun i => l.testBit i && !m.testBit i) = true := by decide +kernel
  intro w hl v hv hb
  have h1 := List.all_eq_true.1 h w (by simpa using hl)
  have h2 := List.all_eq_true.1 h1 v (by simpa using hv)
  have h3 : ((List.range 6).any fun i => w.testBit i && !v.testBit i) = false := List.any_eq_false.2 fun i hi => by
    cases hw : w.testBit i with
    | false => simp
    | true => simp [hb i (List.mem_range.1 hi) hw]
  rw [h3] at h2
  simpa using h2
end Go.Proofs.Ytkgcbfbbcaajpaa.G

/- Rank: rules for the statements: a table is read; rows of numbers; what valid tables tell. -/
set_option linter.unusedSimpArgs false
set_option linter.unusedVariables false
set_option maxRecDepth 20000
namespace Go.Proofs.Ytkgcbfbbcaajpaa.G
open Go.V
theorem rdT {s : Hp} {za : Addr} {T : Tb} {K : Int → Int → Option Addr → Nat → Nat → Option Addr → Nat → Nat → Hp → Prop} (ta : TbA s za T) (h : ∀ x c y c', RowAt s x (ints T.off) → ScAt s y T.sc → K T.men T.sheets x T.off.length c y T.sc.length c' s) :
    RDI .i64 (Addr.add za 0) (fun n => RDI .i64 (Addr.add za 1) fun m => RDL (Addr.add za 2) fun x l c => RDL (Addr.add za 3) fun x' l' c' => K n m x l c x' l' c') s := by
  obtain ⟨h1, h2, ⟨x, c, h3, h4⟩, ⟨y, c', h5, h6⟩⟩ := ta
  exact ⟨_, h1, _, h2, _, _, _, h3, _, _, _, h5, h x c y c' h4 h6⟩
theorem TbA.kp {D : Nat → Prop} {s s' : Hp} {za : Addr} {T : Tb} (k : Kp D s s') (hz : ¬ D za.block) (hx : ∀ x c, cellAt s (za.add 2) = some (.slice x T.off.length c) → ∀ a, x = some a → ¬ D a.block) (hy : ∀ x c, cellAt s (za.add 3) = some (.slice x T.sc.length c) → ∀ a, x = some a → ¬ D a.block) (h : TbA s za T) : TbA s' za T where
  men := k.cell (by rw [add_blk]; exact hz) h.men
  sheets := k.cell (by rw [add_blk]; exact hz) h.sheets
  off := by obtain ⟨x, c, h1, h2⟩ := h.off; exact ⟨x, c, k.cell (by rw [add_blk]; exact hz) h1, h2.keep k (hx x c h1)⟩
  sc := by
    obtain ⟨x, c, h1, h2⟩ := h.sc
    refine ⟨x, c, k.cell (by rw [add_blk]; exact hz) h1, fun i hi => ?_⟩
    obtain ⟨a, ha, g0, g1, g2, g3⟩ := h2 i hi
    have hd := hy x c h1 a ha
    refine ⟨a, ha, k.cell ?_ g0, k.cell ?_ g1, k.cell ?_ g2, k.cell ?_ g3⟩ <;> (rw [add_blk, add_blk]; exact hd)
section
variable {W : World} {K : VK} {E : List PanicEntry → Hp → Prop} {s : Hp} {T : Tb} {x y : Option Addr} {c c' : Nat}
theorem men_n (hok : okT T = true) : ((T.n : Nat) : Int) = T.men := by obtain ⟨h, _⟩ := okT_iff.1 hok; unfold Tb.n; omega
theorem sheets_m (hok : okT T = true) : ((T.m : Nat) : Int) = T.sheets := by obtain ⟨_, h, _⟩ := okT_iff.1 hok; unfold Tb.m; omega
theorem isM_nat (hok : okT T = true) {i : Nat} (hi : i < T.n) : isM T (i : Int) := by have := men_n hok; unfold isM; omega
theorem befR_n (hok : okT T = true) {a b : Nat} (ha : a < T.n) (hb : b < T.n) : befR T a b = (befN T a b, 0) := by unfold befR; rw [if_pos hok, if_pos ⟨isM_nat hok ha, isM_nat hok hb⟩]; rfl
theorem plcR_n (hok : okT T = true) {a : Nat} (ha : a < T.n) : plcR T a = (plcT T a, 0) := by unfold plcR; rw [if_pos hok, if_pos (isM_nat hok ha)]; rfl
def sumT (T : Tb) (i : Nat) : Int × Int := ((lowR T i).getD 0 0, (topR T i).getD 0 0)
theorem sumR_n (hok : okT T = true) {a : Nat} (ha : a < T.n) : sumP T a = (sumT T a, 0) := by unfold sumP; rw [if_pos hok, if_pos (isM_nat hok ha)]; rfl
theorem eqR_n (hok : okT T = true) {a b : Nat} (ha : a < T.n) (hb : b < T.n) : eqR T a b = (eqP T a b, 0) := by unfold eqR; rw [if_pos hok, if_pos ⟨isM_nat hok ha, isM_nat hok hb⟩]; rfl
theorem c_BeforeN {a b : Nat} (hok : okT T = true) (ha : a < T.n) (hb : b < T.n) (hlo : T.off.length ≤ 100000) (hx : RowAt s x (ints T.off)) (hy : ScAt s y T.sc) (h : ∀ s', Ext s s' → K (.tuple #[.int .i64 (befN T a b), .int .i64 0]) s') :
    CALL Pg W F_rank_Before [.agg #[.int .i64 T.men, .int .i64 T.sheets, .slice x T.off.length c, .slice y T.sc.length c'], .int .i64 a, .int .i64 b] K E s :=
  c_Before hx hy hlo (by rw [befR_n hok ha hb]; exact h)
theorem c_PlaceN {a : Nat} (hok : okT T = true) (ha : a < T.n) (hlo : T.off.length ≤ 100000) (hx : RowAt s x (ints T.off)) (hy : ScAt s y T.sc) (h : ∀ s', Ext s s' → K (.tuple #[.agg #[.int .i64 (plcT T a).1, .int .i64 (plcT T a).2], .int .i64 0]) s') :
    CALL Pg W F_rank_Place [.agg #[.int .i64 T.men, .int .i64 T.sheets, .slice x T.off.length c, .slice y T.sc.length c'], .int .i64 a] K E s :=
  c_Place hx hy hlo (by rw [plcR_n hok ha]; exact h)
theorem c_SumN {a : Nat} (hok : okT T = true) (ha : a < T.n) (hlo : T.off.length ≤ 100000) (hx : RowAt s x (ints T.off)) (hy : ScAt s y T.sc) (h : ∀ s', Ext s s' → K (.tuple #[.agg #[.int .i64 (sumT T a).1, .int .i64 (sumT T a).2], .int .i64 0]) s') :
    CALL Pg W F_rank_Sum [.agg #[.int .i64 T.men, .int .i64 T.sheets, .slice x T.off.length c, .slice y T.sc.length c'], .int .i64 a] K E s :=
  c_Sum hx hy hlo (by rw [sumR_n hok ha]; exact h)
theorem c_EqualN {a b : Nat} (hok : okT T = true) (ha : a < T.n) (hb : b < T.n) (hlo : T.off.length ≤ 100000) (hx : RowAt s x (ints T.off)) (hy : ScAt s y T.sc) (h : ∀ s', Ext s s' → K (.tuple #[.bool (eqP T a b), .int .i64 0]) s') :
    CALL Pg W F_rank_Equal [.agg #[.int .i64 T.men, .int .i64 T.sheets, .slice x T.off.length c, .slice y T.sc.length c'], .int .i64 a, .int .i64 b] K E s :=
  c_Equal hx hy hlo (by rw [eqR_n hok ha hb]; exact h)
theorem c_WinnersN (hok : okT T = true) (hlo : T.off.length ≤ 100000) (hx : RowAt s x (ints T.off)) (hy : ScAt s y T.sc) (h : ∀ s', Ext s s' → K (.tuple #[.int .i64 (setOf' (surF T) T.n : Nat), .int .i64 (setOf' (canF T) T.n : Nat), .int .i64 0]) s') :
    CALL Pg W F_rank_Winners [.agg #[.int .i64 T.men, .int .i64 T.sheets, .slice x T.off.length c, .slice y T.sc.length c']] K E s :=
  c_Winners hx hy hlo (by have : winP T = (((setOf' (surF T) T.n : Nat) : Int), ((setOf' (canF T) T.n : Nat) : Int), 0) := by unfold winP; rw [if_pos hok]
                          rw [this]; exact h)
/-- The beginning of a statement: too much, or not valid. -/
theorem st_begin {s1 : Hp} {za : Addr} {X : Bool → Hp → Prop} (ta : TbA s1 za T) (hfar : ∀ s' b, Ext s1 s' → (b = false → T.off.length ≤ 100000) → X b s') :
    (RDI .i64 (Addr.add za 0) fun n => RDI .i64 (Addr.add za 1) fun m => RDL (Addr.add za 2) fun x l c => RDL (Addr.add za 3) fun x' l' c' => CALL Pg W F_law10_far [.agg #[.int .i64 n, .int .i64 m, .slice x l c, .slice x' l' c']] (fun v => TYB v fun b => X b) E) s1 := by
  refine rdT ta fun x c y c' hx hy => ?_
  refine c_far fun s2 b e2 hb => ?_
  try simp only [TUP_mk, AGG_mk, HD_mk, NL_mk, TYI_mk, TYB_mk, TYP_mk, TYL_mk, TYS_mk, TYM_mk, SO_mk, NX_mk, endK_mk, endK_mk', add_0]
  exact hfar s2 b e2 fun hh => by have := hb hh; omega
theorem n_lim (hok : okT T = true) : 1 ≤ T.n ∧ T.n ≤ 6 ∧ 1 ≤ T.m ∧ T.m ≤ 5 := by have vd := okT_vd hok; exact ⟨vd.n1, vd.n6, vd.m1, vd.m5⟩
end
/-! ### Rows of numbers -/
structure Rows (s : Hp) (lo b k : Nat) (rows : Nat → List Int) : Prop where
  row : ∀ i, i < k → ∃ x c, Own s ⟨b, i, none⟩ (.slice x (rows i).length c) ∧ RowAt s x (ints (rows i)) ∧ ∀ a, x = some a → b < a.block ∧ a.block < lo
theorem Rows.ext {s s' : Hp} {lo b k : Nat} {rows : Nat → List Int} (e : Ext s s') (h : Rows s lo b k rows) : Rows s' lo b k rows := ⟨fun i hi => by
  obtain ⟨x, c, h1, h2, h3⟩ := h.row i hi
  exact ⟨x, c, e.own h1, h2.ext e, h3⟩⟩
theorem Rows.kp {D : Nat → Prop} {s s' : Hp} {lo b k : Nat} {rows : Nat → List Int} (e : Kp D s s') (hD : ∀ q, D q → lo ≤ q) (hb : b < lo) (h : Rows s lo b k rows) : Rows s' lo b k rows := ⟨fun i hi => by
  obtain ⟨x, c, h1, h2, h3⟩ := h.row i hi
  exact ⟨x, c, e.own (fun hd => by have := hD _ hd; have : b = b := rfl; simp at *; omega) h1, h2.keep e (fun a ha hd => by have := hD _ hd; have := h3 a ha; omega), h3⟩⟩
theorem Rows.wr {s : Hp} {lo b k : Nat} {rows : Nat → List Int} {v : Value} (h : Rows s lo b k rows) : Rows (setC s ⟨b, k, none⟩ v) lo b k rows := ⟨fun i hi => by
  obtain ⟨x, c, h1, h2, h3⟩ := h.row i hi
  refine ⟨x, c, own_set_ne (.inr (by show i ≠ k; omega)) h1, h2.keep (D := (· = b)) (Kp.setC (Kp.refl s) (.inl rfl)) (fun a ha hd => by have := h3 a ha; omega), h3⟩⟩
theorem Rows.lo {s : Hp} {lo lo' b k : Nat} {rows : Nat → List Int} (hl : lo ≤ lo') (h : Rows s lo b k rows) : Rows s lo' b k rows := ⟨fun i hi => by
  obtain ⟨x, c, h1, h2, h3⟩ := h.row i hi
  exact ⟨x, c, h1, h2, fun a ha => ⟨(h3 a ha).1, Nat.lt_of_lt_of_le (h3 a ha).2 hl⟩⟩⟩
theorem Rows.add {s : Hp} {lo b k c : Nat} {rows : Nat → List Int} {x : Option Addr} (h : Rows s lo b k rows) (o : Own s ⟨b, k, none⟩ (.slice x (rows k).length c)) (hr : RowAt s x (ints (rows k))) (hx : ∀ a, x = some a → b < a.block ∧ a.block < lo) : Rows s lo b (k + 1) rows := ⟨fun i hi => by
  by_cases e : i = k
  · subst e; exact ⟨x, c, o, hr, hx⟩
  · exact h.row i (by omega)⟩
theorem Rows.congr {s : Hp} {lo b k : Nat} {rows rows' : Nat → List Int} (hr : ∀ i, i < k → rows i = rows' i) (h : Rows s lo b k rows) : Rows s lo b k rows' := ⟨fun i hi => by rw [← hr i hi]; exact h.row i hi⟩
theorem Rows.rd {s : Hp} {lo b k i j N : Nat} {rows : Nat → List Int} {KK : Int → Hp → Prop} (h : Rows s lo b k rows) (hi : i < k) (hk : k ≤ N) (hj : j < (rows i).length) (hK : KK ((rows i).getD j 0) s) :
    (IXS (some ⟨b, 0, none⟩) N (i : Int) 1 fun a => RDL a fun x l c => IXS x l (j : Int) 1 fun a' => RDI .i64 a' KK) s := by
  obtain ⟨x, c, h1, h2, h3⟩ := h.row i hi
  refine IXS_nat (by omega) ?_
  refine ⟨_, _, _, by rw [add_nil, Nat.zero_add, Nat.mul_one]; exact h1.cell, ?_⟩
  obtain ⟨a, ha, g⟩ := row_int h2 hj
  subst ha
  exact IXS_nat hj ⟨_, g, hK⟩
end Go.Proofs.Ytkgcbfbbcaajpaa.G

/- More of the functions' shallow texts, by gen.py. -/
set_option linter.unusedVariables false
set_option maxRecDepth 100000
namespace Go.Proofs.Ytkgcbfbbcaajpaa.G
open Go.V
def an_7 : Nat → Ann := fun b => match b with
  | 0 => { ms := [2, 33], ks := [.b, .i .i64], us := [1, 3, 32, 242], rt := false, ex := [] }
  | 2 => { ms := [2, 38], ks := [.b, .i .i64], us := [1, 3, 4, 32, 33, 37, 242], rt := false, ex := [] }
  | 4 => { ms := [2, 97], ks := [.b, .i .i64], us := [1, 3, 8, 9, 96, 242], rt := false, ex := [] }
  | 6 => { ms := [2, 14, 15, 108], ks := [.b, .i .i64, .i .i64, .i .i64], us := [1, 3, 8, 9, 11, 12, 13, 96, 97, 107, 242], rt := false, ex := [] }
  | 8 => { ms := [2, 178], ks := [.b, .i .i64], us := [1, 3, 8, 9, 11, 12, 13, 14, 15, 16, 96, 97, 107, 108, 177, 242], rt := false, ex := [] }
  | _ => {}
abbrev rv_7 : List ResultVar := [.tmp 2]
abbrev rs_7 : List Nat := [242, 2]
def L_law10_RankThird_0 (W : World) (R : Ending → Hp → Prop) (za0 : Addr) (za1 : Addr) (zl2 : Nat) (zn3 : Int) (b39 : Bool) (n40 : Int) : Hp → Prop :=
  LOOPN [.b, .i .i64] (fun ys next s => ∀ j : Tm, vc Pg W 242 rs_7 an_7 false (sub (bodyOf Try.f7) [1, 1, 1, 0, 1, 0, 0]) 0 (KLoop [2, 33] [1, 3, 32, 242] [(.pointer (some za0)), (.slice (some za1) zl2 zl2), (.int .i64 zn3), (.tuple #[])] next (KBlk 0 (KS Pg W 242 rs_7 an_7 false (sub (bodyOf Try.f7) [1, 1, 1, 1]) 0 (fin Pg W 242 rv_7 R)))) (known [2, 33] ys (known [1, 3, 32, 242] [(.pointer (some za0)), (.slice (some za1) zl2 zl2), (.int .i64 zn3), (.tuple #[])] j)) s) [(.bool b39), (.int .i64 n40)]
def L_law10_RankThird_1 (W : World) (R : Ending → Hp → Prop) (nx0 : List Value → Hp → Prop) (za0 : Addr) (za1 : Addr) (zl2 : Nat) (zn3 : Int) (zn4 : Int) (zn5 : Int) (b67 : Bool) (n68 : Int) : Hp → Prop :=
  LOOPN [.b, .i .i64] (fun ys next s => ∀ j : Tm, vc Pg W 242 rs_7 an_7 false (sub (bodyOf Try.f7) [1, 1, 1, 0, 1, 0, 0, 1, 1, 0, 0, 1, 1, 0, 0]) 2 (KLoop [2, 38] [1, 3, 4, 32, 33, 37, 242] [(.pointer (some za0)), (.slice (some za1) zl2 zl2), (.int .i64 zn3), (.int .i64 zn4), (.int .i64 zn3), (.int .i64 zn5), (.tuple #[])] next (KBlk 2 (KBlk 1 (KS Pg W 242 rs_7 an_7 false (sub (bodyOf Try.f7) [1, 1, 1, 0, 1, 0, 0, 1, 1, 1]) 0 (KLoop [2, 33] [1, 3, 32, 242] [(.pointer (some za0)), (.slice (some za1) zl2 zl2), (.int .i64 zn4), (.tuple #[])] nx0 (KBlk 0 (KS Pg W 242 rs_7 an_7 false (sub (bodyOf Try.f7) [1, 1, 1, 1]) 0 (fin Pg W 242 rv_7 R)))))))) (known [2, 38] ys (known [1, 3, 4, 32, 33, 37, 242] [(.pointer (some za0)), (.slice (some za1) zl2 zl2), (.int .i64 zn3), (.int .i64 zn4), (.int .i64 zn3), (.int .i64 zn5), (.tuple #[])] j)) s) [(.bool b67), (.int .i64 n68)]
def L_law10_RankThird_2 (W : World) (R : Ending → Hp → Prop) (za0 : Addr) (za1 : Addr) (zl2 : Nat) (zn3 : Int) (zn4 : Int) (zn5 : Int) (b97 : Bool) (n98 : Int) : Hp → Prop :=
  LOOPN [.b, .i .i64] (fun ys next s => ∀ j : Tm, vc Pg W 242 rs_7 an_7 false (sub (bodyOf Try.f7) [1, 1, 1, 1, 1, 1, 0, 1, 0, 0]) 4 (KLoop [2, 97] [1, 3, 8, 9, 96, 242] [(.pointer (some za0)), (.slice (some za1) zl2 zl2), (.int .i64 zn3), (.int .i64 zn4), (.int .i64 zn5), (.tuple #[])] next (KBlk 4 (KS Pg W 242 rs_7 an_7 false (sub (bodyOf Try.f7) [1, 1, 1, 1, 1, 1, 1]) 0 (fin Pg W 242 rv_7 R)))) (known [2, 97] ys (known [1, 3, 8, 9, 96, 242] [(.pointer (some za0)), (.slice (some za1) zl2 zl2), (.int .i64 zn3), (.int .i64 zn4), (.int .i64 zn5), (.tuple #[])] j)) s) [(.bool b97), (.int .i64 n98)]
def L_law10_RankThird_3 (W : World) (R : Ending → Hp → Prop) (nx2 : List Value → Hp → Prop) (za0 : Addr) (za1 : Addr) (zl2 : Nat) (zn3 : Int) (zn4 : Int) (zn5 : Int) (za6 : Addr) (zn7 : Int) (zn8 : Int) (zn9 : Int) (b127 : Bool) (n128 : Int) (n129 : Int) (n130 : Int) : Hp → Prop :=
  LOOPN [.b, .i .i64, .i .i64, .i .i64] (fun ys next s => ∀ j : Tm, vc Pg W 242 rs_7 an_7 false (sub (bodyOf Try.f7) [1, 1, 1, 1, 1, 1, 0, 1, 0, 0, 1, 1, 0, 0, 1, 1, 1, 0, 1, 0, 0]) 6 (KLoop [2, 14, 15, 108] [1, 3, 8, 9, 11, 12, 13, 96, 97, 107, 242] [(.pointer (some za0)), (.slice (some za1) zl2 zl2), (.int .i64 zn3), (.int .i64 zn4), (.int .i64 zn5), (.pointer (some za6)), (.int .i64 zn7), (.int .i64 zn8), (.int .i64 zn5), (.int .i64 zn9), (.tuple #[])] next (KBlk 6 (KS Pg W 242 rs_7 an_7 false (sub (bodyOf Try.f7) [1, 1, 1, 1, 1, 1, 0, 1, 0, 0, 1, 1, 0, 0, 1, 1, 1, 1]) 5 (KBlk 5 (KS Pg W 242 rs_7 an_7 false (sub (bodyOf Try.f7) [1, 1, 1, 1, 1, 1, 0, 1, 0, 0, 1, 1, 1]) 4 (KLoop [2, 97] [1, 3, 8, 9, 96, 242] [(.pointer (some za0)), (.slice (some za1) zl2 zl2), (.int .i64 zn3), (.int .i64 zn4), (.int .i64 zn8), (.tuple #[])] nx2 (KBlk 4 (KS Pg W 242 rs_7 an_7 false (sub (bodyOf Try.f7) [1, 1, 1, 1, 1, 1, 1]) 0 (fin Pg W 242 rv_7 R))))))))) (known [2, 14, 15, 108] ys (known [1, 3, 8, 9, 11, 12, 13, 96, 97, 107, 242] [(.pointer (some za0)), (.slice (some za1) zl2 zl2), (.int .i64 zn3), (.int .i64 zn4), (.int .i64 zn5), (.pointer (some za6)), (.int .i64 zn7), (.int .i64 zn8), (.int .i64 zn5), (.int .i64 zn9), (.tuple #[])] j)) s) [(.bool b127), (.int .i64 n128), (.int .i64 n129), (.int .i64 n130)]
def L_law10_RankThird_4 (W : World) (R : Ending → Hp → Prop) (nx2 : List Value → Hp → Prop) (nx3 : List Value → Hp → Prop) (za0 : Addr) (za1 : Addr) (zl2 : Nat) (zn3 : Int) (zn4 : Int) (zn5 : Int) (za6 : Addr) (zn7 : Int) (zn8 : Int) (zn9 : Int) (zn10 : Int) (zn11 : Int) (zn12 : Int) (zn13 : Int) (b214 : Bool) (n215 : Int) : Hp → Prop :=
  LOOPN [.b, .i .i64] (fun ys next s => ∀ j : Tm, vc Pg W 242 rs_7 an_7 false (sub (bodyOf Try.f7) [1, 1, 1, 1, 1, 1, 0, 1, 0, 0, 1, 1, 0, 0, 1, 1, 1, 0, 1, 0, 0, 1, 1, 0, 0, 1, 1, 1, 1, 1, 1, 0, 0]) 8 (KLoop [2, 178] [1, 3, 8, 9, 11, 12, 13, 14, 15, 16, 96, 97, 107, 108, 177, 242] [(.pointer (some za0)), (.slice (some za1) zl2 zl2), (.int .i64 zn3), (.int .i64 zn4), (.int .i64 zn5), (.pointer (some za6)), (.int .i64 zn7), (.int .i64 zn8), (.int .i64 zn9), (.int .i64 zn10), (.int .i64 zn11), (.int .i64 zn5), (.int .i64 zn12), (.int .i64 zn10), (.int .i64 zn13), (.tuple #[])] next (KBlk 8 (KBlk 7 (KS Pg W 242 rs_7 an_7 false (sub (bodyOf Try.f7) [1, 1, 1, 1, 1, 1, 0, 1, 0, 0, 1, 1, 0, 0, 1, 1, 1, 0, 1, 0, 0, 1, 1, 1]) 6 (KLoop [2, 14, 15, 108] [1, 3, 8, 9, 11, 12, 13, 96, 97, 107, 242] [(.pointer (some za0)), (.slice (some za1) zl2 zl2), (.int .i64 zn3), (.int .i64 zn4), (.int .i64 zn5), (.pointer (some za6)), (.int .i64 zn7), (.int .i64 zn11), (.int .i64 zn5), (.int .i64 zn12), (.tuple #[])] nx3 (KBlk 6 (KS Pg W 242 rs_7 an_7 false (sub (bodyOf Try.f7) [1, 1, 1, 1, 1, 1, 0, 1, 0, 0, 1, 1, 0, 0, 1, 1, 1, 1]) 5 (KBlk 5 (KS Pg W 242 rs_7 an_7 false (sub (bodyOf Try.f7) [1, 1, 1, 1, 1, 1, 0, 1, 0, 0, 1, 1, 1]) 4 (KLoop [2, 97] [1, 3, 8, 9, 96, 242] [(.pointer (some za0)), (.slice (some za1) zl2 zl2), (.int .i64 zn3), (.int .i64 zn4), (.int .i64 zn11), (.tuple #[])] nx2 (KBlk 4 (KS Pg W 242 rs_7 an_7 false (sub (bodyOf Try.f7) [1, 1, 1, 1, 1, 1, 1]) 0 (fin Pg W 242 rv_7 R))))))))))))) (known [2, 178] ys (known [1, 3, 8, 9, 11, 12, 13, 14, 15, 16, 96, 97, 107, 108, 177, 242] [(.pointer (some za0)), (.slice (some za1) zl2 zl2), (.int .i64 zn3), (.int .i64 zn4), (.int .i64 zn5), (.pointer (some za6)), (.int .i64 zn7), (.int .i64 zn8), (.int .i64 zn9), (.int .i64 zn10), (.int .i64 zn11), (.int .i64 zn5), (.int .i64 zn12), (.int .i64 zn10), (.int .i64 zn13), (.tuple #[])] j)) s) [(.bool b214), (.int .i64 n215)]
def J_law10_RankThird_0 (W : World) (R : Ending → Hp → Prop) (b21 : Bool) (B9 : Nat) : Hp → Prop :=
  BR b21
    (CALL Pg W F_law10_awake []
      (fun v22 => TYB v22 fun b24 =>
        R (.returned (.bool b24)))
        (fun e23 => R (.panicked e23)))
    (RDI .i64 (Addr.add ⟨B9, 0, none⟩ 0) fun n25 =>
      MKS Pg 22 n25 n25 fun B26 =>
        RDI .i64 (Addr.add ⟨B9, 0, none⟩ 0) fun n27 =>
          L_law10_RankThird_0 W R ⟨B9, 0, none⟩ ⟨B26, 0, none⟩ (Int.toNat n25) n27 false 0)
def J_law10_RankThird_1 (W : World) (R : Ending → Hp → Prop) (b64 : Bool) (za0 : Addr) (za1 : Addr) (zl2 : Nat) (n55 : Int) (n58 : Int) (b39 : Bool) : Hp → Prop :=
  BR b64
    (R (.returned (.bool false)))
    (RDI .i64 (Addr.add za0 0) fun n65 =>
      L_law10_RankThird_2 W R za0 za1 zl2 n55 n58 n65 b39 0)
def J_law10_RankThird_2 (W : World) (R : Ending → Hp → Prop) (b63 : Bool) (za0 : Addr) (za1 : Addr) (zl2 : Nat) (n55 : Int) (n58 : Int) (b39 : Bool) : Hp → Prop :=
  BR b63
    (J_law10_RankThird_1 W R true za0 za1 zl2 n55 n58 b39)
    (J_law10_RankThird_1 W R ((andnv .i64 n55 n58) != 0) za0 za1 zl2 n55 n58 b39)
def J_law10_RankThird_3 (W : World) (R : Ending → Hp → Prop) (b62 : Bool) (za0 : Addr) (za1 : Addr) (zl2 : Nat) (n55 : Int) (n58 : Int) (b39 : Bool) : Hp → Prop :=
  BR b62
    (J_law10_RankThird_2 W R true za0 za1 zl2 n55 n58 b39)
    (RDI .i64 (Addr.add za0 0) fun n66 =>
      NNI n66 <|
        J_law10_RankThird_2 W R ((shrv .i64 n58 n66) != 0) za0 za1 zl2 n55 n58 b39)
def J_law10_RankThird_4 (W : World) (R : Ending → Hp → Prop) (b87 : Bool) (za1 : Addr) (zl2 : Nat) (zn3 : Int) (n82 : Int) (za0 : Addr) (zn4 : Int) (zn5 : Int) (nx1 : List Value → Hp → Prop) (b67 : Bool) (n68 : Int) : Hp → Prop :=
  BR b87
    (R (.returned (.bool false)))
    (IXS (some za1) zl2 zn3 1 fun a88 =>
      RDL a88 fun x89 l90 c91 =>
        NEW 3 [(.int .i64 n82)] fun B92 =>
          APP Pg 3 1 x89 l90 c91 (some ⟨B92, 0, none⟩) 1 fun x93 l94 c95 =>
            IXS (some za1) zl2 zn3 1 fun a96 =>
              WR (Addr.add a96 0) (.slice x93 l94 c95) <|
                NX [(.pointer (some za0)), (.slice (some za1) zl2 zl2), (.int .i64 zn3), (.int .i64 zn4), (.int .i64 zn3), (.int .i64 zn5), (.tuple #[])] [(.pointer (some za0)), (.slice (some za1) zl2 zl2), (.int .i64 zn3), (.int .i64 zn4), (.int .i64 zn3), (.int .i64 zn5), (.tuple #[])] (nx1 [(.bool b67), (.int .i64 (IntKind.wrap .i64 (n68 + 1)))]))
def J_law10_RankThird_5 (W : World) (R : Ending → Hp → Prop) (b86 : Bool) (za1 : Addr) (zl2 : Nat) (zn3 : Int) (n82 : Int) (za0 : Addr) (zn4 : Int) (zn5 : Int) (nx1 : List Value → Hp → Prop) (b67 : Bool) (n68 : Int) : Hp → Prop :=
  BR b86
    (J_law10_RankThird_4 W R true za1 zl2 zn3 n82 za0 zn4 zn5 nx1 b67 n68)
    (J_law10_RankThird_4 W R (decide (n82 > 2)) za1 zl2 zn3 n82 za0 zn4 zn5 nx1 b67 n68)
def J_law10_RankThird_6 (W : World) (R : Ending → Hp → Prop) (b184 : Bool) (za0 : Addr) (nx2 : List Value → Hp → Prop) (nx3 : List Value → Hp → Prop) (za1 : Addr) (zl2 : Nat) (zn3 : Int) (zn4 : Int) (zn5 : Int) (za6 : Addr) (zn7 : Int) (n137 : Int) (n144 : Int) (n130 : Int) (zn8 : Int) (zn9 : Int) (b177 : Bool) : Hp → Prop :=
  BR b184
    (R (.returned (.bool false)))
    (RDI .i64 (Addr.add za0 0) fun n185 =>
      L_law10_RankThird_4 W R nx2 nx3 za0 za1 zl2 zn3 zn4 zn5 za6 zn7 n137 n144 n130 zn8 zn9 n185 b177 0)
def J_law10_RankThird_7 (W : World) (R : Ending → Hp → Prop) (zn5 : Int) (zn3 : Int) (za1 : Addr) (zl2 : Nat) (n130 : Int) (za0 : Addr) (nx2 : List Value → Hp → Prop) (nx3 : List Value → Hp → Prop) (zn4 : Int) (za6 : Addr) (zn7 : Int) (n137 : Int) (n144 : Int) (zn8 : Int) (zn9 : Int) (b177 : Bool) : Hp → Prop :=
  NNI zn5 <|
    BR ((andv .i64 (shrv .i64 zn3 zn5) 1) == 1)
      (IXS (some za1) zl2 n130 1 fun a178 =>
        RDL a178 fun x179 l180 c181 =>
          IXS x179 l180 zn5 1 fun a182 =>
            RDI .i64 a182 fun n183 =>
              J_law10_RankThird_6 W R (n183 != 0) za0 nx2 nx3 za1 zl2 zn3 zn4 zn5 za6 zn7 n137 n144 n130 zn8 zn9 b177)
      (J_law10_RankThird_6 W R false za0 nx2 nx3 za1 zl2 zn3 zn4 zn5 za6 zn7 n137 n144 n130 zn8 zn9 b177)
def J_law10_RankThird_8 (W : World) (R : Ending → Hp → Prop) (b176 : Bool) (zn5 : Int) (zn3 : Int) (za1 : Addr) (zl2 : Nat) (n130 : Int) (za0 : Addr) (nx2 : List Value → Hp → Prop) (nx3 : List Value → Hp → Prop) (zn4 : Int) (za6 : Addr) (zn7 : Int) (n137 : Int) (n144 : Int) (zn8 : Int) (zn9 : Int) (b127 : Bool) : Hp → Prop :=
  BR b176
    (R (.returned (.bool false)))
    (J_law10_RankThird_7 W R zn5 zn3 za1 zl2 n130 za0 nx2 nx3 zn4 za6 zn7 n137 n144 zn8 zn9 b127)
def J_law10_RankThird_9 (W : World) (R : Ending → Hp → Prop) (b175 : Bool) (zn5 : Int) (zn3 : Int) (za1 : Addr) (zl2 : Nat) (n130 : Int) (za0 : Addr) (nx2 : List Value → Hp → Prop) (nx3 : List Value → Hp → Prop) (zn4 : Int) (za6 : Addr) (zn7 : Int) (n137 : Int) (n144 : Int) (zn8 : Int) (zn9 : Int) (b127 : Bool) (B174 : Nat) : Hp → Prop :=
  BR b175
    (J_law10_RankThird_8 W R true zn5 zn3 za1 zl2 n130 za0 nx2 nx3 zn4 za6 zn7 n137 n144 zn8 zn9 b127)
    (RDI .i64 (Addr.add ⟨B174, 0, none⟩ 1) fun n186 =>
      RDI .i64 (Addr.add za6 1) fun n187 =>
        J_law10_RankThird_8 W R (decide (n186 ≤ n187)) zn5 zn3 za1 zl2 n130 za0 nx2 nx3 zn4 za6 zn7 n137 n144 zn8 zn9 b127)
def J_law10_RankThird_10 (W : World) (R : Ending → Hp → Prop) (za1 : Addr) (zl2 : Nat) (zn5 : Int) (n130 : Int) (za0 : Addr) (zn3 : Int) (nx2 : List Value → Hp → Prop) (nx3 : List Value → Hp → Prop) (zn4 : Int) (za6 : Addr) (zn7 : Int) (n137 : Int) (n144 : Int) (zn8 : Int) (zn9 : Int) (b127 : Bool) : Hp → Prop :=
  IXS (some za1) zl2 zn5 1 fun a145 =>
    RDL a145 fun x146 l147 c148 =>
      IXS x146 l147 n130 1 fun a149 =>
        RDI .i64 a149 fun n150 =>
          BR (n150 == 2)
            (RDI .i64 (Addr.add za0 0) fun n151 =>
              RDI .i64 (Addr.add za0 1) fun n152 =>
                RDL (Addr.add za0 2) fun x153 l154 c155 =>
                  RDL (Addr.add za0 3) fun x156 l157 c158 =>
                    CALL Pg W F_rank_Place [(.agg #[(.int .i64 n151), (.int .i64 n152), (.slice x153 l154 c155), (.slice x156 l157 c158)]), (.int .i64 n130)]
                      (fun v159 => TUP v159 fun q161 => HD q161 fun v162 r163 => AGG v162 fun q164 => HD q164 fun v165 r166 => TYI .i64 v165 fun n167 =>
                        HD r166 fun v168 r169 => TYI .i64 v168 fun n170 =>
                          NL r169 <|
                            HD r163 fun v171 r172 => TYI .i64 v171 fun n173 =>
                              NL r172 <|
                                NEWZ Pg 29 fun B174 =>
                                  WR (Addr.add ⟨B174, 0, none⟩ 0) (.int .i64 n167) <|
                                    WR (Addr.add ⟨B174, 0, none⟩ 1) (.int .i64 n170) <|
                                      BR (n173 != 0)
                                        (J_law10_RankThird_9 W R true zn5 zn3 za1 zl2 n130 za0 nx2 nx3 zn4 za6 zn7 n137 n144 zn8 zn9 b127 B174)
                                        (RDI .i64 (Addr.add ⟨B174, 0, none⟩ 0) fun n188 =>
                                          RDI .i64 (Addr.add za6 0) fun n189 =>
                                            J_law10_RankThird_9 W R (decide (n188 ≤ n189)) zn5 zn3 za1 zl2 n130 za0 nx2 nx3 zn4 za6 zn7 n137 n144 zn8 zn9 b127 B174))
                        (fun e160 => R (.panicked e160)))
            (J_law10_RankThird_7 W R zn5 zn3 za1 zl2 n130 za0 nx2 nx3 zn4 za6 zn7 n137 n144 zn8 zn9 b127)
def J_law10_RankThird_11 (W : World) (R : Ending → Hp → Prop) (za1 : Addr) (zl2 : Nat) (n130 : Int) (zn5 : Int) (za0 : Addr) (zn3 : Int) (nx2 : List Value → Hp → Prop) (nx3 : List Value → Hp → Prop) (zn4 : Int) (za6 : Addr) (zn7 : Int) (n137 : Int) (n129 : Int) (zn8 : Int) (zn9 : Int) (b127 : Bool) : Hp → Prop :=
  IXS (some za1) zl2 n130 1 fun a138 =>
    RDL a138 fun x139 l140 c141 =>
      IXS x139 l140 zn5 1 fun a142 =>
        RDI .i64 a142 fun n143 =>
          BR (n143 != 0)
            (J_law10_RankThird_10 W R za1 zl2 zn5 n130 za0 zn3 nx2 nx3 zn4 za6 zn7 n137 (IntKind.wrap .i64 (n129 + 1)) zn8 zn9 b127)
            (J_law10_RankThird_10 W R za1 zl2 zn5 n130 za0 zn3 nx2 nx3 zn4 za6 zn7 n137 n129 zn8 zn9 b127)
def J_law10_RankThird_12 (W : World) (R : Ending → Hp → Prop) (b198 : Bool) (za0 : Addr) (za1 : Addr) (zl2 : Nat) (zn3 : Int) (zn4 : Int) (zn8 : Int) (nx2 : List Value → Hp → Prop) (b127 : Bool) (zn5 : Int) : Hp → Prop :=
  BR b198
    (R (.returned (.bool false)))
    (NX [(.pointer (some za0)), (.slice (some za1) zl2 zl2), (.int .i64 zn3), (.int .i64 zn4), (.int .i64 zn8), (.tuple #[])] [(.pointer (some za0)), (.slice (some za1) zl2 zl2), (.int .i64 zn3), (.int .i64 zn4), (.int .i64 zn8), (.tuple #[])] (nx2 [(.bool b127), (.int .i64 (IntKind.wrap .i64 (zn5 + 1)))]))
def J_law10_RankThird_13 (W : World) (R : Ending → Hp → Prop) (b197 : Bool) (za0 : Addr) (za1 : Addr) (zl2 : Nat) (zn3 : Int) (zn4 : Int) (zn8 : Int) (nx2 : List Value → Hp → Prop) (b127 : Bool) (zn5 : Int) (n128 : Int) : Hp → Prop :=
  BR b197
    (J_law10_RankThird_12 W R true za0 za1 zl2 zn3 zn4 zn8 nx2 b127 zn5)
    (NNI zn5 <|
      J_law10_RankThird_12 W R (!(((andv .i64 (shrv .i64 zn4 zn5) 1) == 1) == (n128 == 1))) za0 za1 zl2 zn3 zn4 zn8 nx2 b127 zn5)
def J_law10_RankThird_14 (W : World) (R : Ending → Hp → Prop) (b193 : Bool) (za0 : Addr) (za1 : Addr) (zl2 : Nat) (zn3 : Int) (zn4 : Int) (zn8 : Int) (nx2 : List Value → Hp → Prop) (b127 : Bool) (zn5 : Int) (n128 : Int) (n129 : Int) : Hp → Prop :=
  BR b193
    (J_law10_RankThird_13 W R true za0 za1 zl2 zn3 zn4 zn8 nx2 b127 zn5 n128)
    (NNI zn5 <|
      J_law10_RankThird_13 W R (!(((andv .i64 (shrv .i64 zn3 zn5) 1) == 1) == (n129 == 1))) za0 za1 zl2 zn3 zn4 zn8 nx2 b127 zn5 n128)
def J_law10_RankThird_15 (W : World) (R : Ending → Hp → Prop) (b235 : Bool) (za0 : Addr) (za1 : Addr) (zl2 : Nat) (zn3 : Int) (zn4 : Int) (zn5 : Int) (za6 : Addr) (zn7 : Int) (zn8 : Int) (zn9 : Int) (zn10 : Int) (zn11 : Int) (zn12 : Int) (zn13 : Int) (nx4 : List Value → Hp → Prop) (b214 : Bool) (n215 : Int) : Hp → Prop :=
  BR b235
    (R (.returned (.bool false)))
    (NX [(.pointer (some za0)), (.slice (some za1) zl2 zl2), (.int .i64 zn3), (.int .i64 zn4), (.int .i64 zn5), (.pointer (some za6)), (.int .i64 zn7), (.int .i64 zn8), (.int .i64 zn9), (.int .i64 zn10), (.int .i64 zn11), (.int .i64 zn5), (.int .i64 zn12), (.int .i64 zn10), (.int .i64 zn13), (.tuple #[])] [(.pointer (some za0)), (.slice (some za1) zl2 zl2), (.int .i64 zn3), (.int .i64 zn4), (.int .i64 zn5), (.pointer (some za6)), (.int .i64 zn7), (.int .i64 zn8), (.int .i64 zn9), (.int .i64 zn10), (.int .i64 zn11), (.int .i64 zn5), (.int .i64 zn12), (.int .i64 zn10), (.int .i64 zn13), (.tuple #[])] (nx4 [(.bool b214), (.int .i64 (IntKind.wrap .i64 (n215 + 1)))]))
def J_law10_RankThird_16 (W : World) (R : Ending → Hp → Prop) (b228 : Bool) (za1 : Addr) (zl2 : Nat) (zn5 : Int) (n215 : Int) (za0 : Addr) (zn3 : Int) (zn4 : Int) (za6 : Addr) (zn7 : Int) (zn8 : Int) (zn9 : Int) (zn10 : Int) (zn11 : Int) (zn12 : Int) (zn13 : Int) (nx4 : List Value → Hp → Prop) (b214 : Bool) : Hp → Prop :=
  BR b228
    (IXS (some za1) zl2 zn5 1 fun a229 =>
      RDL a229 fun x230 l231 c232 =>
        IXS x230 l231 n215 1 fun a233 =>
          RDI .i64 a233 fun n234 =>
            J_law10_RankThird_15 W R (n234 != 2) za0 za1 zl2 zn3 zn4 zn5 za6 zn7 zn8 zn9 zn10 zn11 zn12 zn13 nx4 b214 n215)
    (J_law10_RankThird_15 W R false za0 za1 zl2 zn3 zn4 zn5 za6 zn7 zn8 zn9 zn10 zn11 zn12 zn13 nx4 b214 n215)
def B_law10_RankThird_0 (W : World) (R : Ending → Hp → Prop) (za0 : Addr) (za1 : Addr) (zl2 : Nat) (zn3 : Int) (b39 : Bool) (n40 : Int) (nx0 : List Value → Hp → Prop) : Hp → Prop :=
  BR (decide (n40 < zn3))
    (RDI .i64 (Addr.add za0 0) fun n41 =>
      L_law10_RankThird_1 W R nx0 za0 za1 zl2 n40 zn3 n41 b39 0)
    (RDI .i64 (Addr.add za0 0) fun n42 =>
      RDI .i64 (Addr.add za0 1) fun n43 =>
        RDL (Addr.add za0 2) fun x44 l45 c46 =>
          RDL (Addr.add za0 3) fun x47 l48 c49 =>
            CALL Pg W F_rank_Winners [(.agg #[(.int .i64 n42), (.int .i64 n43), (.slice x44 l45 c46), (.slice x47 l48 c49)])]
              (fun v50 => TUP v50 fun q52 => HD q52 fun v53 r54 => TYI .i64 v53 fun n55 =>
                HD r54 fun v56 r57 => TYI .i64 v56 fun n58 =>
                  HD r57 fun v59 r60 => TYI .i64 v59 fun n61 =>
                    NL r60 <|
                      BR (n61 != 0)
                        (J_law10_RankThird_3 W R true za0 za1 zl2 n55 n58 b39)
                        (J_law10_RankThird_3 W R (decide (n58 ≤ 0)) za0 za1 zl2 n55 n58 b39))
                (fun e51 => R (.panicked e51)))
theorem B_law10_RankThird_0_eq (W : World) (R : Ending → Hp → Prop) (za0 : Addr) (za1 : Addr) (zl2 : Nat) (zn3 : Int) (b39 : Bool) (n40 : Int) (nx0 : List Value → Hp → Prop) (j : Tm) : vc Pg W 242 rs_7 an_7 false (sub (bodyOf Try.f7) [1, 1, 1, 0, 1, 0, 0]) 0 (KLoop [2, 33] [1, 3, 32, 242] [(.pointer (some za0)), (.slice (some za1) zl2 zl2), (.int .i64 zn3), (.tuple #[])] nx0 (KBlk 0 (KS Pg W 242 rs_7 an_7 false (sub (bodyOf Try.f7) [1, 1, 1, 1]) 0 (fin Pg W 242 rv_7 R)))) (known [2, 33] [(.bool b39), (.int .i64 n40)] (known [1, 3, 32, 242] [(.pointer (some za0)), (.slice (some za1) zl2 zl2), (.int .i64 zn3), (.tuple #[])] j)) = B_law10_RankThird_0 W R za0 za1 zl2 zn3 b39 n40 nx0 := by kernel_rfl
def N_law10_RankThird_0 (I : Bool → Int → Hp → Prop) (μ : Bool → Int → Hp → Nat) (b390 : Bool) (n400 : Int) (s : Hp) (vs : List Value) : Hp → Prop := fun s' => ∃ b39 n40, vs = [(.bool b39), (.int .i64 n40)] ∧ I b39 n40 s' ∧ μ b39 n40 s' < μ b390 n400 s
theorem L_law10_RankThird_0_rule (W : World) (R : Ending → Hp → Prop) (za0 : Addr) (za1 : Addr) (zl2 : Nat) (zn3 : Int) (I : Bool → Int → Hp → Prop) (μ : Bool → Int → Hp → Nat) (b390 : Bool) (n400 : Int) (s : Hp) (h0 : I b390 n400 s)
    (hr : ∀ (b39 : Bool) (n40 : Int) (s : Hp), I b39 n40 s → B_law10_RankThird_0 W R za0 za1 zl2 zn3 b39 n40 (fun vs => N_law10_RankThird_0 I μ b39 n40 s vs) s) : L_law10_RankThird_0 W R za0 za1 zl2 zn3 b390 n400 s := by
  refine ⟨fun vs s => ∃ b39 n40, vs = [(.bool b39), (.int .i64 n40)] ∧ I b39 n40 s, fun vs s => (match vs with | [.bool b39, .int _ n40] => μ b39 n40 s | _ => 0), ⟨⟨⟨_, rfl⟩, ⟨⟨_, rfl⟩, trivial⟩⟩, ⟨_, _, rfl, h0⟩⟩, ?_⟩
  intro b39 n40 s hI j
  obtain ⟨b39', n40', hy, hI⟩ := hI
  have hI' : I b39 n40 s := by cases hy; exact hI
  have hh := hr b39 n40 s hI'
  rw [← B_law10_RankThird_0_eq W R za0 za1 zl2 zn3 b39 n40 _ j] at hh
  refine vc_mono ?_ _ _ hh
  exact KLoop_mono (fun vs s' h => by obtain ⟨b391, n401, rfl, h1, h2⟩ := h; exact ⟨⟨⟨_, rfl⟩, ⟨⟨_, rfl⟩, trivial⟩⟩, ⟨_, _, rfl, h1⟩, h2⟩)
def B_law10_RankThird_1 (W : World) (R : Ending → Hp → Prop) (nx0 : List Value → Hp → Prop) (za0 : Addr) (za1 : Addr) (zl2 : Nat) (zn3 : Int) (zn4 : Int) (zn5 : Int) (b67 : Bool) (n68 : Int) (nx1 : List Value → Hp → Prop) : Hp → Prop :=
  BR (decide (n68 < zn5))
    (RDI .i64 (Addr.add za0 0) fun n69 =>
      RDI .i64 (Addr.add za0 1) fun n70 =>
        RDL (Addr.add za0 2) fun x71 l72 c73 =>
          RDL (Addr.add za0 3) fun x74 l75 c76 =>
            CALL Pg W F_rank_Before [(.agg #[(.int .i64 n69), (.int .i64 n70), (.slice x71 l72 c73), (.slice x74 l75 c76)]), (.int .i64 zn3), (.int .i64 n68)]
              (fun v77 => TUP v77 fun q79 => HD q79 fun v80 r81 => TYI .i64 v80 fun n82 =>
                HD r81 fun v83 r84 => TYI .i64 v83 fun n85 =>
                  NL r84 <|
                    BR (n85 != 0)
                      (J_law10_RankThird_5 W R true za1 zl2 zn3 n82 za0 zn4 zn5 nx1 b67 n68)
                      (J_law10_RankThird_5 W R (decide (n82 < 0)) za1 zl2 zn3 n82 za0 zn4 zn5 nx1 b67 n68))
                (fun e78 => R (.panicked e78)))
    (NX [(.pointer (some za0)), (.slice (some za1) zl2 zl2), (.int .i64 zn4), (.tuple #[])] [(.pointer (some za0)), (.slice (some za1) zl2 zl2), (.int .i64 zn4), (.tuple #[])] (nx0 [(.bool b67), (.int .i64 (IntKind.wrap .i64 (zn3 + 1)))]))
theorem B_law10_RankThird_1_eq (W : World) (R : Ending → Hp → Prop) (nx0 : List Value → Hp → Prop) (za0 : Addr) (za1 : Addr) (zl2 : Nat) (zn3 : Int) (zn4 : Int) (zn5 : Int) (b67 : Bool) (n68 : Int) (nx1 : List Value → Hp → Prop) (j : Tm) : vc Pg W 242 rs_7 an_7 false (sub (bodyOf Try.f7) [1, 1, 1, 0, 1, 0, 0, 1, 1, 0, 0, 1, 1, 0, 0]) 2 (KLoop [2, 38] [1, 3, 4, 32, 33, 37, 242] [(.pointer (some za0)), (.slice (some za1) zl2 zl2), (.int .i64 zn3), (.int .i64 zn4), (.int .i64 zn3), (.int .i64 zn5), (.tuple #[])] nx1 (KBlk 2 (KBlk 1 (KS Pg W 242 rs_7 an_7 false (sub (bodyOf Try.f7) [1, 1, 1, 0, 1, 0, 0, 1, 1, 1]) 0 (KLoop [2, 33] [1, 3, 32, 242] [(.pointer (some za0)), (.slice (some za1) zl2 zl2), (.int .i64 zn4), (.tuple #[])] nx0 (KBlk 0 (KS Pg W 242 rs_7 an_7 false (sub (bodyOf Try.f7) [1, 1, 1, 1]) 0 (fin Pg W 242 rv_7 R)))))))) (known [2, 38] [(.bool b67), (.int .i64 n68)] (known [1, 3, 4, 32, 33, 37, 242] [(.pointer (some za0)), (.slice (some za1) zl2 zl2), (.int .i64 zn3), (.int .i64 zn4), (.int .i64 zn3), (.int .i64 zn5), (.tuple #[])] j)) = B_law10_RankThird_1 W R nx0 za0 za1 zl2 zn3 zn4 zn5 b67 n68 nx1 := by kernel_rfl
def N_law10_RankThird_1 (I : Bool → Int → Hp → Prop) (μ : Bool → Int → Hp → Nat) (b670 : Bool) (n680 : Int) (s : Hp) (vs : List Value) : Hp → Prop := fun s' => ∃ b67 n68, vs = [(.bool b67), (.int .i64 n68)] ∧ I b67 n68 s' ∧ μ b67 n68 s' < μ b670 n680 s
theorem L_law10_RankThird_1_rule (W : World) (R : Ending → Hp → Prop) (nx0 : List Value → Hp → Prop) (za0 : Addr) (za1 : Addr) (zl2 : Nat) (zn3 : Int) (zn4 : Int) (zn5 : Int) (I : Bool → Int → Hp → Prop) (μ : Bool → Int → Hp → Nat) (b670 : Bool) (n680 : Int) (s : Hp) (h0 : I b670 n680 s)
    (hr : ∀ (b67 : Bool) (n68 : Int) (s : Hp), I b67 n68 s → B_law10_RankThird_1 W R nx0 za0 za1 zl2 zn3 zn4 zn5 b67 n68 (fun vs => N_law10_RankThird_1 I μ b67 n68 s vs) s) : L_law10_RankThird_1 W R nx0 za0 za1 zl2 zn3 zn4 zn5 b670 n680 s := by
  refine ⟨fun vs s => ∃ b67 n68, vs = [(.bool b67), (.int .i64 n68)] ∧ I b67 n68 s, fun vs s => (match vs with | [.bool b67, .int _ n68] => μ b67 n68 s | _ => 0), ⟨⟨⟨_, rfl⟩, ⟨⟨_, rfl⟩, trivial⟩⟩, ⟨_, _, rfl, h0⟩⟩, ?_⟩
  intro b67 n68 s hI j
  obtain ⟨b67', n68', hy, hI⟩ := hI
  have hI' : I b67 n68 s := by cases hy; exact hI
  have hh := hr b67 n68 s hI'
  rw [← B_law10_RankThird_1_eq W R nx0 za0 za1 zl2 zn3 zn4 zn5 b67 n68 _ j] at hh
  refine vc_mono ?_ _ _ hh
  exact KLoop_mono (fun vs s' h => by obtain ⟨b671, n681, rfl, h1, h2⟩ := h; exact ⟨⟨⟨_, rfl⟩, ⟨⟨_, rfl⟩, trivial⟩⟩, ⟨_, _, rfl, h1⟩, h2⟩)
def B_law10_RankThird_2 (W : World) (R : Ending → Hp → Prop) (za0 : Addr) (za1 : Addr) (zl2 : Nat) (zn3 : Int) (zn4 : Int) (zn5 : Int) (b97 : Bool) (n98 : Int) (nx2 : List Value → Hp → Prop) : Hp → Prop :=
  BR (decide (n98 < zn5))
    (RDI .i64 (Addr.add za0 0) fun n99 =>
      RDI .i64 (Addr.add za0 1) fun n100 =>
        RDL (Addr.add za0 2) fun x101 l102 c103 =>
          RDL (Addr.add za0 3) fun x104 l105 c106 =>
            CALL Pg W F_rank_Place [(.agg #[(.int .i64 n99), (.int .i64 n100), (.slice x101 l102 c103), (.slice x104 l105 c106)]), (.int .i64 n98)]
              (fun v107 => TUP v107 fun q109 => HD q109 fun v110 r111 => AGG v110 fun q112 => HD q112 fun v113 r114 => TYI .i64 v113 fun n115 =>
                HD r114 fun v116 r117 => TYI .i64 v116 fun n118 =>
                  NL r117 <|
                    HD r111 fun v119 r120 => TYI .i64 v119 fun n121 =>
                      NL r120 <|
                        NEWZ Pg 29 fun B122 =>
                          WR (Addr.add ⟨B122, 0, none⟩ 0) (.int .i64 n115) <|
                            WR (Addr.add ⟨B122, 0, none⟩ 1) (.int .i64 n118) <|
                              RDI .i64 (Addr.add za0 0) fun n123 =>
                                L_law10_RankThird_3 W R nx2 za0 za1 zl2 zn3 zn4 n98 ⟨B122, 0, none⟩ n121 zn5 n123 b97 1 1 0)
                (fun e108 => R (.panicked e108)))
    (CALL Pg W F_law10_awake []
      (fun v124 => TYB v124 fun b126 =>
        R (.returned (.bool b126)))
        (fun e125 => R (.panicked e125)))
theorem B_law10_RankThird_2_eq (W : World) (R : Ending → Hp → Prop) (za0 : Addr) (za1 : Addr) (zl2 : Nat) (zn3 : Int) (zn4 : Int) (zn5 : Int) (b97 : Bool) (n98 : Int) (nx2 : List Value → Hp → Prop) (j : Tm) : vc Pg W 242 rs_7 an_7 false (sub (bodyOf Try.f7) [1, 1, 1, 1, 1, 1, 0, 1, 0, 0]) 4 (KLoop [2, 97] [1, 3, 8, 9, 96, 242] [(.pointer (some za0)), (.slice (some za1) zl2 zl2), (.int .i64 zn3), (.int .i64 zn4), (.int .i64 zn5), (.tuple #[])] nx2 (KBlk 4 (KS Pg W 242 rs_7 an_7 false (sub (bodyOf Try.f7) [1, 1, 1, 1, 1, 1, 1]) 0 (fin Pg W 242 rv_7 R)))) (known [2, 97] [(.bool b97), (.int .i64 n98)] (known [1, 3, 8, 9, 96, 242] [(.pointer (some za0)), (.slice (some za1) zl2 zl2), (.int .i64 zn3), (.int .i64 zn4), (.int .i64 zn5), (.tuple #[])] j)) = B_law10_RankThird_2 W R za0 za1 zl2 zn3 zn4 zn5 b97 n98 nx2 := by kernel_rfl
def N_law10_RankThird_2 (I : Bool → Int → Hp → Prop) (μ : Bool → Int → Hp → Nat) (b970 : Bool) (n980 : Int) (s : Hp) (vs : List Value) : Hp → Prop := fun s' => ∃ b97 n98, vs = [(.bool b97), (.int .i64 n98)] ∧ I b97 n98 s' ∧ μ b97 n98 s' < μ b970 n980 s
theorem L_law10_RankThird_2_rule (W : World) (R : Ending → Hp → Prop) (za0 : Addr) (za1 : Addr) (zl2 : Nat) (zn3 : Int) (zn4 : Int) (zn5 : Int) (I : Bool → Int → Hp → Prop) (μ : Bool → Int → Hp → Nat) (b970 : Bool) (n980 : Int) (s : Hp) (h0 : I b970 n980 s)
    (hr : ∀ (b97 : Bool) (n98 : Int) (s : Hp), I b97 n98 s → B_law10_RankThird_2 W R za0 za1 zl2 zn3 zn4 zn5 b97 n98 (fun vs => N_law10_RankThird_2 I μ b97 n98 s vs) s) : L_law10_RankThird_2 W R za0 za1 zl2 zn3 zn4 zn5 b970 n980 s := by
  refine ⟨fun vs s => ∃ b97 n98, vs = [(.bool b97), (.int .i64 n98)] ∧ I b97 n98 s, fun vs s => (match vs with | [.bool b97, .int _ n98] => μ b97 n98 s | _ => 0), ⟨⟨⟨_, rfl⟩, ⟨⟨_, rfl⟩, trivial⟩⟩, ⟨_, _, rfl, h0⟩⟩, ?_⟩
  intro b97 n98 s hI j
  obtain ⟨b97', n98', hy, hI⟩ := hI
  have hI' : I b97 n98 s := by cases hy; exact hI
  have hh := hr b97 n98 s hI'
  rw [← B_law10_RankThird_2_eq W R za0 za1 zl2 zn3 zn4 zn5 b97 n98 _ j] at hh
  refine vc_mono ?_ _ _ hh
  exact KLoop_mono (fun vs s' h => by obtain ⟨b971, n981, rfl, h1, h2⟩ := h; exact ⟨⟨⟨_, rfl⟩, ⟨⟨_, rfl⟩, trivial⟩⟩, ⟨_, _, rfl, h1⟩, h2⟩)
def B_law10_RankThird_3 (W : World) (R : Ending → Hp → Prop) (nx2 : List Value → Hp → Prop) (za0 : Addr) (za1 : Addr) (zl2 : Nat) (zn3 : Int) (zn4 : Int) (zn5 : Int) (za6 : Addr) (zn7 : Int) (zn8 : Int) (zn9 : Int) (b127 : Bool) (n128 : Int) (n129 : Int) (n130 : Int) (nx3 : List Value → Hp → Prop) : Hp → Prop :=
  BR (decide (n130 < zn9))
    (IXS (some za1) zl2 n130 1 fun a131 =>
      RDL a131 fun x132 l133 c134 =>
        IXS x132 l133 zn5 1 fun a135 =>
          RDI .i64 a135 fun n136 =>
            BR (n136 == 2)
              (J_law10_RankThird_11 W R za1 zl2 n130 zn5 za0 zn3 nx2 nx3 zn4 za6 zn7 (IntKind.wrap .i64 (n128 + 1)) n129 zn8 zn9 b127)
              (J_law10_RankThird_11 W R za1 zl2 n130 zn5 za0 zn3 nx2 nx3 zn4 za6 zn7 n128 n129 zn8 zn9 b127))
    (BR (zn7 != 0)
      (J_law10_RankThird_14 W R true za0 za1 zl2 zn3 zn4 zn8 nx2 b127 zn5 n128 n129)
      (RDI .i64 (Addr.add za6 0) fun n199 =>
        RDI .i64 (Addr.add za6 1) fun n200 =>
          CALL Pg W F_law10_span [(.int .i64 n128), (.int .i64 n129)]
            (fun v201 => AGG v201 fun q203 => HD q203 fun v204 r205 => TYI .i64 v204 fun n206 =>
              HD r205 fun v207 r208 => TYI .i64 v207 fun n209 =>
                NL r208 <|
                  ANDS (RDI .i64 (Addr.add za6 0) fun n212 =>
                    RDI .i64 (Addr.add za6 1) fun n213 =>
                      fun _ => ((.agg #[(.int .i64 n212), (.int .i64 n213)]) : Value) = (.agg #[(.int .i64 n199), (.int .i64 n200)])) <|
                    J_law10_RankThird_14 W R (!((n199 == n206) && (n200 == n209))) za0 za1 zl2 zn3 zn4 zn8 nx2 b127 zn5 n128 n129)
              (fun e202 => R (.panicked e202))))
theorem B_law10_RankThird_3_eq (W : World) (R : Ending → Hp → Prop) (nx2 : List Value → Hp → Prop) (za0 : Addr) (za1 : Addr) (zl2 : Nat) (zn3 : Int) (zn4 : Int) (zn5 : Int) (za6 : Addr) (zn7 : Int) (zn8 : Int) (zn9 : Int) (b127 : Bool) (n128 : Int) (n129 : Int) (n130 : Int) (nx3 : List Value → Hp → Prop) (j : Tm) : vc Pg W 242 rs_7 an_7 false (sub (bodyOf Try.f7) [1, 1, 1, 1, 1, 1, 0, 1, 0, 0, 1, 1, 0, 0, 1, 1, 1, 0, 1, 0, 0]) 6 (KLoop [2, 14, 15, 108] [1, 3, 8, 9, 11, 12, 13, 96, 97, 107, 242] [(.pointer (some za0)), (.slice (some za1) zl2 zl2), (.int .i64 zn3), (.int .i64 zn4), (.int .i64 zn5), (.pointer (some za6)), (.int .i64 zn7), (.int .i64 zn8), (.int .i64 zn5), (.int .i64 zn9), (.tuple #[])] nx3 (KBlk 6 (KS Pg W 242 rs_7 an_7 false (sub (bodyOf Try.f7) [1, 1, 1, 1, 1, 1, 0, 1, 0, 0, 1, 1, 0, 0, 1, 1, 1, 1]) 5 (KBlk 5 (KS Pg W 242 rs_7 an_7 false (sub (bodyOf Try.f7) [1, 1, 1, 1, 1, 1, 0, 1, 0, 0, 1, 1, 1]) 4 (KLoop [2, 97] [1, 3, 8, 9, 96, 242] [(.pointer (some za0)), (.slice (some za1) zl2 zl2), (.int .i64 zn3), (.int .i64 zn4), (.int .i64 zn8), (.tuple #[])] nx2 (KBlk 4 (KS Pg W 242 rs_7 an_7 false (sub (bodyOf Try.f7) [1, 1, 1, 1, 1, 1, 1]) 0 (fin Pg W 242 rv_7 R))))))))) (known [2, 14, 15, 108] [(.bool b127), (.int .i64 n128), (.int .i64 n129), (.int .i64 n130)] (known [1, 3, 8, 9, 11, 12, 13, 96, 97, 107, 242] [(.pointer (some za0)), (.slice (some za1) zl2 zl2), (.int .i64 zn3), (.int .i64 zn4), (.int .i64 zn5), (.pointer (some za6)), (.int .i64 zn7), (.int .i64 zn8), (.int .i64 zn5), (.int .i64 zn9), (.tuple #[])] j)) = B_law10_RankThird_3 W R nx2 za0 za1 zl2 zn3 zn4 zn5 za6 zn7 zn8 zn9 b127 n128 n129 n130 nx3 := by kernel_rfl
def N_law10_RankThird_3 (I : Bool → Int → Int → Int → Hp → Prop) (μ : Bool → Int → Int → Int → Hp → Nat) (b1270 : Bool) (n1280 : Int) (n1290 : Int) (n1300 : Int) (s : Hp) (vs : List Value) : Hp → Prop := fun s' => ∃ b127 n128 n129 n130, vs = [(.bool b127), (.int .i64 n128), (.int .i64 n129), (.int .i64 n130)] ∧ I b127 n128 n129 n130 s' ∧ μ b127 n128 n129 n130 s' < μ b1270 n1280 n1290 n1300 s
theorem L_law10_RankThird_3_rule (W : World) (R : Ending → Hp → Prop) (nx2 : List Value → Hp → Prop) (za0 : Addr) (za1 : Addr) (zl2 : Nat) (zn3 : Int) (zn4 : Int) (zn5 : Int) (za6 : Addr) (zn7 : Int) (zn8 : Int) (zn9 : Int) (I : Bool → Int → Int → Int → Hp → Prop) (μ : Bool → Int → Int → Int → Hp → Nat) (b1270 : Bool) (n1280 : Int) (n1290 : Int) (n1300 : Int) (s : Hp) (h0 : I b1270 n1280 n1290 n1300 s)
    (hr : ∀ (b127 : Bool) (n128 : Int) (n129 : Int) (n130 : Int) (s : Hp), I b127 n128 n129 n130 s → B_law10_RankThird_3 W R nx2 za0 za1 zl2 zn3 zn4 zn5 za6 zn7 zn8 zn9 b127 n128 n129 n130 (fun vs => N_law10_RankThird_3 I μ b127 n128 n129 n130 s vs) s) : L_law10_RankThird_3 W R nx2 za0 za1 zl2 zn3 zn4 zn5 za6 zn7 zn8 zn9 b1270 n1280 n1290 n1300 s := by
  refine ⟨fun vs s => ∃ b127 n128 n129 n130, vs = [(.bool b127), (.int .i64 n128), (.int .i64 n129), (.int .i64 n130)] ∧ I b127 n128 n129 n130 s, fun vs s => (match vs with | [.bool b127, .int _ n128, .int _ n129, .int _ n130] => μ b127 n128 n129 n130 s | _ => 0), ⟨⟨⟨_, rfl⟩, ⟨⟨_, rfl⟩, ⟨⟨_, rfl⟩, ⟨⟨_, rfl⟩, trivial⟩⟩⟩⟩, ⟨_, _, _, _, rfl, h0⟩⟩, ?_⟩
  intro b127 n128 n129 n130 s hI j
  obtain ⟨b127', n128', n129', n130', hy, hI⟩ := hI
  have hI' : I b127 n128 n129 n130 s := by cases hy; exact hI
  have hh := hr b127 n128 n129 n130 s hI'
  rw [← B_law10_RankThird_3_eq W R nx2 za0 za1 zl2 zn3 zn4 zn5 za6 zn7 zn8 zn9 b127 n128 n129 n130 _ j] at hh
  refine vc_mono ?_ _ _ hh
  exact KLoop_mono (fun vs s' h => by obtain ⟨b1271, n1281, n1291, n1301, rfl, h1, h2⟩ := h; exact ⟨⟨⟨_, rfl⟩, ⟨⟨_, rfl⟩, ⟨⟨_, rfl⟩, ⟨⟨_, rfl⟩, trivial⟩⟩⟩⟩, ⟨_, _, _, _, rfl, h1⟩, h2⟩)
def B_law10_RankThird_4 (W : World) (R : Ending → Hp → Prop) (nx2 : List Value → Hp → Prop) (nx3 : List Value → Hp → Prop) (za0 : Addr) (za1 : Addr) (zl2 : Nat) (zn3 : Int) (zn4 : Int) (zn5 : Int) (za6 : Addr) (zn7 : Int) (zn8 : Int) (zn9 : Int) (zn10 : Int) (zn11 : Int) (zn12 : Int) (zn13 : Int) (b214 : Bool) (n215 : Int) (nx4 : List Value → Hp → Prop) : Hp → Prop :=
  BR (decide (n215 < zn13))
    (IXS (some za1) zl2 zn5 1 fun a216 =>
      RDL a216 fun x217 l218 c219 =>
        IXS x217 l218 zn10 1 fun a220 =>
          RDI .i64 a220 fun n221 =>
            BR (n221 == 2)
              (IXS (some za1) zl2 zn10 1 fun a222 =>
                RDL a222 fun x223 l224 c225 =>
                  IXS x223 l224 n215 1 fun a226 =>
                    RDI .i64 a226 fun n227 =>
                      J_law10_RankThird_16 W R (n227 == 2) za1 zl2 zn5 n215 za0 zn3 zn4 za6 zn7 zn8 zn9 zn10 zn11 zn12 zn13 nx4 b214)
              (J_law10_RankThird_16 W R false za1 zl2 zn5 n215 za0 zn3 zn4 za6 zn7 zn8 zn9 zn10 zn11 zn12 zn13 nx4 b214))
    (NX [(.pointer (some za0)), (.slice (some za1) zl2 zl2), (.int .i64 zn3), (.int .i64 zn4), (.int .i64 zn5), (.pointer (some za6)), (.int .i64 zn7), (.int .i64 zn11), (.int .i64 zn5), (.int .i64 zn12), (.tuple #[])] [(.pointer (some za0)), (.slice (some za1) zl2 zl2), (.int .i64 zn3), (.int .i64 zn4), (.int .i64 zn5), (.pointer (some za6)), (.int .i64 zn7), (.int .i64 zn11), (.int .i64 zn5), (.int .i64 zn12), (.tuple #[])] (nx3 [(.bool b214), (.int .i64 zn8), (.int .i64 zn9), (.int .i64 (IntKind.wrap .i64 (zn10 + 1)))]))
theorem B_law10_RankThird_4_eq (W : World) (R : Ending → Hp → Prop) (nx2 : List Value → Hp → Prop) (nx3 : List Value → Hp → Prop) (za0 : Addr) (za1 : Addr) (zl2 : Nat) (zn3 : Int) (zn4 : Int) (zn5 : Int) (za6 : Addr) (zn7 : Int) (zn8 : Int) (zn9 : Int) (zn10 : Int) (zn11 : Int) (zn12 : Int) (zn13 : Int) (b214 : Bool) (n215 : Int) (nx4 : List Value → Hp → Prop) (j : Tm) : vc Pg W 242 rs_7 an_7 false (sub (bodyOf Try.f7) [1, 1, 1, 1, 1, 1, 0, 1, 0, 0, 1, 1, 0, 0, 1, 1, 1, 0, 1, 0, 0, 1, 1, 0, 0, 1, 1, 1, 1, 1, 1, 0, 0]) 8 (KLoop [2, 178] [1, 3, 8, 9, 11, 12, 13, 14, 15, 16, 96, 97, 107, 108, 177, 242] [(.pointer (some za0)), (.slice (some za1) zl2 zl2), (.int .i64 zn3), (.int .i64 zn4), (.int .i64 zn5), (.pointer (some za6)), (.int .i64 zn7), (.int .i64 zn8), (.int .i64 zn9), (.int .i64 zn10), (.int .i64 zn11), (.int .i64 zn5), (.int .i64 zn12), (.int .i64 zn10), (.int .i64 zn13), (.tuple #[])] nx4 (KBlk 8 (KBlk 7 (KS Pg W 242 rs_7 an_7 false (sub (bodyOf Try.f7) [1, 1, 1, 1, 1, 1, 0, 1, 0, 0, 1, 1, 0, 0, 1, 1, 1, 0, 1, 0, 0, 1, 1, 1]) 6 (KLoop [2, 14, 15, 108] [1, 3, 8, 9, 11, 12, 13, 96, 97, 107, 242] [(.pointer (some za0)), (.slice (some za1) zl2 zl2), (.int .i64 zn3), (.int .i64 zn4), (.int .i64 zn5), (.pointer (some za6)), (.int .i64 zn7), (.int .i64 zn11), (.int .i64 zn5), (.int .i64 zn12), (.tuple #[])] nx3 (KBlk 6 (KS Pg W 242 rs_7 an_7 false (sub (bodyOf Try.f7) [1, 1, 1, 1, 1, 1, 0, 1, 0, 0, 1, 1, 0, 0, 1, 1, 1, 1]) 5 (KBlk 5 (KS Pg W 242 rs_7 an_7 false (sub (bodyOf Try.f7) [1, 1, 1, 1, 1, 1, 0, 1, 0, 0, 1, 1, 1]) 4 (KLoop [2, 97] [1, 3, 8, 9, 96, 242] [(.pointer (some za0)), (.slice (some za1) zl2 zl2), (.int .i64 zn3), (.int .i64 zn4), (.int .i64 zn11), (.tuple #[])] nx2 (KBlk 4 (KS Pg W 242 rs_7 an_7 false (sub (bodyOf Try.f7) [1, 1, 1, 1, 1, 1, 1]) 0 (fin Pg W 242 rv_7 R))))))))))))) (known [2, 178] [(.bool b214), (.int .i64 n215)] (known [1, 3, 8, 9, 11, 12, 13, 14, 15, 16, 96, 97, 107, 108, 177, 242] [(.pointer (some za0)), (.slice (some za1) zl2 zl2), (.int .i64 zn3), (.int .i64 zn4), (.int .i64 zn5), (.pointer (some za6)), (.int .i64 zn7), (.int .i64 zn8), (.int .i64 zn9), (.int .i64 zn10), (.int .i64 zn11), (.int .i64 zn5), (.int .i64 zn12), (.int .i64 zn10), (.int .i64 zn13), (.tuple #[])] j)) = B_law10_RankThird_4 W R nx2 nx3 za0 za1 zl2 zn3 zn4 zn5 za6 zn7 zn8 zn9 zn10 zn11 zn12 zn13 b214 n215 nx4 := by kernel_rfl
def N_law10_RankThird_4 (I : Bool → Int → Hp → Prop) (μ : Bool → Int → Hp → Nat) (b2140 : Bool) (n2150 : Int) (s : Hp) (vs : List Value) : Hp → Prop := fun s' => ∃ b214 n215, vs = [(.bool b214), (.int .i64 n215)] ∧ I b214 n215 s' ∧ μ b214 n215 s' < μ b2140 n2150 s
theorem L_law10_RankThird_4_rule (W : World) (R : Ending → Hp → Prop) (nx2 : List Value → Hp → Prop) (nx3 : List Value → Hp → Prop) (za0 : Addr) (za1 : Addr) (zl2 : Nat) (zn3 : Int) (zn4 : Int) (zn5 : Int) (za6 : Addr) (zn7 : Int) (zn8 : Int) (zn9 : Int) (zn10 : Int) (zn11 : Int) (zn12 : Int) (zn13 : Int) (I : Bool → Int → Hp → Prop) (μ : Bool → Int → Hp → Nat) (b2140 : Bool) (n2150 : Int) (s : Hp) (h0 : I b2140 n2150 s)
    (hr : ∀ (b214 : Bool) (n215 : Int) (s : Hp), I b214 n215 s → B_law10_RankThird_4 W R nx2 nx3 za0 za1 zl2 zn3 zn4 zn5 za6 zn7 zn8 zn9 zn10 zn11 zn12 zn13 b214 n215 (fun vs => N_law10_RankThird_4 I μ b214 n215 s vs) s) : L_law10_RankThird_4 W R nx2 nx3 za0 za1 zl2 zn3 zn4 zn5 za6 zn7 zn8 zn9 zn10 zn11 zn12 zn13 b2140 n2150 s := by
  refine ⟨fun vs s => ∃ b214 n215, vs = [(.bool b214), (.int .i64 n215)] ∧ I b214 n215 s, fun vs s => (match vs with | [.bool b214, .int _ n215] => μ b214 n215 s | _ => 0), ⟨⟨⟨_, rfl⟩, ⟨⟨_, rfl⟩, trivial⟩⟩, ⟨_, _, rfl, h0⟩⟩, ?_⟩
  intro b214 n215 s hI j
  obtain ⟨b214', n215', hy, hI⟩ := hI
  have hI' : I b214 n215 s := by cases hy; exact hI
  have hh := hr b214 n215 s hI'
  rw [← B_law10_RankThird_4_eq W R nx2 nx3 za0 za1 zl2 zn3 zn4 zn5 za6 zn7 zn8 zn9 zn10 zn11 zn12 zn13 b214 n215 _ j] at hh
  refine vc_mono ?_ _ _ hh
  exact KLoop_mono (fun vs s' h => by obtain ⟨b2141, n2151, rfl, h1, h2⟩ := h; exact ⟨⟨⟨_, rfl⟩, ⟨⟨_, rfl⟩, trivial⟩⟩, ⟨_, _, rfl, h1⟩, h2⟩)
def T_law10_RankThird (W : World) (n1 : Int) (n2 : Int) (x3 : Option Addr) (l4 : Nat) (c5 : Nat) (x6 : Option Addr) (l7 : Nat) (c8 : Nat) (R : Ending → Hp → Prop) : Hp → Prop :=
  NEW 25 [(.int .i64 n1), (.int .i64 n2), (.slice x3 l4 c5), (.slice x6 l7 c8)] fun B9 =>
    RDI .i64 (Addr.add ⟨B9, 0, none⟩ 0) fun n10 =>
      RDI .i64 (Addr.add ⟨B9, 0, none⟩ 1) fun n11 =>
        RDL (Addr.add ⟨B9, 0, none⟩ 2) fun x12 l13 c14 =>
          RDL (Addr.add ⟨B9, 0, none⟩ 3) fun x15 l16 c17 =>
            CALL Pg W F_law10_far [(.agg #[(.int .i64 n10), (.int .i64 n11), (.slice x12 l13 c14), (.slice x15 l16 c17)])]
              (fun v18 => TYB v18 fun b20 =>
                BR b20
                  (J_law10_RankThird_0 W R true B9)
                  (RDI .i64 (Addr.add ⟨B9, 0, none⟩ 0) fun n28 =>
                    RDI .i64 (Addr.add ⟨B9, 0, none⟩ 1) fun n29 =>
                      RDL (Addr.add ⟨B9, 0, none⟩ 2) fun x30 l31 c32 =>
                        RDL (Addr.add ⟨B9, 0, none⟩ 3) fun x33 l34 c35 =>
                          CALL Pg W F_ref10_Table [(.agg #[(.int .i64 n28), (.int .i64 n29), (.slice x30 l31 c32), (.slice x33 l34 c35)])]
                            (fun v36 => TYB v36 fun b38 =>
                              J_law10_RankThird_0 W R (!b38) B9)
                              (fun e37 => R (.panicked e37))))
                (fun e19 => R (.panicked e19))
theorem T_law10_RankThird_eq (W : World) (n1 : Int) (n2 : Int) (x3 : Option Addr) (l4 : Nat) (c5 : Nat) (x6 : Option Addr) (l7 : Nat) (c8 : Nat) (R : Ending → Hp → Prop) : vfun Pg W an_7 Try.f7 [(.agg #[(.int .i64 n1), (.int .i64 n2), (.slice x3 l4 c5), (.slice x6 l7 c8)])] R = T_law10_RankThird W n1 n2 x3 l4 c5 x6 l7 c8 R := by kernel_rfl
theorem does_law10_RankThird (W : World) (n1 : Int) (n2 : Int) (x3 : Option Addr) (l4 : Nat) (c5 : Nat) (x6 : Option Addr) (l7 : Nat) (c8 : Nat) (R : Ending → Hp → Prop) (s : Hp) (h : T_law10_RankThird W n1 n2 x3 l4 c5 x6 l7 c8 R s) : Does Pg W F_law10_RankThird #[(.agg #[(.int .i64 n1), (.int .i64 n2), (.slice x3 l4 c5), (.slice x6 l7 c8)])] s R :=
  does_of_vfun Pg W an_7 Try.func7 rfl (by kernel_rfl) (by rw [T_law10_RankThird_eq]; exact h)
end Go.Proofs.Ytkgcbfbbcaajpaa.G

/- The statement RankThird. -/
set_option linter.unusedSimpArgs false
set_option linter.unusedVariables false
set_option maxRecDepth 20000
namespace Go.Proofs.Ytkgcbfbbcaajpaa.G
open Go.V
def befRow (T : Tb) (i k : Nat) : List Int := (List.range k).map fun b => befN T i b
theorem befRow_len (T : Tb) (i k : Nat) : (befRow T i k).length = k := by unfold befRow; simp
theorem befRow_succ (T : Tb) (i k : Nat) : befRow T i (k + 1) = befRow T i k ++ [befN T i k] := by unfold befRow; rw [List.range_succ, List.map_append]; rfl
theorem befRow_get {T : Tb} {i k b : Nat} (h : b < k) : (befRow T i k).getD b 0 = befN T i b := by unfold befRow; simp [List.getD, h]
section
variable {W : World} {K : VK} {E : List PanicEntry → Hp → Prop} {s : Hp} {T : Tb}
/-- The rounds over the third one. -/
theorem third_4 {R : Ending → Hp → Prop} {nx2 nx3 : List Value → Hp → Prop} {za0 za6 : Addr} {zn3 zn4 zn7 zn8 zn9 zn11 zn12 : Int} {B lo a b : Nat} {b177 : Bool} {t : Hp} (hok : okT T = true) (ha : a < T.n) (hb : b < T.n)
    (hr : Rows t lo B T.n fun i => befRow T i T.n) (h : ∀ q, nx3 [.bool q, .int .i64 zn8, .int .i64 zn9, .int .i64 (IntKind.wrap .i64 ((b : Int) + 1))] t) :
    L_law10_RankThird_4 W R nx2 nx3 za0 ⟨B, 0, none⟩ T.n zn3 zn4 a za6 zn7 zn8 zn9 b zn11 zn12 T.men b177 0 t := by
  have hn := men_n hok
  obtain ⟨_, n6, _, _⟩ := n_lim hok
  refine L_law10_RankThird_4_rule W R nx2 nx3 za0 ⟨B, 0, none⟩ T.n zn3 zn4 a za6 zn7 zn8 zn9 b zn11 zn12 T.men (fun _ n u => u = t ∧ ∃ k : Nat, k ≤ T.n ∧ n = k) (fun _ n _ => (T.n - n).toNat) b177 0 t ⟨rfl, 0, by omega, rfl⟩ ?_
  rintro b214 n215 u ⟨rfl, k, hk, rfl⟩
  unfold B_law10_RankThird_4
  refine BR_dec (fun h1 => ?_) (fun h1 => ⟨rfl, h b214⟩)
  have hkn : k < T.n := by omega
  have nxt : J_law10_RankThird_15 W R false za0 ⟨B, 0, none⟩ T.n zn3 zn4 a za6 zn7 zn8 zn9 b zn11 zn12 T.men (fun vs => N_law10_RankThird_4 (fun _ n v => v = u ∧ ∃ k : Nat, k ≤ T.n ∧ n = k) (fun _ n _ => (T.n - n).toNat) b214 k u vs) b214 k u := by
    unfold J_law10_RankThird_15
    rw [BR_f]
    exact ⟨rfl, _, _, rfl, ⟨rfl, k + 1, by omega, wrap_succ (by omega)⟩, ms_succ hkn (by omega)⟩
  refine hr.rd ha (Nat.le_refl _) (by rw [befRow_len]; exact hb) ?_
  rw [befRow_get hb]
  refine BR_eq (fun h2 => ?_) (fun h2 => ?_)
  · refine hr.rd hb (Nat.le_refl _) (by rw [befRow_len]; exact hkn) ?_
    rw [befRow_get hkn]
    unfold J_law10_RankThird_16
    refine BR_eq (fun h3 => ?_) (fun h3 => nxt)
    refine hr.rd ha (Nat.le_refl _) (by rw [befRow_len]; exact hkn) ?_
    rw [befRow_get hkn, befN_two.2 (sur_trans hok (befN_two.1 h2) (befN_two.1 h3))]
    exact nxt
  · unfold J_law10_RankThird_16
    exact nxt
def lo_k (T : Tb) (a k : Nat) : Int := 1 + ((cntB (fun o => surT T o a) k : Nat) : Int)
def hi_k (T : Tb) (a k : Nat) : Int := 1 + ((cntB (fun o => canT T o a) k : Nat) : Int)
theorem lo_succ (T : Tb) (a k : Nat) : lo_k T a (k + 1) = if befN T k a = 2 then lo_k T a k + 1 else lo_k T a k := by
  unfold lo_k
  rw [cntB_succ]
  by_cases h : befN T k a = 2
  · rw [if_pos h, befN_two.1 h, if_pos rfl]; omega
  · have : surT T k a = false := by cases hh : surT T k a with | false => rfl | true => exact absurd (befN_two.2 hh) h
    rw [if_neg h, this]; simp
theorem hi_succ {T : Tb} (hok : okT T = true) (a k : Nat) : hi_k T a (k + 1) = if befN T k a = 0 then hi_k T a k else hi_k T a k + 1 := by
  unfold hi_k
  rw [cntB_succ]
  by_cases h : befN T k a = 0
  · rw [if_pos h, (befN_zero hok).1 h]; simp
  · have : canT T k a = true := by cases hh : canT T k a with | true => rfl | false => exact absurd ((befN_zero hok).2 hh) h
    rw [if_neg h, this, if_pos rfl]; omega
theorem lo_lim (T : Tb) (a k : Nat) : 1 ≤ lo_k T a k ∧ lo_k T a k ≤ 1 + k := by unfold lo_k; have := cntB_le (fun o => surT T o a) k; omega
theorem hi_lim (T : Tb) (a k : Nat) : 1 ≤ hi_k T a k ∧ hi_k T a k ≤ 1 + k := by unfold hi_k; have := cntB_le (fun o => canT T o a) k; omega
theorem w_RankThird {x y : Option Addr} {c c' : Nat} (hx : RowAt s x (ints T.off)) (hy : ScAt s y T.sc) (h : ∀ s', Ext s s' → K (.bool true) s') :
    CALL Pg W F_law10_RankThird [.agg #[.int .i64 T.men, .int .i64 T.sheets, .slice x T.off.length c, .slice y T.sc.length c']] K E s := by
  refine does_law10_RankThird W T.men T.sheets x T.off.length c y T.sc.length c' _ s ?_
  unfold T_law10_RankThird
  refine NEW_rule fun s1 e1 z1 n1 _ => ?_
  have ta := tbA_new e1 hx hy n1
  refine rdT ta fun x c y c' hx hy => ?_
  refine c_far fun s2 b e2 hb => ?_
  try simp only [TUP_mk, AGG_mk, HD_mk, NL_mk, TYI_mk, TYB_mk, TYP_mk, TYL_mk, TYS_mk, TYM_mk, SO_mk, NX_mk, endK_mk, endK_mk', add_0]
  have fin : ∀ t, Ext s1 t → J_law10_RankThird_0 W (endK K E) true s.size t := fun t et => by
    unfold J_law10_RankThird_0
    rw [BR_t]
    exact c_awake' et fun t2 e => h t2 (e1.trans e)
  refine BR_bool (fun _ => fin s2 e2) (fun hf => ?_)
  have hlo : T.off.length ≤ 100000 := by have := hb hf; omega
  refine rdT (ta.ext e2) fun x c y c' hx hy => ?_
  refine f_Table hx hy hlo fun s3 e3 => ?_
  try simp only [TUP_mk, AGG_mk, HD_mk, NL_mk, TYI_mk, TYB_mk, TYP_mk, TYL_mk, TYS_mk, TYM_mk, SO_mk, NX_mk, endK_mk, endK_mk', add_0]
  have e13 := e2.trans e3
  cases hok : okT T with
  | false => exact fin s3 e13
  | true =>
    have hn := men_n hok
    obtain ⟨np, n6, _, _⟩ := n_lim hok
    unfold J_law10_RankThird_0
    rw [Bool.not_true, BR_f]
    refine ⟨_, (ta.ext e13).men, ?_⟩
    rw [← hn]
    refine MKS_rule (z := .slice none 0 0) (by kernel_rfl) (by omega) fun s4 e4 z4 n4 => ?_
    have e14 := e13.trans e4
    have ta4 := ta.ext e14
    refine ⟨_, ta4.men, ?_⟩
    rw [Int.toNat_natCast]
    generalize hB : s3.size = B at *
    have hlt : s1.size ≤ B := by have := e13.1; omega
    -- whatever lay before is as it was
    have tak : ∀ {u : Hp}, Kp (· = B) s4 u → Ext s1 u := fun k => ext_kp e14 hlt k
    refine L_law10_RankThird_0_rule W _ ⟨s.size, 0, none⟩ ⟨B, 0, none⟩ T.n T.men (fun _ n u => Kp (· = B) s4 u ∧ ∃ k : Nat, k ≤ T.n ∧ n = k ∧ Rows u u.size B k (fun i => befRow T i T.n) ∧ ∀ i, k ≤ i → i < T.n → Own u ⟨B, i, none⟩ (.slice none 0 0)) (fun _ n _ => (T.n - n).toNat) false 0 s4
      ⟨Kp.refl _, 0, by omega, rfl, ⟨fun i hi => by omega⟩, fun i _ hi => n4 i hi⟩ ?_
    rintro b39 n40 t ⟨kt, a, ha, rfl, hrows, hrest⟩
    have et := tak kt
    unfold B_law10_RankThird_0
    refine BR_dec (fun h1 => ?_) (fun h1 => ?_)
    · have han : a < T.n := by omega
      refine ⟨_, (ta.ext et).men, ?_⟩
      have hBt : B < t.size := by have := kt.1; omega
      refine L_law10_RankThird_1_rule W _ _ ⟨s.size, 0, none⟩ ⟨B, 0, none⟩ T.n a T.men T.men (fun _ n u => Kp (· = B) t u ∧ ∃ k : Nat, k ≤ T.n ∧ n = k ∧ Rows u t.size B a (fun i => befRow T i T.n) ∧ (∃ x c, Own u ⟨B, a, none⟩ (.slice x k c) ∧ Li t.size u x k c (befRow T a k)) ∧ ∀ i, a < i → i < T.n → Own u ⟨B, i, none⟩ (.slice none 0 0)) (fun _ n _ => (T.n - n).toNat) b39 0 t
        ⟨Kp.refl _, 0, by omega, rfl, hrows, ⟨none, 0, hrest a (Nat.le_refl _) han, ⟨Fr.nil _ _ _, fun b hb => by cases hb⟩⟩, fun i hi => hrest i (by omega)⟩ ?_
      rintro b67 n68 u ⟨ku, k, hk, rfl, hru, ⟨xx, cx, hox, hli⟩, hrestu⟩
      have eu := tak (kt.trans ku)
      unfold B_law10_RankThird_1
      refine BR_dec (fun h2 => ?_) (fun h2 => ?_)
      · have hkn : k < T.n := by omega
        refine rdT (ta.ext eu) fun x c y c' hx hy => ?_
        refine c_BeforeN hok han hkn hlo hx hy fun u2 f2 => ?_
        try simp only [TUP_mk, AGG_mk, HD_mk, NL_mk, TYI_mk, TYB_mk, TYP_mk, TYL_mk, TYS_mk, TYM_mk, SO_mk, NX_mk, endK_mk, endK_mk', add_0]
        rw [bne_self_eq_false, BR_f]
        have hbl := befN_lim T a k
        unfold J_law10_RankThird_5
        rw [decide_eq_false (show ¬ befN T a k < 0 by omega), BR_f]
        unfold J_law10_RankThird_4
        rw [decide_eq_false (show ¬ befN T a k > 2 by omega), BR_f]
        refine IXS_nat han ?_
        have hox2 := f2.own hox
        refine ⟨_, _, _, by rw [add_nil, Nat.zero_add, Nat.mul_one]; exact hox2.cell, ?_⟩
        refine ne1 fun u3 f3 z3 o3 => ?_
        have f23 := f2.trans f3
        refine li_add (hli.ext f23) (Nat.le_trans ku.1 f23.1) o3.cell (by rw [befRow_len]; omega) fun u4 x4 c4 k4 li4 g4 => ?_
        have hxb : ∀ q, (∃ a', xx = some a' ∧ a'.block = q) → t.size ≤ q := fun q ⟨a', h1, h2⟩ => by rw [← h2]; exact hli.fr.fr a' h1
        refine IXS_nat han ?_
        have hox4 : Own u4 ⟨B, a, none⟩ (.slice xx k cx) := k4.own (fun hh => by have := hxb _ hh; simp at this; omega) (f3.own hox2)
        rw [add_nil, Nat.zero_add, Nat.mul_one]
        refine WR_own hox4 rfl ?_
        have k5 : Kp (· = B) t (setC u4 ⟨B, a, none⟩ (.slice x4 (k + 1) c4)) := by
          have k24 : Kp (· = B) t u4 := ⟨Nat.le_trans (Nat.le_trans ku.1 f23.1) k4.1, fun q hq hne => by
            rw [k4.2 q (Nat.lt_of_lt_of_le (Nat.lt_of_lt_of_le hq ku.1) f23.1) (fun hh => by have := hxb _ hh; omega), f23.2 q (Nat.lt_of_lt_of_le hq ku.1)]
            exact ku.2 q hq hne⟩
          exact Kp.setC k24 (.inl rfl)
        have hlB : ∀ a', x4 = some a' → ¬ a'.block = B := fun a' ha' => by have := li4.fr.fr a' ha'; omega
        refine ⟨rfl, _, _, rfl, ⟨k5, k + 1, by omega, wrap_succ (by omega), ?_, ⟨x4, c4, own_set hox4, ?_⟩, fun i hi1 hi2 => ?_⟩, ms_succ hkn (by omega)⟩
        · exact ((hru.ext f23).kp k4 hxb hBt).wr
        · rw [befRow_succ]; exact li4.kp (D := (· = B)) (Kp.setC (Kp.refl _) (.inl rfl)) hlB
        · exact own_set_ne (.inr (by show i ≠ a; omega)) (k4.own (fun hh => by have := hxb _ hh; simp at this; omega) (f23.own (hrestu i hi1 hi2)))
      · have hkn : k = T.n := by omega
        subst hkn
        have hll : T.n = (befRow T a T.n).length := (befRow_len _ _ _).symm
        refine ⟨rfl, _, _, rfl, ⟨kt.trans ku, a + 1, by omega, wrap_succ (by omega), ?_, fun i hi1 hi2 => hrestu i (by omega) hi2⟩, ms_succ han (by omega)⟩
        refine (hru.lo ku.1).add (c := cx) (x := xx) (by rw [← hll]; exact hox) hli.fr.row fun a' ha' => ⟨?_, hli.lt a' ha'⟩
        have := hli.fr.fr a' ha'; omega
    · have han : a = T.n := by omega
      subst han
      refine rdT (ta.ext et) fun x c y c' hx hy => ?_
      refine c_WinnersN hok hlo hx hy fun u f => ?_
      try simp only [TUP_mk, AGG_mk, HD_mk, NL_mk, TYI_mk, TYB_mk, TYP_mk, TYL_mk, TYS_mk, TYM_mk, SO_mk, NX_mk, endK_mk, endK_mk', add_0]
      have hsl := setOf_lt (surF T) T.n
      have hcl := setOf_lt (canF T) T.n
      have h64 : 2 ^ T.n ≤ 2 ^ 6 := Nat.pow_le_pow_right (by omega) n6
      obtain ⟨i0, hi0, hc0⟩ := canF_ex hok
      have hpos := bits_pos hi0 hc0
      have eu := et.trans f
      rw [bne_self_eq_false, BR_f]
      unfold J_law10_RankThird_3
      rw [decide_eq_false (show ¬ ((setOf' (canF T) T.n : Nat) : Int) ≤ 0 by omega), BR_f]
      refine ⟨_, (ta.ext eu).men, ?_⟩
      rw [← hn]
      refine NNI_nat ?_
      rw [shr_zero _ (by omega) _ (by omega) hcl, bne_self_eq_false]
      unfold J_law10_RankThird_2
      rw [BR_f, andn_zero _ (by omega) _ (by omega) (fun i hi hb => by
        rw [setOf_bit] at hb ⊢
        simp only [Bool.and_eq_true, decide_eq_true_eq] at hb ⊢
        exact ⟨hb.1, surF_can hok hb.2⟩), bne_self_eq_false]
      unfold J_law10_RankThird_1
      rw [BR_f]
      refine ⟨_, (ta.ext eu).men, ?_⟩
      generalize hsv : ((setOf' (surF T) T.n : Nat) : Int) = SV
      generalize hcv : ((setOf' (canF T) T.n : Nat) : Int) = CV
      have hrow := hrows.ext f
      refine L_law10_RankThird_2_rule W _ ⟨s.size, 0, none⟩ ⟨B, 0, none⟩ T.n SV CV T.men (fun _ n v => Ext u v ∧ ∃ k : Nat, k ≤ T.n ∧ n = k) (fun _ n _ => (T.n - n).toNat) b39 0 u ⟨Ext.refl _, 0, by omega, rfl⟩ ?_
      rintro b97 n98 v ⟨ev, a, ha, rfl⟩
      have e1v := eu.trans ev
      unfold B_law10_RankThird_2
      refine BR_dec (fun h2 => ?_) (fun h2 => c_awake' e1v fun t2 e => h t2 (e1.trans e))
      have han : a < T.n := by omega
      refine rdT (ta.ext e1v) fun x c y c' hx hy => ?_
      refine c_PlaceN hok han hlo hx hy fun v2 g2 => ?_
      try simp only [TUP_mk, AGG_mk, HD_mk, NL_mk, TYI_mk, TYB_mk, TYP_mk, TYL_mk, TYS_mk, TYM_mk, SO_mk, NX_mk, endK_mk, endK_mk', add_0]
      refine nw2 zc_29 rfl rfl fun v3 g3 y3 p0 p1 => ?_
      have g23 := g2.trans g3
      have e13' := e1v.trans g23
      refine ⟨_, (ta.ext e13').men, ?_⟩
      generalize hnx2 : (fun vs => N_law10_RankThird_2 (fun _ n v => Ext u v ∧ ∃ k : Nat, k ≤ T.n ∧ n = k) (fun _ n _ => (T.n - n).toNat) b97 a v vs) = nx2
      refine L_law10_RankThird_3_rule W _ nx2 ⟨s.size, 0, none⟩ ⟨B, 0, none⟩ T.n SV CV a ⟨v2.size, 0, none⟩ 0 T.men T.men (fun _ lo hi n w => Ext v3 w ∧ ∃ k : Nat, k ≤ T.n ∧ n = k ∧ lo = lo_k T a k ∧ hi = hi_k T a k) (fun _ _ _ n _ => (T.n - n).toNat) b97 1 1 0 v3 ⟨Ext.refl _, 0, by omega, rfl, by simp [lo_k, cntB], by simp [hi_k, cntB]⟩ ?_
      rintro b127 n128 n129 n130 w ⟨ew, k, hk, rfl, rfl, rfl⟩
      have e1w := e13'.trans ew
      have hrw := hrow.ext (ev.trans (g23.trans ew))
      have hll := lo_lim T a k
      have hhl := hi_lim T a k
      unfold B_law10_RankThird_3
      refine BR_dec (fun h3 => ?_) (fun h3 => ?_)
      · have hkn : k < T.n := by omega
        generalize hnx : (fun vs => N_law10_RankThird_3 (fun _ lo hi n w => Ext v3 w ∧ ∃ k : Nat, k ≤ T.n ∧ n = k ∧ lo = lo_k T a k ∧ hi = hi_k T a k) (fun _ _ _ n _ => (T.n - n).toNat) b127 (lo_k T a k) (hi_k T a k) k w vs) = nx3
        have hgo : ∀ (w' : Hp) (q : Bool), Ext v3 w' → nx3 [.bool q, .int .i64 (lo_k T a (k + 1)), .int .i64 (hi_k T a (k + 1)), .int .i64 (IntKind.wrap .i64 ((k : Int) + 1))] w' := fun w' q e => by
          rw [← hnx]
          exact ⟨_, _, _, _, rfl, ⟨e, k + 1, by omega, wrap_succ (by omega), rfl, rfl⟩, ms_succ hkn (by omega)⟩
        -- behind the places
        have j7 : ∀ (w' : Hp), Ext v3 w' → J_law10_RankThird_7 W (endK K E) a SV ⟨B, 0, none⟩ T.n k ⟨s.size, 0, none⟩ nx2 nx3 CV ⟨v2.size, 0, none⟩ 0 (lo_k T a (k + 1)) (hi_k T a (k + 1)) T.men T.men b127 w' := by
          intro w' e
          have e1w' := e13'.trans e
          have hrw' := hrow.ext (ev.trans (g23.trans e))
          unfold J_law10_RankThird_7
          refine NNI_nat ?_
          have j6 : J_law10_RankThird_6 W (endK K E) false ⟨s.size, 0, none⟩ nx2 nx3 ⟨B, 0, none⟩ T.n SV CV a ⟨v2.size, 0, none⟩ 0 (lo_k T a (k + 1)) (hi_k T a (k + 1)) k T.men T.men b127 w' := by
            unfold J_law10_RankThird_6
            rw [BR_f]
            refine ⟨_, (ta.ext e1w').men, ?_⟩
            exact third_4 hok han hkn hrw' fun q => hgo w' q e
          rw [← hsv, bit_is _ (by omega) _ (by omega), setOf_bit, decide_eq_true han, Bool.true_and]
          refine BR_bool (fun hs => ?_) (fun _ => by rw [hsv]; exact j6)
          refine hrw'.rd hkn (Nat.le_refl _) (by rw [befRow_len]; exact han) ?_
          rw [befRow_get han, (befN_zero hok).2 (surF_no hs hkn), bne_self_eq_false, hsv]
          exact j6
        have j10 : ∀ hi, hi = hi_k T a (k + 1) → J_law10_RankThird_10 W (endK K E) ⟨B, 0, none⟩ T.n a k ⟨s.size, 0, none⟩ SV nx2 nx3 CV ⟨v2.size, 0, none⟩ 0 (lo_k T a (k + 1)) hi T.men T.men b127 w := by
          rintro hi rfl
          unfold J_law10_RankThird_10
          refine hrw.rd han (Nat.le_refl _) (by rw [befRow_len]; exact hkn) ?_
          rw [befRow_get hkn]
          refine BR_eq (fun h4 => ?_) (fun h4 => j7 w ew)
          have hs := befN_two.1 h4
          have hplo := plc_lo hok han hs
          have hphi := plc_hi hok han hs
          refine rdT (ta.ext e1w) fun x c y c' hx hy => ?_
          refine c_PlaceN hok hkn hlo hx hy fun w2 q2 => ?_
          try simp only [TUP_mk, AGG_mk, HD_mk, NL_mk, TYI_mk, TYB_mk, TYP_mk, TYL_mk, TYS_mk, TYM_mk, SO_mk, NX_mk, endK_mk, endK_mk', add_0]
          refine nw2 zc_29 rfl rfl fun w3 q3 _ r0 r1 => ?_
          rw [bne_self_eq_false, BR_f]
          refine ⟨_, r0.cell, _, ((q2.trans q3).cell (ew.cell p0.cell)), ?_⟩
          dsimp only
          rw [decide_eq_false (show ¬ (plcT T k).1 ≤ (plcT T a).1 by omega)]
          unfold J_law10_RankThird_9
          rw [BR_f]
          refine ⟨_, r1.cell, _, ((q2.trans q3).cell (ew.cell p1.cell)), ?_⟩
          dsimp only
          rw [decide_eq_false (show ¬ (plcT T k).2 ≤ (plcT T a).2 by omega)]
          unfold J_law10_RankThird_8
          rw [BR_f]
          exact j7 w3 (ew.trans (q2.trans q3))
        have j11 : ∀ lo, lo = lo_k T a (k + 1) → J_law10_RankThird_11 W (endK K E) ⟨B, 0, none⟩ T.n k a ⟨s.size, 0, none⟩ SV nx2 nx3 CV ⟨v2.size, 0, none⟩ 0 lo (hi_k T a k) T.men T.men b127 w := by
          rintro lo rfl
          unfold J_law10_RankThird_11
          refine hrw.rd hkn (Nat.le_refl _) (by rw [befRow_len]; exact han) ?_
          rw [befRow_get han]
          refine BR_ne (fun h4 => j10 _ ?_) (fun h4 => j10 _ ?_)
          · rw [hi_succ hok, if_neg h4, wrap_i64 (by omega) (by omega)]
          · rw [hi_succ hok, if_pos h4]
        refine hrw.rd hkn (Nat.le_refl _) (by rw [befRow_len]; exact han) ?_
        rw [befRow_get han]
        refine BR_eq (fun h4 => j11 _ ?_) (fun h4 => j11 _ ?_)
        · rw [lo_succ, if_pos h4, wrap_i64 (by omega) (by omega)]
        · rw [lo_succ, if_neg h4]
      · have hkn : k = T.n := by omega
        subst hkn
        rw [bne_self_eq_false, BR_f]
        refine ⟨_, ew.cell p0.cell, _, ew.cell p1.cell, ?_⟩
        refine c_span fun w2 q2 => ?_
        unfold spanV
        try simp only [TUP_mk, AGG_mk, HD_mk, NL_mk, TYI_mk, TYB_mk, TYP_mk, TYL_mk, TYS_mk, TYM_mk, SO_mk, NX_mk, endK_mk, endK_mk', add_0]
        refine ⟨⟨_, q2.cell (ew.cell p0.cell), _, q2.cell (ew.cell p1.cell), rfl⟩, ?_⟩
        have hp0 : (plcT T a).1 = lo_k T a T.n := rfl
        have hp1 : (plcT T a).2 = hi_k T a T.n := rfl
        rw [hp0, hp1, beq_self_eq_true, beq_self_eq_true]
        unfold J_law10_RankThird_14
        show BR false _ _ w2
        rw [BR_f]
        refine NNI_nat ?_
        rw [← hsv, bit_is _ (by omega) _ (by omega), setOf_bit, decide_eq_true han, Bool.true_and]
        have hs1 : surF T a = (hi_k T a T.n == 1) := rfl
        have hc1 : canF T a = (lo_k T a T.n == 1) := rfl
        rw [hs1, beq_self_eq_true, hsv]
        unfold J_law10_RankThird_13
        show BR false _ _ w2
        rw [BR_f]
        refine NNI_nat ?_
        rw [← hcv, bit_is _ (by omega) _ (by omega), setOf_bit, decide_eq_true han, Bool.true_and, hc1, beq_self_eq_true, hcv]
        unfold J_law10_RankThird_12
        show BR false _ _ w2
        rw [BR_f]
        refine ⟨rfl, ?_⟩
        rw [← hnx2]
        exact ⟨_, _, rfl, ⟨ev.trans (g23.trans (ew.trans q2)), a + 1, by omega, wrap_succ (by omega)⟩, ms_succ han (by omega)⟩
end
end Go.Proofs.Ytkgcbfbbcaajpaa.G

/- RankThird, from any arguments. -/
namespace Go.Proofs.Ytkgcbfbbcaajpaa.G
open Go.V
theorem v_RankThird {W : World} {s : Hp} {v0 : Value} (k0 : RdV Pg s 25 v0) : CALL Pg W F_law10_RankThird [v0] (fun v s' => v = .bool true ∧ Ext s s') (fun _ _ => False) s := by
  obtain ⟨x, c, y, c', T, rfl, hx, hy⟩ := table_rd k0
  exact w_RankThird hx hy fun s' e => ⟨rfl, e⟩
end Go.Proofs.Ytkgcbfbbcaajpaa.G

/- The row of the statement RankThird. -/
namespace Go.Proofs.Ytkgcbfbbcaajpaa.rankThird
open Go.ChangeShapes Go.WideShapes Go.ChangeAt Go.RowKit Go.V
set_option linter.unusedVariables false
theorem own : ownKnob Try.prog.godebug = none := by kernel_rfl
theorem laidOut : laidOutB Try.prog = true := by kernel_rfl
set_option maxRecDepth 100000 in
theorem lifted (os : Os) (started : os.Started) (H : Type) (enc : TypeId × Value → H) :
    ReturnsInHanded {} Try.checked os 7 .any (Rows.rankThirdSpec.pre6 enc Try.prog Try.f7 Rows.rankThirdRow.domain false) (Rows.rankThirdSpec.post enc Try.prog Try.f7 false true false false) := by
  refine returnsInHanded_of_change_sized (C := Try.checked) own started (by kernel_rfl) Try.func7
    (ChangeSpec.witness6 (enc := enc) (C := Try.checked) false ⟨#[], #[(.agg #[(.int .i64 0), (.int .i64 0), (.slice none 0 0), (.slice none 0 0)])], []⟩ 8 (by kernel_rfl) (by kernel_rfl) (by kernel_rfl) (by kernel_rfl)) ?_
  intro W base args ds gs before hval0 hW hcnd hsz0 _
  have hsz : (DataW.weightsEach Try.prog (Try.f7.params.toList ++ Rows.rankThirdSpec.plain.varTypes Try.prog) (ds ++ gs)).all (· ≤ reachBytes) = true := hsz0
  have hval : ∀ (j : Nat) t v, Try.f7.params[j]? = some t → args[j]? = some v → Value.okWide Try.prog W .any base t v := hval0
  have hW' := hW
  obtain ⟨p, q, hA0, hV, rfl, hfz, hnd⟩ := hW
  have hA : DataW.TrodAll enc Try.prog W 0 (fun _ => true) true Try.f7.params.toList args.toList ds p := hA0
  rw [Try.params7] at hA hval hsz
  obtain ⟨v0, vs0, d0, ds0, p0, q0, hargs, rfl, rfl, h0, r0⟩ := trodAll_cons hA
  obtain ⟨rfl, rfl, rfl⟩ := trodAll_nil r0
  obtain rfl : args = #[v0] := by cases args; simp_all
  obtain ⟨rfl, rfl⟩ := trodVars_none hV
  have k0 := trod_rdV (hval 0 25 v0 rfl rfl) h0
  have lt0 : ∀ x ∈ p0, x.block < W.heap.size := by obtain ⟨m, hm⟩ := h0; exact DataW.trod_lt m _ _ _ hm
  refine (calls_of_does (does_of_call (G.v_RankThird (W := W) (s := W.heap) k0))).mono fun e W' ⟨he, bel⟩ => ?_
  subst he
  exact ⟨_, rfl, _, _, _, [], _, [], hW', trodAll_mk1 (shut_bool Try.underlying4 _), (trodAll_cons_mk (Below.trod laidOut (by kernel_rfl) (of_decide_eq_true (by kernel_rfl)) h0 bel lt0) trodAll_mk0), rfl, bel.frame _, fun h => by cases h⟩
theorem over : Rows.rankThirdRow.holds Try.pinned (OpenSpec.ofChange Rows.rankThirdSpec) :=
  OpenClaim.holds_of_wide 7 Try.f7 rfl rfl rfl rfl rfl rfl rfl ⟨rfl, rfl, rfl, rfl, rfl⟩ rfl rfl rfl rfl rfl (by kernel_rfl) Try.func7 (by kernel_rfl)
    (of_decide_eq_true (by kernel_rfl)) (by unfold Func.isWrapper; first | (rw [if_pos (by decide +kernel)]; kernel_rfl) | (rw [if_neg (by decide +kernel)]; exact ⟨rfl, rfl⟩))
    (fun os started H enc _ => lifted os started H enc)
theorem proved : Rows.RankThirdSaid := over
end Go.Proofs.Ytkgcbfbbcaajpaa.rankThird
namespace Go.Proofs.Ytkgcbfbbcaajpaa
/-- The row, under a short name. -/
theorem rankThird_holds : Rows.RankThirdSaid := rankThird.proved
end Go.Proofs.Ytkgcbfbbcaajpaa
