import Derived.Test.YtfaeokcbfnlgbaaC2
/- Lemmas: contracts over the visible heap, and that they are sound; no condition. -/
/- The document's functions of layer 13: are prizes valid; who can have one. -/
set_option linter.unusedSimpArgs false
set_option linter.unusedVariables false
set_option maxRecDepth 20000
namespace Go.Proofs.Ytfaeokcbfnlgbaa.G
open Go.V
/-- Prizes as an argument lie. -/
structure PtA (s : Hp) (za : Addr) (T : PT) : Prop where
  men : ∃ x c, cellAt s (za.add 0) = some (.slice x T.n c) ∧ MnAt s x T.men
  lst : ∃ x c, cellAt s (za.add 1) = some (.slice x T.z c) ∧ PzAt s x T.list
theorem PtA.ext {s s' : Hp} {za : Addr} {T : PT} (e : Ext s s') (h : PtA s za T) : PtA s' za T where
  men := by obtain ⟨x, c, h1, h2⟩ := h.men; exact ⟨x, c, e.cell h1, h2.ext e⟩
  lst := by obtain ⟨x, c, h1, h2⟩ := h.lst; exact ⟨x, c, e.cell h1, h2.ext e⟩
theorem ptA_new {s s1 : Hp} {b : Nat} {T : PT} {x y : Option Addr} {c c' : Nat} (e : Ext s s1) (hx : MnAt s x T.men) (hy : PzAt s y T.list) (o1 : Own s1 ⟨b, 0, none⟩ (.slice x T.n c)) (o2 : Own s1 ⟨b, 1, none⟩ (.slice y T.z c')) : PtA s1 ⟨b, 0, none⟩ T :=
  ⟨⟨x, c, o1.cell, hx.ext e⟩, ⟨y, c', o2.cell, hy.ext e⟩⟩
section
variable {W : World} {K : VK} {E : List PanicEntry → Hp → Prop} {s : Hp} {T : PT}
theorem f_in {a b c : Int} (h : K (.bool (decide (b ≤ a ∧ a ≤ c))) s) : CALL Pg W F_ref13_in [.int .i64 a, .int .i64 b, .int .i64 c] K E s := by
  refine does_ref13_in W a b c _ s ?_
  unfold T_ref13_in
  refine BR_dec (fun h1 => ?_) (fun h1 => ?_)
  · have : decide (b ≤ a ∧ a ≤ c) = decide (a ≤ c) := by simp [h1]
    rw [← this]; exact h
  · have : decide (b ≤ a ∧ a ≤ c) = false := by simp [h1]
    rw [← this]; exact h
theorem f_Prizes {x y : Option Addr} {c c' : Nat} (hx : MnAt s x T.men) (hy : PzAt s y T.list) (h : ∀ s', Ext s s' → K (.bool (okP T)) s') :
    CALL Pg W F_ref13_Prizes [.agg #[.slice x T.n c, .slice y T.z c']] K E s := by
  refine does_ref13_Prizes W x T.n c y T.z c' _ s ?_
  unfold T_ref13_Prizes
  refine ne2 fun s1 e1 z1 o1 o2 => ?_
  have no : okP T = false → ∀ t, Ext s1 t → (endK K E) (.returned (.bool false)) t := fun hf t et => by
    have := h t (e1.trans et)
    rw [hf] at this; exact this
  refine ⟨_, _, _, o1.cell, ?_⟩
  dsimp only
  refine f_in ?_
  try simp only [TUP_mk, AGG_mk, HD_mk, NL_mk, TYI_mk, TYB_mk, TYP_mk, TYL_mk, TYS_mk, TYM_mk, SO_mk, NX_mk, endK_mk, endK_mk', add_0]
  have bad : ¬ ((1 ≤ T.n ∧ T.n ≤ 8) ∧ T.z ≤ 6) → okP T = false := fun hn => by
    cases h : okP T with
    | false => rfl
    | true => exact absurd ⟨(okP_iff.1 h).1, (okP_iff.1 h).2.1⟩ hn
  refine BR_not (fun h1 => ?_) (fun h1 => ?_)
  · unfold J_ref13_Prizes_0
    refine BR_tt rfl (no (bad ?_) _ (Ext.refl _))
    have := of_decide_eq_false h1
    omega
  have hn := of_decide_eq_true h1
  refine ⟨_, _, _, o2.cell, ?_⟩
  dsimp only
  unfold J_ref13_Prizes_0
  refine BR_dec (fun h2 => no (bad (by omega)) _ (Ext.refl _)) (fun h2 => ?_)
  have hz : T.z ≤ 6 := by omega
  have hokP : okP T = (okMs T.n [] T.men && T.list.all okZ) := by
    unfold okP
    rw [decide_eq_true (by omega : 1 ≤ (T.n : Int) ∧ (T.n : Int) ≤ 8), decide_eq_true (show T.list.length ≤ 6 from hz)]
    rfl
  refine L_ref13_Prizes_0_rule W _ ⟨s.size, 0, none⟩ (fun _ n t => Ext s1 t ∧ ∃ k : Nat, k ≤ T.n ∧ n = k ∧ okMs T.n [] T.men = okMs T.n (T.men.take k) (T.men.drop k)) (fun _ n _ => (T.n - n).toNat) false 0 s1 ⟨Ext.refl _, 0, by omega, rfl, rfl⟩ ?_
  rintro b n t ⟨et, k, hk, rfl, hok⟩
  unfold B_ref13_Prizes_0
  have hA : ∀ {t'}, Ext s1 t' → cellAt t' (Addr.add ⟨s.size, 0, none⟩ 0) = some (.slice x T.n c) := fun e => e.cell o1.cell
  have hB : ∀ {t'}, Ext s1 t' → cellAt t' (Addr.add ⟨s.size, 0, none⟩ 1) = some (.slice y T.z c') := fun e => e.cell o2.cell
  refine ⟨_, _, _, hA et, ?_⟩
  refine BR_dec (fun hlt => ?_) (fun hlt => ?_)
  · have hkn : k < T.n := by omega
    obtain ⟨ax, w0, w1, w2, w3, w4⟩ := man_row (hx.ext (e1.trans et)) hkn
    refine ⟨_, _, _, hA et, ?_⟩
    refine IXS_at w0 hkn ?_
    obtain ⟨m, hm'⟩ : ∃ m, T.man k = m := ⟨_, rfl⟩
    rw [hm'] at w1 w2 w3 w4
    have hmk : T.men[k]'hkn = m := by rw [← hm']; unfold PT.man; rw [getD_lt hkn]
    have hstep := okMs_step (n := T.n) (l := T.men) hkn
    rw [hmk] at hstep
    refine ⟨_, w1, _, w2, _, w3, _, w4, ?_⟩
    generalize hnx : (fun vs : List Value => _) = nx
    refine nw4 zc_48 rfl rfl rfl rfl fun t2 e2 z2 q1 q2 q3 q4 => ?_
    have et2 := et.trans e2
    refine ⟨_, q1.cell, _, _, _, hA et2, ?_⟩
    dsimp only
    refine f_in ?_
    try simp only [TUP_mk, AGG_mk, HD_mk, NL_mk, TYI_mk, TYB_mk, TYP_mk, TYL_mk, TYS_mk, TYM_mk, SO_mk, NX_mk, endK_mk, endK_mk', add_0]
    have step : okMn T.n (T.men.take k) m = false → okP T = false := fun hf => by rw [hokP, hok, hstep, hf]; rfl
    refine BR_not (fun h3 => ?_) (fun h3 => ?_)
    · unfold J_ref13_Prizes_1
      refine BR_tt rfl (no (step ?_) _ et2)
      unfold okMn
      rw [h3]; rfl
    · refine ⟨_, q2.cell, ?_⟩
      refine f_in ?_
      try simp only [TUP_mk, AGG_mk, HD_mk, NL_mk, TYI_mk, TYB_mk, TYP_mk, TYL_mk, TYS_mk, TYM_mk, SO_mk, NX_mk, endK_mk, endK_mk', add_0]
      unfold J_ref13_Prizes_1
      refine BR_not (fun h4 => no (step ?_) _ et2) (fun h4 => ?_)
      · unfold okMn
        rw [h3, h4, Bool.and_false]; rfl
      refine L_ref13_Prizes_1_rule W _ nx ⟨s.size, 0, none⟩ k ⟨t.size, 0, none⟩ (fun _ n t' => Ext t2 t' ∧ ∃ j : Nat, j ≤ k ∧ n = j ∧ ∀ i, i < j → (T.man i).place ≠ m.place) (fun _ n _ => (k - n).toNat) _ 0 t2 ⟨Ext.refl _, 0, by omega, rfl, fun i hi => by omega⟩ ?_
      rintro b' n' t3 ⟨e3, j, hj, rfl, hall⟩
      unfold B_ref13_Prizes_1
      have et3 := et2.trans e3
      refine BR_dec (fun h5 => ?_) (fun h5 => ?_)
      · have hjk : j < k := by omega
        obtain ⟨a2, v0, v1, v2, v3, v4⟩ := man_row (hx.ext (e1.trans et3)) (show j < T.n by omega)
        refine ⟨_, _, _, hA et3, ?_⟩
        refine IXS_at v0 (by omega) ?_
        refine ⟨_, v1, _, e3.cell q1.cell, ?_⟩
        refine BR_eq (fun h6 => no (step ?_) _ et3) (fun h6 => ?_)
        · unfold okMn
          have : (T.men.take k).all (fun x => decide (x.place ≠ m.place)) = false := by
            rw [List.all_eq_false]
            refine ⟨T.man j, ?_, by simpa using h6⟩
            unfold PT.man
            rw [getD_lt (show j < T.men.length by have := hkn; unfold PT.n at this; omega)]
            exact List.mem_take_iff_getElem.2 ⟨j, by have : k < T.men.length := hkn
                                                     omega, rfl⟩
          rw [this, Bool.false_and, Bool.and_false]
        · refine ⟨rfl, _, _, rfl, ⟨e3, j + 1, hjk, wrap_succ (by omega), fun i hi => ?_⟩, ms_succ hjk (by omega)⟩
          by_cases e : i = j
          · subst e; exact h6
          · exact hall i (by omega)
      · have hjk : j = k := by omega
        subst hjk
        rw [← hnx]
        refine ⟨rfl, _, _, rfl, ⟨et3, j + 1, hkn, wrap_succ (by omega), ?_⟩, ms_succ hkn (by omega)⟩
        have : okMn T.n (T.men.take j) m = true := by
          unfold okMn
          have hall' : (T.men.take j).all (fun x => decide (x.place ≠ m.place)) = true := by
            rw [List.all_eq_true]
            intro z hz
            obtain ⟨i, hi, rfl⟩ := List.mem_take_iff_getElem.1 hz
            have := hall i (by omega)
            unfold PT.man at this
            rw [getD_lt (by omega)] at this
            simpa using this
          rw [h3, h4, hall']; rfl
        rw [hok, hstep, this, Bool.true_and]
  · have hkn : k = T.n := by omega
    subst hkn
    have hdl : T.men.drop T.n = [] := List.drop_length
    rw [hdl] at hok
    have hokM : okMs T.n [] T.men = true := hok
    refine L_ref13_Prizes_2_rule W _ ⟨s.size, 0, none⟩ (fun _ n t => Ext s1 t ∧ ∃ k : Nat, k ≤ T.z ∧ n = k ∧ ∀ j, j < k → okZ (T.pz j) = true) (fun _ n _ => (T.z - n).toNat) _ 0 t ⟨et, 0, by omega, rfl, fun i hi => by omega⟩ ?_
    rintro b' n' t3 ⟨e3, j, hj, rfl, hall⟩
    unfold B_ref13_Prizes_2
    refine ⟨_, _, _, hB e3, ?_⟩
    refine BR_dec (fun h5 => ?_) (fun h5 => ?_)
    · have hjz : j < T.z := by omega
      obtain ⟨a2, v0, v1, v2⟩ := pz_row (hy.ext (e1.trans e3)) hjz
      have hlist : okZ (T.pz j) = false → okP T = false := fun hf => by
        rw [hokP]
        have : T.list.all okZ = false := by
          rw [List.all_eq_false]
          refine ⟨T.pz j, ?_, by rw [hf]; simp⟩
          unfold PT.pz; rw [getD_lt hjz]; exact List.getElem_mem hjz
        rw [this, Bool.and_false]
      refine ⟨_, _, _, hB e3, ?_⟩
      refine IXS_at v0 hjz ?_
      refine ⟨_, v1, ?_⟩
      refine f_in ?_
      try simp only [TUP_mk, AGG_mk, HD_mk, NL_mk, TYI_mk, TYB_mk, TYP_mk, TYL_mk, TYS_mk, TYM_mk, SO_mk, NX_mk, endK_mk, endK_mk', add_0]
      refine BR_not (fun h6 => no (hlist ?_) _ e3) (fun h6 => ?_)
      · unfold okZ; rw [h6]; rfl
      refine ⟨_, _, _, hB e3, ?_⟩
      refine IXS_at v0 hjz ?_
      refine ⟨_, v2, ?_⟩
      refine f_in ?_
      try simp only [TUP_mk, AGG_mk, HD_mk, NL_mk, TYI_mk, TYB_mk, TYP_mk, TYL_mk, TYS_mk, TYM_mk, SO_mk, NX_mk, endK_mk, endK_mk', add_0]
      refine BR_not (fun h7 => no (hlist ?_) _ e3) (fun h7 => ?_)
      · unfold okZ; rw [h6, h7]; rfl
      refine ⟨_, _, rfl, ⟨e3, j + 1, hjz, wrap_succ (by omega), fun i hi => ?_⟩, ms_succ hjz (by omega)⟩
      by_cases e : i = j
      · subst e; unfold okZ; rw [h6, h7]; rfl
      · exact hall i (by omega)
    · have hjz : j = T.z := by omega
      subst hjz
      have hokl : T.list.all okZ = true := by
        rw [List.all_eq_true]
        intro z hz'
        obtain ⟨i, hi, rfl⟩ := List.mem_iff_getElem.1 hz'
        have := hall i hi
        unfold PT.pz at this
        rwa [getD_lt hi] at this
      have := h t3 (e1.trans e3)
      rw [hokP, hokM, hokl] at this
      exact this
theorem f_check {x y : Option Addr} {c c' : Nat} {v : Bool} (hx : MnAt s x T.men) (hy : PzAt s y T.list) (h : ∀ s', Ext s s' → K (.int .i64 (if okP T then (if v then 0 else 2) else 1)) s') :
    CALL Pg W F_ref13_check [.agg #[.slice x T.n c, .slice y T.z c'], .bool v] K E s := by
  refine does_ref13_check W x T.n c y T.z c' v _ s ?_
  unfold T_ref13_check
  refine ne2 fun s1 e1 z1 o1 o2 => ?_
  refine ⟨_, _, _, o1.cell, _, _, _, o2.cell, ?_⟩
  refine f_Prizes (hx.ext e1) (hy.ext e1) fun s2 e2 => ?_
  try simp only [TUP_mk, AGG_mk, HD_mk, NL_mk, TYI_mk, TYB_mk, TYP_mk, TYL_mk, TYS_mk, TYM_mk, SO_mk, NX_mk, endK_mk, endK_mk', add_0]
  have := h s2 (e1.trans e2)
  refine BR_not (fun h1 => ?_) (fun h1 => ?_)
  · rw [h1] at this; exact this
  · rw [h1] at this
    refine BR_not (fun h2 => ?_) (fun h2 => ?_)
    · rw [h2] at this; exact this
    · rw [h2] at this; exact this
theorem f_Man {x y : Option Addr} {c c' : Nat} {n : Int} (h4 : T.n ≤ 100000) (h : ∀ s', Ext s s' → K (.bool (decide (0 ≤ n ∧ n < T.n))) s') : CALL Pg W F_ref13_Man [.agg #[.slice x T.n c, .slice y T.z c'], .int .i64 n] K E s := by
  refine does_ref13_Man W x T.n c y T.z c' n _ s ?_
  unfold T_ref13_Man
  refine ne2 fun s1 e1 z1 o1 o2 => ?_
  refine ⟨_, _, _, o1.cell, ?_⟩
  dsimp only
  rw [wrap_i64 (by omega) (by omega)]
  refine f_in ?_
  try simp only [TUP_mk, AGG_mk, HD_mk, NL_mk, TYI_mk, TYB_mk, TYP_mk, TYL_mk, TYS_mk, TYM_mk, SO_mk, NX_mk, endK_mk, endK_mk', add_0]
  have e : decide (0 ≤ n ∧ n ≤ (T.n : Int) - 1) = decide (0 ≤ n ∧ n < T.n) := by congr 1; apply propext; omega
  rw [e]; exact h s1 e1
theorem f_Prize {x y : Option Addr} {c c' : Nat} {n : Int} (h4 : T.z ≤ 100000) (h : ∀ s', Ext s s' → K (.bool (decide (0 ≤ n ∧ n < T.z))) s') : CALL Pg W F_ref13_Prize [.agg #[.slice x T.n c, .slice y T.z c'], .int .i64 n] K E s := by
  refine does_ref13_Prize W x T.n c y T.z c' n _ s ?_
  unfold T_ref13_Prize
  refine ne2 fun s1 e1 z1 o1 o2 => ?_
  refine ⟨_, _, _, o2.cell, ?_⟩
  dsimp only
  rw [wrap_i64 (by omega) (by omega)]
  refine f_in ?_
  try simp only [TUP_mk, AGG_mk, HD_mk, NL_mk, TYI_mk, TYB_mk, TYP_mk, TYL_mk, TYS_mk, TYM_mk, SO_mk, NX_mk, endK_mk, endK_mk', add_0]
  have e : decide (0 ≤ n ∧ n ≤ (T.z : Int) - 1) = decide (0 ≤ n ∧ n < T.z) := by congr 1; apply propext; omega
  rw [e]; exact h s1 e1
theorem f_can {x y : Option Addr} {c c' m z : Nat} (hx : MnAt s x T.men) (hy : PzAt s y T.list) (hm : m < T.n) (hz : z < T.z) (h : ∀ s', Ext s s' → K (.bool (canP T m z)) s') :
    CALL Pg W F_ref13_can [.agg #[.slice x T.n c, .slice y T.z c'], .int .i64 (m : Nat), .int .i64 (z : Nat)] K E s := by
  refine does_ref13_can W x T.n c y T.z c' m z _ s ?_
  unfold T_ref13_can
  refine ne2 fun s1 e1 z1 o1 o2 => ?_
  obtain ⟨ax, w0, w1, w2, w3, w4⟩ := man_row (hx.ext e1) hm
  obtain ⟨ay, v0, v1, v2⟩ := pz_row (hy.ext e1) hz
  refine ⟨_, _, _, o1.cell, ?_⟩
  refine IXS_at w0 hm ?_
  refine ⟨_, w1, _, w2, _, w3, _, w4, ?_⟩
  refine nw4 zc_48 rfl rfl rfl rfl fun t e z2 q1 q2 q3 q4 => ?_
  refine ⟨_, _, _, e.cell o2.cell, ?_⟩
  refine IXS_at v0 hz ?_
  refine ⟨_, e.cell v1, ?_⟩
  have hh := h t (e1.trans e)
  unfold canP canK at hh
  refine BR_eq (fun h1 => ⟨_, q3.cell, ?_⟩) (fun h1 => ?_)
  · rw [if_pos h1] at hh; exact hh
  rw [if_neg h1] at hh
  refine BR_eq (fun h2 => ⟨_, q4.cell, ?_⟩) (fun h2 => ?_)
  · rw [if_pos h2] at hh; exact hh
  rw [if_neg h2] at hh
  refine BR_eq (fun h3 => ⟨_, q3.cell, ?_⟩) (fun h3 => ?_)
  · rw [if_pos h3] at hh
    refine BR_bool (fun h5 => ⟨_, q4.cell, ?_⟩) (fun h5 => ?_)
    · rw [h5, Bool.true_and] at hh; exact hh
    · rw [h5, Bool.false_and] at hh; exact hh
  rw [if_neg h3] at hh
  refine BR_eq (fun h4 => ⟨_, q2.cell, ?_⟩) (fun h4 => ?_)
  · rw [if_pos h4] at hh
    have e : ((T.man m).club != 0) = decide ((T.man m).club ≠ 0) := by by_cases hc : (T.man m).club = 0 <;> simp [hc]
    rw [← e] at hh; exact hh
  · rw [if_neg h4] at hh; exact hh
end
end Go.Proofs.Ytfaeokcbfnlgbaa.G

/- The document's functions of layer 13: who is at a place; sums of clubs, the best one. -/
set_option linter.unusedSimpArgs false
set_option linter.unusedVariables false
set_option maxRecDepth 20000
namespace Go.Proofs.Ytfaeokcbfnlgbaa.G
open Go.V
def plT (T : PT) (c : Int) (k : Nat) : List Int := (((ordP T).take k).filter fun m => (T.man m).club == c).map fun m => (T.man m).place
theorem plT_full (T : PT) (c : Int) : plT T c T.n = places T c := by
  unfold plT places ordF
  rw [← ord_len T, List.take_length]
theorem plT_succ {T : PT} (hv : VdP T) {c : Int} {k : Nat} (hk : k < T.n) : plT T c (k + 1) = plT T c k ++ (if (T.man (idx T ((k + 1 : Nat) : Int))).club = c then [((k + 1 : Nat) : Int)] else []) := by
  have hs := (hv.sur ((k + 1 : Nat) : Int) (by omega) (by omega)).2
  unfold plT
  rw [List.take_add_one, ord_get hk, List.filter_append, List.map_append]
  congr 1
  show List.map _ (List.filter _ [idx T ((k + 1 : Nat) : Int)]) = _
  generalize idx T ((k + 1 : Nat) : Int) = i at *
  by_cases h : (T.man i).club = c
  · rw [if_pos h]; simp [h, hs]
  · rw [if_neg h]; simp [h]
theorem plT_len {T : PT} {c : Int} {k : Nat} : (plT T c k).length ≤ k := by
  unfold plT
  rw [List.length_map]
  exact Nat.le_trans (List.length_filter_le _ _) (by rw [List.length_take]; omega)
theorem plT_mem {T : PT} (hv : VdP T) {c : Int} {k : Nat} {x : Int} (h : x ∈ plT T c k) : 1 ≤ x ∧ x ≤ T.n := by
  unfold plT at h
  obtain ⟨m, hm, rfl⟩ := List.mem_map.1 h
  exact hv.pl m ((ord_mem hv).1 (List.mem_of_mem_take (List.mem_filter.1 hm).1))
theorem sumC_pos {T : PT} (hv : VdP T) {c r : Int} (h : sumC T.n (places T c) = some r) : 0 < r ∧ r ≤ 20 := by
  have hm : ∀ x ∈ places T c, 1 ≤ x ∧ x ≤ T.n := fun x hx => places_mem hv hx
  have h8 := hv.n8
  unfold sumC at h
  split at h
  · cases h
  · rename_i a e
    have := hm a (by rw [e]; simp)
    cases h; omega
  · rename_i a b r' e
    have := hm a (by rw [e]; simp)
    have := hm b (by rw [e]; simp)
    cases h; omega
theorem clubs_mem {T : PT} {k : Nat} {x : Int × Int} (h : x ∈ clubsL T k) : (1 ≤ x.1 ∧ x.1 ≤ k) ∧ sumC T.n (places T x.1) = some x.2 := by
  unfold clubsL at h
  obtain ⟨i, hi, e⟩ := List.mem_filterMap.1 h
  have := List.mem_range.1 hi
  cases hs : sumC T.n (places T ((i + 1 : Nat) : Int)) with
  | none => rw [hs] at e; cases e
  | some r =>
    rw [hs] at e
    cases e
    exact ⟨⟨by show (1 : Int) ≤ ((i + 1 : Nat) : Int); omega, by show ((i + 1 : Nat) : Int) ≤ k; omega⟩, hs⟩
theorem firstL_mem : ∀ (l : List (Int × Int)), l ≠ [] → firstL l ∈ l
  | [], h => absurd rfl h
  | x :: r, _ => by
    have key : ∀ (r : List (Int × Int)) (b : Int × Int), r.foldl minC b = b ∨ r.foldl minC b ∈ r := by
      intro r
      induction r with
      | nil => exact fun b => .inl rfl
      | cons y r ih =>
        intro b
        rw [List.foldl_cons]
        rcases ih (minC b y) with h | h
        · unfold minC at h ⊢
          split at h
          · rw [if_pos (by assumption)]; rw [h]; exact .inr (by simp)
          · rw [if_neg (by assumption)]; exact .inl h
        · exact .inr (by simp [h])
    rcases key r x with h | h
    · show r.foldl minC x ∈ _; rw [h]; simp
    · exact List.mem_cons_of_mem _ h
section
variable {W : World} {K : VK} {E : List PanicEntry → Hp → Prop} {s : Hp} {T : PT}
theorem f_has {x : Option Addr} {c l : Nat} {ds : List Int} {n : Int} (hx : RowAt s x (ints ds)) (hl : l = ds.length) (h8 : ds.length ≤ 100000) (h : K (.bool (decide (n ∈ ds))) s) : CALL Pg W F_ref13_has [.slice x l c, .int .i64 n] K E s := by
  subst hl
  refine does_ref13_has W x _ c n _ s ?_
  unfold T_ref13_has
  refine L_ref13_has_0_rule W _ x ds.length c n (fun _ i t => t = s ∧ ∃ k : Nat, k ≤ ds.length ∧ i = k ∧ ∀ j, j < k → ds.getD j 0 ≠ n) (fun _ i _ => (ds.length - i).toNat) false 0 s ⟨rfl, 0, by omega, rfl, fun j hj => by omega⟩ ?_
  rintro b i t ⟨rfl, k, hk, rfl, hno⟩
  unfold B_ref13_has_0
  refine BR_dec (fun h1 => ?_) (fun h1 => ?_)
  · have hkl : k < ds.length := by omega
    obtain ⟨a, ha, g⟩ := row_int hx hkl
    refine IXS_at ha hkl ?_
    refine ⟨_, g, ?_⟩
    refine BR_eq (fun h2 => ?_) (fun h2 => ?_)
    · have : n ∈ ds := by rw [← h2, getD_lt hkl]; exact List.getElem_mem hkl
      rw [decide_eq_true this] at h
      exact h
    · refine ⟨rfl, _, _, rfl, ⟨rfl, k + 1, hkl, wrap_succ (by omega), fun j hj => ?_⟩, ms_succ hkl (by omega)⟩
      by_cases e : j = k
      · subst e; exact h2
      · exact hno j (by omega)
  · have : ¬ n ∈ ds := fun hm => by
      obtain ⟨j, hj, e⟩ := List.mem_iff_getElem.1 hm
      exact hno j (by omega) (by rw [getD_lt hj]; exact e)
    rw [decide_eq_false this] at h
    exact h
theorem f_at {x y : Option Addr} {c c' : Nat} {n : Int} (hx : MnAt s x T.men) (hy : PzAt s y T.list) (h4 : T.n ≤ 100000) (h : ∀ s', Ext s s' → K (.int .i64 (atL T.men n)) s') : CALL Pg W F_ref13_at [.agg #[.slice x T.n c, .slice y T.z c'], .int .i64 n] K E s := by
  refine does_ref13_at W x T.n c y T.z c' n _ s ?_
  unfold T_ref13_at
  refine ne2 fun s1 e1 z1 o1 o2 => ?_
  refine L_ref13_at_0_rule W _ n ⟨s.size, 0, none⟩ (fun _ i t => t = s1 ∧ ∃ k : Nat, k ≤ T.n ∧ i = k ∧ ∀ j, j < k → (T.man j).place ≠ n) (fun _ i _ => (T.n - i).toNat) 0 0 s1 ⟨rfl, 0, by omega, rfl, fun j hj => by omega⟩ ?_
  rintro b i t ⟨rfl, k, hk, rfl, hno⟩
  unfold B_ref13_at_0
  refine ⟨_, _, _, o1.cell, ?_⟩
  have hh := h t e1
  refine BR_dec (fun h1 => ?_) (fun h1 => ?_)
  · have hkn : k < T.n := by omega
    obtain ⟨ax, w0, w1, w2, w3, w4⟩ := man_row (hx.ext e1) hkn
    refine ⟨_, _, _, o1.cell, ?_⟩
    refine IXS_at w0 hkn ?_
    refine ⟨_, w1, ?_⟩
    refine BR_eq (fun h2 => ?_) (fun h2 => ?_)
    · have hf : T.men.findIdx? (fun m => decide (m.place = n)) = some k := by
        rw [List.findIdx?_eq_some_iff_getElem]
        refine ⟨hkn, ?_, fun j hj => ?_⟩
        · unfold PT.man at h2; rw [getD_lt hkn] at h2; simpa using h2
        · have := hno j hj
          have hjn : j < T.men.length := by have : k < T.men.length := hkn
                                            omega
          unfold PT.man at this; rw [getD_lt hjn] at this; simpa using this
      unfold atL at hh
      rw [hf] at hh
      exact hh
    · refine ⟨rfl, _, _, rfl, ⟨rfl, k + 1, hkn, wrap_succ (by omega), fun j hj => ?_⟩, ms_succ hkn (by omega)⟩
      by_cases e : j = k
      · subst e; exact h2
      · exact hno j (by omega)
  · have hf : T.men.findIdx? (fun m => decide (m.place = n)) = none := by
      rw [List.findIdx?_eq_none_iff]
      intro m hm
      obtain ⟨j, hj, rfl⟩ := List.mem_iff_getElem.1 hm
      have hjn : j < T.n := hj
      have := hno j (by omega)
      unfold PT.man at this; rw [getD_lt hj] at this
      simpa using this
    unfold atL at hh
    rw [hf] at hh
    exact hh
theorem take2_sum {l : List Int} {x : Int} : (l ++ [x]).length ≤ 100 → ((l ++ [x]).take 2).sum = (l.take 2).sum + (if l.length < 2 then x else 0) := by
  intro _
  match l with
  | [] => simp
  | [a] => simp
  | a :: b :: r => rw [if_neg (by simp)]; simp
theorem f_sum {x y : Option Addr} {c c' : Nat} {n : Int} (hok : okP T = true) (hx : MnAt s x T.men) (hy : PzAt s y T.list) (h : ∀ s', Ext s s' → K (.int .i64 ((sumC T.n (places T n)).getD 0)) s') : CALL Pg W F_ref13_sum [.agg #[.slice x T.n c, .slice y T.z c'], .int .i64 n] K E s := by
  have hv := okP_vd hok
  have h8 := hv.n8
  refine does_ref13_sum W x T.n c y T.z c' n _ s ?_
  unfold T_ref13_sum
  refine ne2 fun s1 e1 z1 o1 o2 => ?_
  have bd : ∀ k, k ≤ T.n → 0 ≤ ((plT T n k).take 2).sum ∧ ((plT T n k).take 2).sum ≤ 16 := by
    intro k hk
    have hm : ∀ x ∈ plT T n k, 1 ≤ x ∧ x ≤ T.n := fun x hx => plT_mem hv hx
    match plT T n k, hm with
    | [], _ => simp
    | [a], hm => have := hm a (by simp); simp; omega
    | a :: b :: r, hm => have := hm a (by simp); have := hm b (by simp); simp; omega
  refine L_ref13_sum_0_rule W _ n ⟨s.size, 0, none⟩ (fun a b i t => Ext s1 t ∧ ∃ k : Nat, k ≤ T.n ∧ i = ((k + 1 : Nat) : Int) ∧ a = ((min 2 (plT T n k).length : Nat) : Int) ∧ b = ((plT T n k).take 2).sum) (fun _ _ i _ => (T.n + 1 - i).toNat) 0 0 1 s1 ⟨Ext.refl _, 0, by omega, rfl, by simp [plT], by simp [plT]⟩ ?_
  rintro a b i t ⟨et, k, hk, rfl, rfl, rfl⟩
  unfold B_ref13_sum_0
  have hA := et.cell o1.cell
  have hB := et.cell o2.cell
  refine ⟨_, _, _, hA, ?_⟩
  refine BR_dec (fun h1 => ?_) (fun h1 => ?_)
  · have hkn : k < T.n := by omega
    refine ⟨_, _, _, hA, _, _, _, hA, _, _, _, hB, ?_⟩
    refine f_at (hx.ext (e1.trans et)) (hy.ext (e1.trans et)) (by omega) fun t2 e2 => ?_
    try simp only [TUP_mk, AGG_mk, HD_mk, NL_mk, TYI_mk, TYB_mk, TYP_mk, TYL_mk, TYS_mk, TYM_mk, SO_mk, NX_mk, endK_mk, endK_mk', add_0]
    have et2 := et.trans e2
    have hs := hv.sur ((k + 1 : Nat) : Int) (by omega) (by omega)
    refine ANDS_i ⟨_, _, _, e2.cell hA, rfl⟩ ?_
    rw [atL_idx hs.1]
    have hsucc := plT_succ hv (c := n) hkn
    have hbd := bd (k + 1) hkn
    have hlen := plT_len (T := T) (c := n) (k := k)
    generalize hi : idx T ((k + 1 : Nat) : Int) = m at *
    obtain ⟨ax, w0, w1, w2, w3, w4⟩ := man_row (hx.ext (e1.trans et2)) hs.1
    refine IXS_at w0 hs.1 ?_
    refine ⟨_, w2, ?_⟩
    have hms : (T.n + 1 - (IntKind.i64.wrap (((k + 1 : Nat) : Int) + 1))).toNat < ((T.n : Int) + 1 - ((k + 1 : Nat) : Int)).toNat := by rw [wrap_succ (by omega)]; omega
    refine BR_eq (fun h2 => ?_) (fun h2 => ?_)
    · rw [if_pos h2] at hsucc
      have hts := take2_sum (l := plT T n k) (x := ((k + 1 : Nat) : Int)) (by simp; omega)
      rw [← hsucc] at hts
      unfold J_ref13_sum_0
      refine BR_dec (fun h3 => ?_) (fun h3 => ?_)
      · have hl2 : (plT T n k).length < 2 := by omega
        rw [if_pos hl2] at hts
        refine ⟨rfl, _, _, _, rfl, ⟨et2, k + 1, hkn, ?_, ?_, ?_⟩, ?_⟩
        · exact wrap_succ (by omega)
        · rw [wrap_succ (by omega), hsucc, List.length_append]
          have : (min 2 (plT T n k).length + 1) = min 2 ((plT T n k).length + [((k + 1 : Nat) : Int)].length) := by simp; omega
          rw [this]
        · rw [hts, wrap_i64 (by omega) (by omega)]
        · exact hms
      · have hl2 : ¬ (plT T n k).length < 2 := by omega
        rw [if_neg hl2] at hts
        refine ⟨rfl, _, _, _, rfl, ⟨et2, k + 1, hkn, ?_, ?_, ?_⟩, ?_⟩
        · exact wrap_succ (by omega)
        · rw [hsucc, List.length_append]
          have : min 2 (plT T n k).length = min 2 ((plT T n k).length + [((k + 1 : Nat) : Int)].length) := by simp; omega
          rw [this]
        · rw [hts]; omega
        · exact hms
    · rw [if_neg h2, List.append_nil] at hsucc
      unfold J_ref13_sum_0
      refine BR_ff rfl ?_
      refine ⟨rfl, _, _, _, rfl, ⟨et2, k + 1, hkn, ?_, ?_, ?_⟩, ?_⟩
      · exact wrap_succ (by omega)
      · rw [hsucc]
      · rw [hsucc]
      · exact hms
  · have hkn : k = T.n := by omega
    subst hkn
    have hh := h t (e1.trans et)
    have hbd := bd T.n (Nat.le_refl _)
    rw [plT_full] at hbd ⊢
    unfold sumC at hh
    refine BR_eq (fun h2 => ?_) (fun h2 => ?_)
    · refine ⟨_, _, _, hA, ?_⟩
      have hl1 : (places T n).length = 1 := by omega
      obtain ⟨a, ha⟩ := List.length_eq_one_iff.1 hl1
      rw [ha] at hh hbd ⊢
      have e1' : ((([a] : List Int).take 2).sum) = a := by simp
      rw [e1'] at hbd ⊢
      dsimp only
      rw [wrap_i64 (n := a + T.n) (by omega) (by omega), wrap_i64 (by omega) (by omega)]
      exact hh
    · match hq : places T n with
      | [] => rw [hq] at hh; exact hh
      | [a] => rw [hq] at h2; exact absurd rfl h2
      | a :: b :: r =>
        rw [hq] at hh
        have e1' : (((a :: b :: r).take 2).sum) = a + b := by simp
        rw [e1']; exact hh
theorem f_best {x y : Option Addr} {c c' : Nat} (hok : okP T = true) (hx : MnAt s x T.men) (hy : PzAt s y T.list) (h : ∀ s', Ext s s' → K (.int .i64 (bestP T).1) s') : CALL Pg W F_ref13_best [.agg #[.slice x T.n c, .slice y T.z c']] K E s := by
  have hv := okP_vd hok
  refine does_ref13_best W x T.n c y T.z c' _ s ?_
  unfold T_ref13_best
  refine ne2 fun s1 e1 z1 o1 o2 => ?_
  refine L_ref13_best_0_rule W _ ⟨s.size, 0, none⟩ (fun a i t => Ext s1 t ∧ ∃ k : Nat, k ≤ 5 ∧ i = ((k + 1 : Nat) : Int) ∧ a = (firstL (clubsL T k)).1) (fun _ i _ => (6 - i).toNat) 0 1 s1 ⟨Ext.refl _, 0, by omega, rfl, rfl⟩ ?_
  rintro a i t ⟨et, k, hk, rfl, rfl⟩
  unfold B_ref13_best_0
  refine BR_dec (fun h1 => ?_) (fun h1 => ?_)
  · have hk5 : k < 5 := by omega
    have hA : ∀ {t'}, Ext t t' → cellAt t' (Addr.add ⟨s.size, 0, none⟩ 0) = some (.slice x T.n c) := fun e => (et.trans e).cell o1.cell
    have hB : ∀ {t'}, Ext t t' → cellAt t' (Addr.add ⟨s.size, 0, none⟩ 1) = some (.slice y T.z c') := fun e => (et.trans e).cell o2.cell
    have ex := e1.trans et
    generalize hnx : (fun vs : List Value => _) = nx
    have hms : (6 - (IntKind.i64.wrap (((k + 1 : Nat) : Int) + 1))).toNat < (6 - ((k + 1 : Nat) : Int)).toNat := by rw [wrap_succ (by omega)]; omega
    have hcl := clubsL_succ T k
    have fin : ∀ t' b, Ext t t' → (b = true → (firstL (clubsL T (k + 1))).1 = ((k + 1 : Nat) : Int)) → (b = false → (firstL (clubsL T (k + 1))).1 = (firstL (clubsL T k)).1) → J_ref13_best_0 W (endK K E) b ⟨s.size, 0, none⟩ nx ((k + 1 : Nat) : Int) (firstL (clubsL T k)).1 t' := by
      intro t' b e' hb1 hb2
      unfold J_ref13_best_0
      rw [← hnx]
      refine BR_bool (fun hb => ?_) (fun hb => ?_)
      · refine ⟨rfl, _, _, rfl, ⟨et.trans e', k + 1, hk5, wrap_succ (by omega), (hb1 hb).symm⟩, hms⟩
      · refine ⟨rfl, _, _, rfl, ⟨et.trans e', k + 1, hk5, wrap_succ (by omega), (hb2 hb).symm⟩, hms⟩
    refine ⟨_, _, _, hA (Ext.refl _), _, _, _, hB (Ext.refl _), ?_⟩
    refine f_sum hok (hx.ext ex) (hy.ext ex) fun t2 e2 => ?_
    try simp only [TUP_mk, AGG_mk, HD_mk, NL_mk, TYI_mk, TYB_mk, TYP_mk, TYL_mk, TYS_mk, TYM_mk, SO_mk, NX_mk, endK_mk, endK_mk', add_0]
    cases hsc : sumC T.n (places T ((k + 1 : Nat) : Int)) with
    | none =>
      rw [hsc] at hcl
      have hcl' : clubsL T (k + 1) = clubsL T k := by rw [hcl]; exact List.append_nil _
      refine BR_dec (fun h2 => ?_) (fun h2 => ?_)
      · exact absurd h2 (by show ¬ (0 : Int) > 0; omega)
      · refine fin t2 _ e2 (fun h3 => by cases h3) (fun _ => by rw [hcl'])
    | some r =>
      rw [hsc] at hcl
      have hr := sumC_pos hv hsc
      refine BR_dec (fun h2 => ?_) (fun h2 => absurd hr.1 h2)
      have hmemk : ∀ hne : clubsL T k ≠ [], (1 ≤ (firstL (clubsL T k)).1) ∧ sumC T.n (places T (firstL (clubsL T k)).1) = some (firstL (clubsL T k)).2 := fun hne => by
        have := clubs_mem (firstL_mem _ hne)
        exact ⟨this.1.1, this.2⟩
      refine BR_eq (fun h3 => ?_) (fun h3 => ?_)
      · have hnil : clubsL T k = [] := Classical.byContradiction fun hne => by have := (hmemk hne).1; omega
        refine fin t2 _ e2 (fun _ => ?_) (fun h4 => by cases h4)
        rw [hcl, hnil]; rfl
      · have hne : clubsL T k ≠ [] := fun hnil => h3 (by rw [hnil]; rfl)
        have hb := (hmemk hne).2
        have hs := firstL_snoc (clubsL T k) (((k + 1 : Nat) : Int), r) hne
        refine ⟨_, _, _, hA e2, _, _, _, hB e2, _, _, _, hA e2, _, _, _, hB e2, ?_⟩
        refine f_sum hok (hx.ext (ex.trans e2)) (hy.ext (ex.trans e2)) fun t3 e3 => ?_
        try simp only [TUP_mk, AGG_mk, HD_mk, NL_mk, TYI_mk, TYB_mk, TYP_mk, TYL_mk, TYS_mk, TYM_mk, SO_mk, NX_mk, endK_mk, endK_mk', add_0]
        have e23 := e2.trans e3
        refine ANDS_i ⟨_, _, _, hA e23, _, _, _, hB e23, rfl⟩ ?_
        refine f_sum hok (hx.ext (ex.trans e23)) (hy.ext (ex.trans e23)) fun t4 e4 => ?_
        try simp only [TUP_mk, AGG_mk, HD_mk, NL_mk, TYI_mk, TYB_mk, TYP_mk, TYL_mk, TYS_mk, TYM_mk, SO_mk, NX_mk, endK_mk, endK_mk', add_0]
        rw [hsc, hb]
        refine fin t4 _ (e23.trans e4) (fun h4 => ?_) (fun h4 => ?_)
        · have : r < (firstL (clubsL T k)).2 := of_decide_eq_true h4
          rw [hcl, hs]; unfold minC; rw [if_pos this]
        · have : ¬ r < (firstL (clubsL T k)).2 := of_decide_eq_false h4
          rw [hcl, hs]; unfold minC; rw [if_neg this]
  · have hk5 : k = 5 := by omega
    subst hk5
    exact h t (e1.trans et)
end
end Go.Proofs.Ytfaeokcbfnlgbaa.G

/- The document's functions of layer 13: who is due which prize. -/
set_option linter.unusedSimpArgs false
set_option linter.unusedVariables false
set_option maxRecDepth 20000
namespace Go.Proofs.Ytfaeokcbfnlgbaa.G
open Go.V
def qP (T : PT) (k m : Nat) : Bool := canP T m k && ((decide ((T.pz k).kind ≠ 4) || ((T.man m).club == (bestP T).1)) && !tkF (dueL T k) m)
theorem giv_find (T : PT) (k : Nat) : givB T (bestP T) (fun m => !tkF (dueL T k) m) k = (ordP T).find? (qP T k) := by
  unfold givB
  by_cases h4 : (T.pz k).kind = 4
  · rw [if_pos h4]
    by_cases hb : bestP T = (0, 0)
    · rw [if_pos hb]
      symm
      rw [List.find?_eq_none]
      intro m hm
      have hz : (bestP T).1 = 0 := by rw [hb]
      unfold qP canP canK
      rw [h4, hz]
      by_cases hc : (T.man m).club = 0 <;> simp [hc]
    · rw [if_neg hb]
      unfold givF ordF
      rw [List.find?_filter]
      congr 1
      funext m
      unfold qP
      rw [h4]
      have key : ∀ a b c : Bool, decide ((!a && b) = true ∧ c = true) = (c && ((decide ((4 : Int) ≠ 4) || b) && !a)) := by
        intro a b c; cases a <;> cases b <;> cases c <;> rfl
      exact key _ _ _
  · rw [if_neg h4]
    unfold givF ordF
    rw [List.find?_filter]
    congr 1
    funext m
    unfold qP
    rw [decide_eq_true h4]
    have key : ∀ a b c : Bool, decide ((!a) = true ∧ c = true) = (c && ((true || b) && !a)) := by
      intro a b c; cases a <;> cases b <;> cases c <;> rfl
    exact key _ _ _
theorem mem_manL {l : List (Option Nat)} {m : Nat} : decide (((m : Nat) : Int) ∈ manL l) = tkF l m := by
  unfold tkF manL
  congr 1
  apply propext
  constructor
  · intro h
    obtain ⟨o, ho, e⟩ := List.mem_map.1 h
    cases o with
    | none => have : (-1 : Int) = (m : Nat) := e; omega
    | some i => have : ((i : Nat) : Int) = (m : Nat) := e
                have : i = m := by omega
                subst this; exact ho
  · exact fun h => List.mem_map.2 ⟨_, h, rfl⟩
section
variable {W : World} {K : VK} {E : List PanicEntry → Hp → Prop} {s : Hp} {T : PT}
theorem f_due {x y : Option Addr} {c c' : Nat} (hok : okP T = true) (hx : MnAt s x T.men) (hy : PzAt s y T.list) (h : ∀ s' q cq, Ext s s' → Fr s.size s' q T.z cq 1 (ints (manL (dueP T))) → K (.slice q T.z cq) s') : CALL Pg W F_ref13_due [.agg #[.slice x T.n c, .slice y T.z c']] K E s := by
  have hv := okP_vd hok
  have h8 := hv.n8
  have h6 := hv.z6
  refine does_ref13_due W x T.n c y T.z c' _ s ?_
  unfold T_ref13_due
  refine ne2 fun s1 e1 z1 o1 o2 => ?_
  have hA : ∀ {t'}, Ext s1 t' → cellAt t' (Addr.add ⟨s.size, 0, none⟩ 0) = some (.slice x T.n c) := fun e => e.cell o1.cell
  have hB : ∀ {t'}, Ext s1 t' → cellAt t' (Addr.add ⟨s.size, 0, none⟩ 1) = some (.slice y T.z c') := fun e => e.cell o2.cell
  refine L_ref13_due_0_rule W _ ⟨s.size, 0, none⟩ (fun x l c n t => Ext s1 t ∧ ∃ k : Nat, k ≤ T.z ∧ n = k ∧ Fr s1.size t x l c 1 (ints (manL (dueL T k)))) (fun _ _ _ n _ => (T.z - n).toNat) none 0 0 0 s1 ⟨Ext.refl _, 0, by omega, rfl, Fr.nil _ _ _⟩ ?_
  rintro qx ql qc n t ⟨et, k, hk, rfl, hfr⟩
  have hlen : ql = k := by have := hfr.len; rw [ints_len] at this; unfold manL at this; rw [List.length_map, dueL_len] at this; omega
  unfold B_ref13_due_0
  refine ⟨_, _, _, hB et, ?_⟩
  generalize hnx : (fun vs : List Value => _) = nx
  refine BR_dec (fun h1 => ?_) (fun h1 => ?_)
  · have hkz : k < T.z := by omega
    have hfull : ∀ w t', Ext t t' → (w = manI ((ordP T).find? (qP T k))) → (NEW 3 [(.int .i64 w)] fun B73 => APP Pg 3 1 qx ql qc (some ⟨B73, 0, none⟩) 1 fun x74 l75 c76 => NX [(.pointer (some ⟨s.size, 0, none⟩)), (.slice none 0 0), (.tuple #[])] [(.pointer (some ⟨s.size, 0, none⟩)), (.slice none 0 0), (.tuple #[])] (nx [(.slice x74 l75 c76), (.int .i64 (IntKind.wrap .i64 ((k : Int) + 1)))])) t' := by
      intro w t' e' hw
      refine ne1 fun t3 e3' z3' q3 => ?_
      have et3 := et.trans (e'.trans e3')
      refine APP_fr (lo := s1.size) (hfr.ext (e'.trans e3')) et3.1 (ws := [.int .i64 w]) (fun i hi => ⟨⟨t'.size, 0, none⟩, rfl, ?_⟩) rfl zc_3 rfl (by omega) (by simp [oneCell]) (by omega) fun t4 x4 c4 k4 hx4 g4 => ?_
      · have hi0 : i = 0 := by simp at hi; omega
        subst hi0; exact q3.cell
      have e4 : Ext s1 t4 := kp_nil et3 (fun b hb => by obtain ⟨y, hy, rfl⟩ := hb; exact hfr.fr y hy) k4
      rw [← hnx]
      refine ⟨rfl, _, _, _, _, rfl, ⟨e4, k + 1, hkz, wrap_succ (by omega), ?_⟩, ms_succ hkz (by omega)⟩
      have hd : dueL T (k + 1) = dueL T k ++ [(ordP T).find? (qP T k)] := by rw [← giv_find]; rfl
      rw [hd, manL_app, ints_app]
      have : manL [(ordP T).find? (qP T k)] = [w] := by rw [hw]; rfl
      rw [this]; exact g4
    have exh : ∀ t', Ext t t' → (∀ i, i < T.n → qP T k (idx T ((i + 1 : Nat) : Int)) = false) → (ordP T).find? (qP T k) = none := fun t' e' hno => by
      refine find_no fun j m hj hm => ?_
      rw [ord_len] at hj
      rw [ord_get hj] at hm
      cases hm
      exact hno j hj
    refine L_ref13_due_1_rule W _ nx ⟨s.size, 0, none⟩ qx ql qc k (fun w i t' => Ext t t' ∧ ∃ j : Nat, j ≤ T.n ∧ i = ((j + 1 : Nat) : Int) ∧ ((w = -1 ∧ ∀ i, i < j → qP T k (idx T ((i + 1 : Nat) : Int)) = false) ∨ ∃ m : Nat, w = (m : Nat) ∧ (ordP T).find? (qP T k) = some m)) (fun _ i _ => (T.n + 1 - i).toNat) (-1) 1 t ⟨Ext.refl _, 0, by omega, rfl, .inl ⟨rfl, fun i hi => by omega⟩⟩ ?_
    rintro w i t' ⟨e', j, hj, rfl, hw⟩
    unfold B_ref13_due_1
    have et' := et.trans e'
    refine ⟨_, _, _, hA et', ?_⟩
    -- it is over
    have over : (w < 0 → j = T.n) → J_ref13_due_4 W (endK K E) false ⟨s.size, 0, none⟩ ((j + 1 : Nat) : Int) k qx ql qc (fun vs => N_ref13_due_1 (fun w i t' => Ext t t' ∧ ∃ j : Nat, j ≤ T.n ∧ i = ((j + 1 : Nat) : Int) ∧ ((w = -1 ∧ ∀ i, i < j → qP T k (idx T ((i + 1 : Nat) : Int)) = false) ∨ ∃ m : Nat, w = (m : Nat) ∧ (ordP T).find? (qP T k) = some m)) (fun _ i _ => (T.n + 1 - i).toNat) w ((j + 1 : Nat) : Int) t' vs) w nx t' := by
      intro hov
      unfold J_ref13_due_4
      refine BR_ff rfl ?_
      refine hfull w t' e' ?_
      rcases hw with ⟨rfl, hno⟩ | ⟨m, rfl, hf⟩
      · have hjn := hov (by omega)
        subst hjn
        rw [exh t' e' hno]; rfl
      · rw [hf]; rfl
    refine BR_dec (fun h2 => ?_) (fun h2 => ?_)
    · have hjn : j < T.n := by omega
      rcases hw with ⟨rfl, hno⟩ | ⟨m, rfl, hf⟩
      · have hs := hv.sur ((j + 1 : Nat) : Int) (by omega) (by omega)
        generalize hnx1 : (fun vs : List Value => N_ref13_due_1 _ _ _ _ _ vs) = nx1
        unfold J_ref13_due_4
        refine BR_tt rfl ?_
        refine ⟨_, _, _, hA et', _, _, _, hB et', ?_⟩
        refine f_at (hx.ext (e1.trans et')) (hy.ext (e1.trans et')) (by omega) fun t2 e2 => ?_
        try simp only [TUP_mk, AGG_mk, HD_mk, NL_mk, TYI_mk, TYB_mk, TYP_mk, TYL_mk, TYS_mk, TYM_mk, SO_mk, NX_mk, endK_mk, endK_mk', add_0]
        rw [atL_idx hs.1]
        have hget := ord_get hjn
        generalize hm : idx T ((j + 1 : Nat) : Int) = m at *
        have et2 := et'.trans e2
        obtain ⟨ay, v0, v1, v2⟩ := pz_row (hy.ext (e1.trans et2)) hkz
        refine ⟨_, _, _, hB et2, ?_⟩
        refine IXS_at v0 hkz ?_
        refine ⟨_, v1, ?_⟩
        have hms : (T.n + 1 - (IntKind.i64.wrap (((j + 1 : Nat) : Int) + 1))).toNat < ((T.n : Int) + 1 - ((j + 1 : Nat) : Int)).toNat := by rw [wrap_succ (by omega)]; omega
        have yes : ∀ t3, Ext t' t3 → qP T k m = true → J_ref13_due_0 W (endK K E) ⟨s.size, 0, none⟩ qx ql qc k nx1 (m : Nat) ((j + 1 : Nat) : Int) t3 := by
          intro t3 e3 hq
          unfold J_ref13_due_0
          rw [← hnx1]
          refine ⟨rfl, _, _, rfl, ⟨e'.trans e3, j + 1, hjn, wrap_succ (by omega), .inr ⟨m, rfl, ?_⟩⟩, hms⟩
          refine find_at hget hq fun a x ha hx' => ?_
          rw [ord_get (by omega)] at hx'
          cases hx'
          exact hno a ha
        have nay : ∀ t3, Ext t' t3 → qP T k m = false → J_ref13_due_0 W (endK K E) ⟨s.size, 0, none⟩ qx ql qc k nx1 (-1) ((j + 1 : Nat) : Int) t3 := by
          intro t3 e3 hq
          unfold J_ref13_due_0
          rw [← hnx1]
          refine ⟨rfl, _, _, rfl, ⟨e'.trans e3, j + 1, hjn, wrap_succ (by omega), .inl ⟨rfl, fun i hi => ?_⟩⟩, hms⟩
          by_cases e : i = j
          · subst e; rw [hm]; exact hq
          · exact hno i (by omega)
        have clubs : ∀ t3 b, Ext t' t3 → b = (decide ((T.pz k).kind ≠ 4) || ((T.man m).club == (bestP T).1)) → J_ref13_due_3 W (endK K E) ⟨s.size, 0, none⟩ (m : Nat) k b qx ql qc nx1 ((j + 1 : Nat) : Int) (-1) t3 := by
          intro t3 b e3 hb
          unfold J_ref13_due_3
          have et3 := et'.trans e3
          refine ⟨_, _, _, hA et3, _, _, _, hB et3, ?_⟩
          refine f_can (hx.ext (e1.trans et3)) (hy.ext (e1.trans et3)) hs.1 hkz fun t4 e4 => ?_
          try simp only [TUP_mk, AGG_mk, HD_mk, NL_mk, TYI_mk, TYB_mk, TYP_mk, TYL_mk, TYS_mk, TYM_mk, SO_mk, NX_mk, endK_mk, endK_mk', add_0]
          have e34 := e3.trans e4
          refine BR_bool (fun h3 => ?_) (fun h3 => ?_)
          · unfold J_ref13_due_2
            refine BR_bool (fun h4 => ?_) (fun h4 => ?_)
            · refine f_has (hfr.ext (e'.trans e34)).row (by unfold manL; rw [List.length_map, dueL_len]; exact hlen) (by unfold manL; rw [List.length_map, dueL_len]; omega) ?_
              try simp only [TUP_mk, AGG_mk, HD_mk, NL_mk, TYI_mk, TYB_mk, TYP_mk, TYL_mk, TYS_mk, TYM_mk, SO_mk, NX_mk, endK_mk, endK_mk', add_0]
              rw [mem_manL]
              unfold J_ref13_due_1
              refine BR_not (fun h5 => ?_) (fun h5 => ?_)
              · refine yes t4 e34 ?_
                unfold qP; rw [h3, ← hb, h4, h5]; rfl
              · refine nay t4 e34 ?_
                unfold qP; rw [h3, ← hb, h4, h5]; rfl
            · unfold J_ref13_due_1
              refine BR_ff rfl (nay t4 e34 ?_)
              unfold qP; rw [h3, ← hb, h4]; rfl
          · unfold J_ref13_due_2
            refine BR_ff rfl ?_
            unfold J_ref13_due_1
            refine BR_ff rfl (nay t4 e34 ?_)
            unfold qP; rw [h3]; rfl
        refine BR_ne (fun h3 => ?_) (fun h3 => ?_)
        · refine clubs t2 _ e2 ?_
          rw [decide_eq_true h3]; rfl
        · obtain ⟨ax, w0, w1, w2, w3, w4⟩ := man_row (hx.ext (e1.trans et2)) hs.1
          refine ⟨_, _, _, hA et2, ?_⟩
          refine IXS_at w0 hs.1 ?_
          refine ⟨_, w2, _, _, _, hA et2, _, _, _, hB et2, ?_⟩
          refine f_best hok (hx.ext (e1.trans et2)) (hy.ext (e1.trans et2)) fun t3 e3 => ?_
          try simp only [TUP_mk, AGG_mk, HD_mk, NL_mk, TYI_mk, TYB_mk, TYP_mk, TYL_mk, TYS_mk, TYM_mk, SO_mk, NX_mk, endK_mk, endK_mk', add_0]
          refine ANDS_i ⟨_, e3.cell w2, rfl⟩ ?_
          refine ANDS_i ⟨_, _, _, hA (et2.trans e3), rfl⟩ ?_
          refine clubs t3 _ (e2.trans e3) ?_
          have : ¬ (T.pz k).kind ≠ 4 := fun hh => hh h3
          rw [decide_eq_false this, Bool.false_or]
      · have : decide (((m : Nat) : Int) < 0) = false := decide_eq_false (by omega)
        rw [this]
        exact over (fun hh => by omega)
    · exact over (fun _ => by omega)
  · have hkz : k = T.z := by omega
    subst hkz
    subst hlen
    exact h t qx qc (e1.trans et) (hfr.le e1.1)
end
end Go.Proofs.Ytfaeokcbfnlgbaa.G

/- More of the functions' shallow texts, by gen.py. -/
set_option linter.unusedVariables false
set_option maxRecDepth 100000
namespace Go.Proofs.Ytfaeokcbfnlgbaa.G
open Go.V
def an_16 : Nat → Ann := fun b => match b with
  | _ => {}
abbrev rv_16 : List ResultVar := [.tmp 6, .tmp 7]
abbrev rs_16 : List Nat := [26, 6, 7]
def J_ref13_Can_0 (W : World) (R : Ending → Hp → Prop) (x46 : Option Addr) (l47 : Nat) (c48 : Nat) (x49 : Option Addr) (l50 : Nat) (c51 : Nat) (b65 : Bool) (B9 : Nat) (n7 : Int) (n8 : Int) : Hp → Prop :=
  CALL Pg W F_ref13_check [(.agg #[(.slice x46 l47 c48), (.slice x49 l50 c51)]), (.bool b65)]
    (fun v66 => TYI .i64 v66 fun n68 =>
      BR (n68 != 0)
        (R (.returned (.tuple #[(.bool false), (.int .i64 n68)])))
        (RDL (Addr.add ⟨B9, 0, none⟩ 0) fun x69 l70 c71 =>
          RDL (Addr.add ⟨B9, 0, none⟩ 1) fun x72 l73 c74 =>
            CALL Pg W F_ref13_can [(.agg #[(.slice x69 l70 c71), (.slice x72 l73 c74)]), (.int .i64 n7), (.int .i64 n8)]
              (fun v75 => TYB v75 fun b77 =>
                R (.returned (.tuple #[(.bool b77), (.int .i64 0)])))
                (fun e76 => R (.panicked e76))))
      (fun e67 => R (.panicked e67))
def T_ref13_Can (W : World) (x1 : Option Addr) (l2 : Nat) (c3 : Nat) (x4 : Option Addr) (l5 : Nat) (c6 : Nat) (n7 : Int) (n8 : Int) (R : Ending → Hp → Prop) : Hp → Prop :=
  NEW 25 [(.slice x1 l2 c3), (.slice x4 l5 c6)] fun B9 =>
    RDL (Addr.add ⟨B9, 0, none⟩ 0) fun x10 l11 c12 =>
      RDL (Addr.add ⟨B9, 0, none⟩ 1) fun x13 l14 c15 =>
        RDL (Addr.add ⟨B9, 0, none⟩ 0) fun x16 l17 c18 =>
          RDL (Addr.add ⟨B9, 0, none⟩ 1) fun x19 l20 c21 =>
            CALL Pg W F_ref13_Man [(.agg #[(.slice x16 l17 c18), (.slice x19 l20 c21)]), (.int .i64 n7)]
              (fun v22 => TYB v22 fun b24 =>
                ANDS (RDL (Addr.add ⟨B9, 0, none⟩ 0) fun x25 l26 c27 =>
                  RDL (Addr.add ⟨B9, 0, none⟩ 1) fun x28 l29 c30 =>
                    fun _ => ((.agg #[(.slice x25 l26 c27), (.slice x28 l29 c30)]) : Value) = (.agg #[(.slice x10 l11 c12), (.slice x13 l14 c15)])) <|
                  BR b24
                    (RDL (Addr.add ⟨B9, 0, none⟩ 0) fun x31 l32 c33 =>
                      RDL (Addr.add ⟨B9, 0, none⟩ 1) fun x34 l35 c36 =>
                        CALL Pg W F_ref13_Prize [(.agg #[(.slice x31 l32 c33), (.slice x34 l35 c36)]), (.int .i64 n8)]
                          (fun v37 => TYB v37 fun b39 =>
                            ANDS (RDL (Addr.add ⟨B9, 0, none⟩ 0) fun x40 l41 c42 =>
                              RDL (Addr.add ⟨B9, 0, none⟩ 1) fun x43 l44 c45 =>
                                fun _ => ((.agg #[(.slice x40 l41 c42), (.slice x43 l44 c45)]) : Value) = (.agg #[(.slice x10 l11 c12), (.slice x13 l14 c15)])) <|
                              J_ref13_Can_0 W R x10 l11 c12 x13 l14 c15 b39 B9 n7 n8)
                            (fun e38 => R (.panicked e38)))
                    (J_ref13_Can_0 W R x10 l11 c12 x13 l14 c15 false B9 n7 n8))
                (fun e23 => R (.panicked e23))
theorem T_ref13_Can_eq (W : World) (x1 : Option Addr) (l2 : Nat) (c3 : Nat) (x4 : Option Addr) (l5 : Nat) (c6 : Nat) (n7 : Int) (n8 : Int) (R : Ending → Hp → Prop) : vfun Pg W an_16 Try.f16 [(.agg #[(.slice x1 l2 c3), (.slice x4 l5 c6)]), (.int .i64 n7), (.int .i64 n8)] R = T_ref13_Can W x1 l2 c3 x4 l5 c6 n7 n8 R := by kernel_rfl
theorem does_ref13_Can (W : World) (x1 : Option Addr) (l2 : Nat) (c3 : Nat) (x4 : Option Addr) (l5 : Nat) (c6 : Nat) (n7 : Int) (n8 : Int) (R : Ending → Hp → Prop) (s : Hp) (h : T_ref13_Can W x1 l2 c3 x4 l5 c6 n7 n8 R s) : Does Pg W F_ref13_Can #[(.agg #[(.slice x1 l2 c3), (.slice x4 l5 c6)]), (.int .i64 n7), (.int .i64 n8)] s R :=
  does_of_vfun Pg W an_16 Try.func16 rfl (by kernel_rfl) (by rw [T_ref13_Can_eq]; exact h)
def an_18 : Nat → Ann := fun b => match b with
  | _ => {}
abbrev rv_18 : List ResultVar := [.tmp 2, .tmp 3]
abbrev rs_18 : List Nat := [12, 2, 3]
def T_ref13_Due (W : World) (x1 : Option Addr) (l2 : Nat) (c3 : Nat) (x4 : Option Addr) (l5 : Nat) (c6 : Nat) (R : Ending → Hp → Prop) : Hp → Prop :=
  NEW 25 [(.slice x1 l2 c3), (.slice x4 l5 c6)] fun B7 =>
    RDL (Addr.add ⟨B7, 0, none⟩ 0) fun x8 l9 c10 =>
      RDL (Addr.add ⟨B7, 0, none⟩ 1) fun x11 l12 c13 =>
        CALL Pg W F_ref13_check [(.agg #[(.slice x8 l9 c10), (.slice x11 l12 c13)]), (.bool true)]
          (fun v14 => TYI .i64 v14 fun n16 =>
            BR (n16 != 0)
              (R (.returned (.tuple #[(.slice none 0 0), (.int .i64 n16)])))
              (RDL (Addr.add ⟨B7, 0, none⟩ 0) fun x17 l18 c19 =>
                RDL (Addr.add ⟨B7, 0, none⟩ 1) fun x20 l21 c22 =>
                  CALL Pg W F_ref13_due [(.agg #[(.slice x17 l18 c19), (.slice x20 l21 c22)])]
                    (fun v23 => TYL v23 fun x25 l26 c27 =>
                      R (.returned (.tuple #[(.slice x25 l26 c27), (.int .i64 0)])))
                      (fun e24 => R (.panicked e24))))
            (fun e15 => R (.panicked e15))
theorem T_ref13_Due_eq (W : World) (x1 : Option Addr) (l2 : Nat) (c3 : Nat) (x4 : Option Addr) (l5 : Nat) (c6 : Nat) (R : Ending → Hp → Prop) : vfun Pg W an_18 Try.f18 [(.agg #[(.slice x1 l2 c3), (.slice x4 l5 c6)])] R = T_ref13_Due W x1 l2 c3 x4 l5 c6 R := by kernel_rfl
theorem does_ref13_Due (W : World) (x1 : Option Addr) (l2 : Nat) (c3 : Nat) (x4 : Option Addr) (l5 : Nat) (c6 : Nat) (R : Ending → Hp → Prop) (s : Hp) (h : T_ref13_Due W x1 l2 c3 x4 l5 c6 R s) : Does Pg W F_ref13_Due #[(.agg #[(.slice x1 l2 c3), (.slice x4 l5 c6)])] s R :=
  does_of_vfun Pg W an_18 Try.func18 rfl (by kernel_rfl) (by rw [T_ref13_Due_eq]; exact h)
def an_20 : Nat → Ann := fun b => match b with
  | 0 => { ms := [4, 5, 6, 9], ks := [.i .i64, .i .i64, .i .i64, .i .i64], us := [1, 8, 40], rt := false, ex := [] }
  | _ => {}
abbrev rv_20 : List ResultVar := [.tmp 4, .tmp 5, .tmp 6]
abbrev rs_20 : List Nat := [40, 4, 5, 6]
def L_ref13_Wrong_0 (W : World) (R : Ending → Hp → Prop) (zp0 : Option Addr) (zl1 : Nat) (zl2 : Nat) (zp3 : Option Addr) (zl4 : Nat) (zl5 : Nat) (n46 : Int) (n47 : Int) (n48 : Int) (n49 : Int) : Hp → Prop :=
  LOOPN [.i .i64, .i .i64, .i .i64, .i .i64] (fun ys next s => ∀ j : Tm, vc Pg W 40 rs_20 an_20 false (sub (bodyOf Try.f20) [1, 1, 1, 1, 0, 1, 0, 0]) 0 (KLoop [4, 5, 6, 9] [1, 8, 40] [(.slice zp0 zl1 zl2), (.slice zp3 zl4 zl5), (.tuple #[])] next (KBlk 0 (KS Pg W 40 rs_20 an_20 false (sub (bodyOf Try.f20) [1, 1, 1, 1, 1]) 0 (fin Pg W 40 rv_20 R)))) (known [4, 5, 6, 9] ys (known [1, 8, 40] [(.slice zp0 zl1 zl2), (.slice zp3 zl4 zl5), (.tuple #[])] j)) s) [(.int .i64 n46), (.int .i64 n47), (.int .i64 n48), (.int .i64 n49)]
def B_ref13_Wrong_0 (W : World) (R : Ending → Hp → Prop) (zp0 : Option Addr) (zl1 : Nat) (zl2 : Nat) (zp3 : Option Addr) (zl4 : Nat) (zl5 : Nat) (n46 : Int) (n47 : Int) (n48 : Int) (n49 : Int) (nx0 : List Value → Hp → Prop) : Hp → Prop :=
  BR (decide (n49 < (↑zl1 : Int)))
    (IXS zp0 zl1 n49 1 fun a50 =>
      RDI .i64 a50 fun n51 =>
        IXS zp3 zl4 n49 1 fun a52 =>
          RDI .i64 a52 fun n53 =>
            BR (n51 != n53)
              (IXS zp3 zl4 n49 1 fun a54 =>
                RDI .i64 a54 fun n55 =>
                  ANDS (RDI .i64 a54 fun n56 =>
                    fun _ => ((.int .i64 n56) : Value) = (.int .i64 n55)) <|
                    R (.returned (.tuple #[(.int .i64 n49), (.int .i64 n55), (.int .i64 0)])))
              (NX [(.slice zp0 zl1 zl2), (.slice zp3 zl4 zl5), (.tuple #[])] [(.slice zp0 zl1 zl2), (.slice zp3 zl4 zl5), (.tuple #[])] (nx0 [(.int .i64 n46), (.int .i64 n47), (.int .i64 n48), (.int .i64 (IntKind.wrap .i64 (n49 + 1)))])))
    (R (.returned (.tuple #[(.int .i64 0), (.int .i64 0), (.int .i64 4)])))
theorem B_ref13_Wrong_0_eq (W : World) (R : Ending → Hp → Prop) (zp0 : Option Addr) (zl1 : Nat) (zl2 : Nat) (zp3 : Option Addr) (zl4 : Nat) (zl5 : Nat) (n46 : Int) (n47 : Int) (n48 : Int) (n49 : Int) (nx0 : List Value → Hp → Prop) (j : Tm) : vc Pg W 40 rs_20 an_20 false (sub (bodyOf Try.f20) [1, 1, 1, 1, 0, 1, 0, 0]) 0 (KLoop [4, 5, 6, 9] [1, 8, 40] [(.slice zp0 zl1 zl2), (.slice zp3 zl4 zl5), (.tuple #[])] nx0 (KBlk 0 (KS Pg W 40 rs_20 an_20 false (sub (bodyOf Try.f20) [1, 1, 1, 1, 1]) 0 (fin Pg W 40 rv_20 R)))) (known [4, 5, 6, 9] [(.int .i64 n46), (.int .i64 n47), (.int .i64 n48), (.int .i64 n49)] (known [1, 8, 40] [(.slice zp0 zl1 zl2), (.slice zp3 zl4 zl5), (.tuple #[])] j)) = B_ref13_Wrong_0 W R zp0 zl1 zl2 zp3 zl4 zl5 n46 n47 n48 n49 nx0 := by kernel_rfl
def N_ref13_Wrong_0 (I : Int → Int → Int → Int → Hp → Prop) (μ : Int → Int → Int → Int → Hp → Nat) (n460 : Int) (n470 : Int) (n480 : Int) (n490 : Int) (s : Hp) (vs : List Value) : Hp → Prop := fun s' => ∃ n46 n47 n48 n49, vs = [(.int .i64 n46), (.int .i64 n47), (.int .i64 n48), (.int .i64 n49)] ∧ I n46 n47 n48 n49 s' ∧ μ n46 n47 n48 n49 s' < μ n460 n470 n480 n490 s
theorem L_ref13_Wrong_0_rule (W : World) (R : Ending → Hp → Prop) (zp0 : Option Addr) (zl1 : Nat) (zl2 : Nat) (zp3 : Option Addr) (zl4 : Nat) (zl5 : Nat) (I : Int → Int → Int → Int → Hp → Prop) (μ : Int → Int → Int → Int → Hp → Nat) (n460 : Int) (n470 : Int) (n480 : Int) (n490 : Int) (s : Hp) (h0 : I n460 n470 n480 n490 s)
    (hr : ∀ (n46 : Int) (n47 : Int) (n48 : Int) (n49 : Int) (s : Hp), I n46 n47 n48 n49 s → B_ref13_Wrong_0 W R zp0 zl1 zl2 zp3 zl4 zl5 n46 n47 n48 n49 (fun vs => N_ref13_Wrong_0 I μ n46 n47 n48 n49 s vs) s) : L_ref13_Wrong_0 W R zp0 zl1 zl2 zp3 zl4 zl5 n460 n470 n480 n490 s := by
  refine ⟨fun vs s => ∃ n46 n47 n48 n49, vs = [(.int .i64 n46), (.int .i64 n47), (.int .i64 n48), (.int .i64 n49)] ∧ I n46 n47 n48 n49 s, fun vs s => (match vs with | [.int _ n46, .int _ n47, .int _ n48, .int _ n49] => μ n46 n47 n48 n49 s | _ => 0), ⟨⟨⟨_, rfl⟩, ⟨⟨_, rfl⟩, ⟨⟨_, rfl⟩, ⟨⟨_, rfl⟩, trivial⟩⟩⟩⟩, ⟨_, _, _, _, rfl, h0⟩⟩, ?_⟩
  intro n46 n47 n48 n49 s hI j
  obtain ⟨n46', n47', n48', n49', hy, hI⟩ := hI
  have hI' : I n46 n47 n48 n49 s := by cases hy; exact hI
  have hh := hr n46 n47 n48 n49 s hI'
  rw [← B_ref13_Wrong_0_eq W R zp0 zl1 zl2 zp3 zl4 zl5 n46 n47 n48 n49 _ j] at hh
  refine vc_mono ?_ _ _ hh
  exact KLoop_mono (fun vs s' h => by obtain ⟨n461, n471, n481, n491, rfl, h1, h2⟩ := h; exact ⟨⟨⟨_, rfl⟩, ⟨⟨_, rfl⟩, ⟨⟨_, rfl⟩, ⟨⟨_, rfl⟩, trivial⟩⟩⟩⟩, ⟨_, _, _, _, rfl, h1⟩, h2⟩)
def T_ref13_Wrong (W : World) (x1 : Option Addr) (l2 : Nat) (c3 : Nat) (x4 : Option Addr) (l5 : Nat) (c6 : Nat) (x7 : Option Addr) (l8 : Nat) (c9 : Nat) (R : Ending → Hp → Prop) : Hp → Prop :=
  NEW 25 [(.slice x1 l2 c3), (.slice x4 l5 c6)] fun B10 =>
    RDL (Addr.add ⟨B10, 0, none⟩ 0) fun x11 l12 c13 =>
      RDL (Addr.add ⟨B10, 0, none⟩ 1) fun x14 l15 c16 =>
        RDL (Addr.add ⟨B10, 0, none⟩ 0) fun x17 l18 c19 =>
          RDL (Addr.add ⟨B10, 0, none⟩ 1) fun x20 l21 c22 =>
            CALL Pg W F_ref13_Giving [(.agg #[(.slice x17 l18 c19), (.slice x20 l21 c22)]), (.slice x7 l8 c9)]
              (fun v23 => TYB v23 fun b25 =>
                ANDS (RDL (Addr.add ⟨B10, 0, none⟩ 0) fun x26 l27 c28 =>
                  RDL (Addr.add ⟨B10, 0, none⟩ 1) fun x29 l30 c31 =>
                    fun _ => ((.agg #[(.slice x26 l27 c28), (.slice x29 l30 c31)]) : Value) = (.agg #[(.slice x11 l12 c13), (.slice x14 l15 c16)])) <|
                  CALL Pg W F_ref13_check [(.agg #[(.slice x11 l12 c13), (.slice x14 l15 c16)]), (.bool b25)]
                    (fun v32 => TYI .i64 v32 fun n34 =>
                      BR (n34 != 0)
                        (R (.returned (.tuple #[(.int .i64 0), (.int .i64 0), (.int .i64 n34)])))
                        (RDL (Addr.add ⟨B10, 0, none⟩ 0) fun x35 l36 c37 =>
                          RDL (Addr.add ⟨B10, 0, none⟩ 1) fun x38 l39 c40 =>
                            CALL Pg W F_ref13_due [(.agg #[(.slice x35 l36 c37), (.slice x38 l39 c40)])]
                              (fun v41 => TYL v41 fun x43 l44 c45 =>
                                L_ref13_Wrong_0 W R x7 l8 c9 x43 l44 c45 0 0 0 0)
                                (fun e42 => R (.panicked e42))))
                      (fun e33 => R (.panicked e33)))
                (fun e24 => R (.panicked e24))
theorem T_ref13_Wrong_eq (W : World) (x1 : Option Addr) (l2 : Nat) (c3 : Nat) (x4 : Option Addr) (l5 : Nat) (c6 : Nat) (x7 : Option Addr) (l8 : Nat) (c9 : Nat) (R : Ending → Hp → Prop) : vfun Pg W an_20 Try.f20 [(.agg #[(.slice x1 l2 c3), (.slice x4 l5 c6)]), (.slice x7 l8 c9)] R = T_ref13_Wrong W x1 l2 c3 x4 l5 c6 x7 l8 c9 R := by kernel_rfl
theorem does_ref13_Wrong (W : World) (x1 : Option Addr) (l2 : Nat) (c3 : Nat) (x4 : Option Addr) (l5 : Nat) (c6 : Nat) (x7 : Option Addr) (l8 : Nat) (c9 : Nat) (R : Ending → Hp → Prop) (s : Hp) (h : T_ref13_Wrong W x1 l2 c3 x4 l5 c6 x7 l8 c9 R s) : Does Pg W F_ref13_Wrong #[(.agg #[(.slice x1 l2 c3), (.slice x4 l5 c6)]), (.slice x7 l8 c9)] s R :=
  does_of_vfun Pg W an_20 Try.func20 rfl (by kernel_rfl) (by rw [T_ref13_Wrong_eq]; exact h)
def an_22 : Nat → Ann := fun b => match b with
  | _ => {}
abbrev rv_22 : List ResultVar := [.tmp 2, .tmp 3, .tmp 4]
abbrev rs_22 : List Nat := [20, 2, 3, 4]
def T_ref13_Club (W : World) (x1 : Option Addr) (l2 : Nat) (c3 : Nat) (x4 : Option Addr) (l5 : Nat) (c6 : Nat) (R : Ending → Hp → Prop) : Hp → Prop :=
  NEW 25 [(.slice x1 l2 c3), (.slice x4 l5 c6)] fun B7 =>
    RDL (Addr.add ⟨B7, 0, none⟩ 0) fun x8 l9 c10 =>
      RDL (Addr.add ⟨B7, 0, none⟩ 1) fun x11 l12 c13 =>
        CALL Pg W F_ref13_check [(.agg #[(.slice x8 l9 c10), (.slice x11 l12 c13)]), (.bool true)]
          (fun v14 => TYI .i64 v14 fun n16 =>
            BR (n16 != 0)
              (R (.returned (.tuple #[(.int .i64 0), (.int .i64 0), (.int .i64 n16)])))
              (RDL (Addr.add ⟨B7, 0, none⟩ 0) fun x17 l18 c19 =>
                RDL (Addr.add ⟨B7, 0, none⟩ 1) fun x20 l21 c22 =>
                  CALL Pg W F_ref13_best [(.agg #[(.slice x17 l18 c19), (.slice x20 l21 c22)])]
                    (fun v23 => TYI .i64 v23 fun n25 =>
                      BR (n25 == 0)
                        (R (.returned (.tuple #[(.int .i64 0), (.int .i64 0), (.int .i64 4)])))
                        (RDL (Addr.add ⟨B7, 0, none⟩ 0) fun x26 l27 c28 =>
                          RDL (Addr.add ⟨B7, 0, none⟩ 1) fun x29 l30 c31 =>
                            CALL Pg W F_ref13_sum [(.agg #[(.slice x26 l27 c28), (.slice x29 l30 c31)]), (.int .i64 n25)]
                              (fun v32 => TYI .i64 v32 fun n34 =>
                                R (.returned (.tuple #[(.int .i64 n25), (.int .i64 n34), (.int .i64 0)])))
                                (fun e33 => R (.panicked e33))))
                      (fun e24 => R (.panicked e24))))
            (fun e15 => R (.panicked e15))
theorem T_ref13_Club_eq (W : World) (x1 : Option Addr) (l2 : Nat) (c3 : Nat) (x4 : Option Addr) (l5 : Nat) (c6 : Nat) (R : Ending → Hp → Prop) : vfun Pg W an_22 Try.f22 [(.agg #[(.slice x1 l2 c3), (.slice x4 l5 c6)])] R = T_ref13_Club W x1 l2 c3 x4 l5 c6 R := by kernel_rfl
theorem does_ref13_Club (W : World) (x1 : Option Addr) (l2 : Nat) (c3 : Nat) (x4 : Option Addr) (l5 : Nat) (c6 : Nat) (R : Ending → Hp → Prop) (s : Hp) (h : T_ref13_Club W x1 l2 c3 x4 l5 c6 R s) : Does Pg W F_ref13_Club #[(.agg #[(.slice x1 l2 c3), (.slice x4 l5 c6)])] s R :=
  does_of_vfun Pg W an_22 Try.func22 rfl (by kernel_rfl) (by rw [T_ref13_Club_eq]; exact h)
def an_24 : Nat → Ann := fun b => match b with
  | 0 => { ms := [9, 10], ks := [.i .i64, .i .i64], us := [4, 5, 6, 8, 40], rt := false, ex := [] }
  | _ => {}
abbrev rv_24 : List ResultVar := [.tmp 4, .tmp 5, .tmp 6]
abbrev rs_24 : List Nat := [40, 4, 5, 6]
def L_ref13_Worth_0 (W : World) (R : Ending → Hp → Prop) (zp0 : Option Addr) (zl1 : Nat) (zl2 : Nat) (n55 : Int) (n56 : Int) : Hp → Prop :=
  LOOPN [.i .i64, .i .i64] (fun ys next s => ∀ j : Tm, vc Pg W 40 rs_24 an_24 false (sub (bodyOf Try.f24) [1, 1, 1, 1, 1, 1, 0, 1, 0, 0]) 0 (KLoop [9, 10] [4, 5, 6, 8, 40] [(.slice none 0 0), (.int .i64 0), (.int .i64 0), (.slice zp0 zl1 zl2), (.tuple #[])] next (KBlk 0 (KS Pg W 40 rs_24 an_24 false (sub (bodyOf Try.f24) [1, 1, 1, 1, 1, 1, 1]) 0 (fin Pg W 40 rv_24 R)))) (known [9, 10] ys (known [4, 5, 6, 8, 40] [(.slice none 0 0), (.int .i64 0), (.int .i64 0), (.slice zp0 zl1 zl2), (.tuple #[])] j)) s) [(.int .i64 n55), (.int .i64 n56)]
def B_ref13_Worth_0 (W : World) (R : Ending → Hp → Prop) (zp0 : Option Addr) (zl1 : Nat) (zl2 : Nat) (n55 : Int) (n56 : Int) (nx0 : List Value → Hp → Prop) : Hp → Prop :=
  BR (decide (n56 < (↑zl1 : Int)))
    (IXS zp0 zl1 n56 1 fun a57 =>
      RDI .i64 a57 fun n58 =>
        NX [(.slice none 0 0), (.int .i64 0), (.int .i64 0), (.slice zp0 zl1 zl2), (.tuple #[])] [(.slice none 0 0), (.int .i64 0), (.int .i64 0), (.slice zp0 zl1 zl2), (.tuple #[])] (nx0 [(.int .i64 (IntKind.wrap .i64 (n55 + n58))), (.int .i64 (IntKind.wrap .i64 (n56 + 1)))]))
    (R (.returned (.tuple #[(.slice zp0 zl1 zl2), (.int .i64 n55), (.int .i64 0)])))
theorem B_ref13_Worth_0_eq (W : World) (R : Ending → Hp → Prop) (zp0 : Option Addr) (zl1 : Nat) (zl2 : Nat) (n55 : Int) (n56 : Int) (nx0 : List Value → Hp → Prop) (j : Tm) : vc Pg W 40 rs_24 an_24 false (sub (bodyOf Try.f24) [1, 1, 1, 1, 1, 1, 0, 1, 0, 0]) 0 (KLoop [9, 10] [4, 5, 6, 8, 40] [(.slice none 0 0), (.int .i64 0), (.int .i64 0), (.slice zp0 zl1 zl2), (.tuple #[])] nx0 (KBlk 0 (KS Pg W 40 rs_24 an_24 false (sub (bodyOf Try.f24) [1, 1, 1, 1, 1, 1, 1]) 0 (fin Pg W 40 rv_24 R)))) (known [9, 10] [(.int .i64 n55), (.int .i64 n56)] (known [4, 5, 6, 8, 40] [(.slice none 0 0), (.int .i64 0), (.int .i64 0), (.slice zp0 zl1 zl2), (.tuple #[])] j)) = B_ref13_Worth_0 W R zp0 zl1 zl2 n55 n56 nx0 := by kernel_rfl
def N_ref13_Worth_0 (I : Int → Int → Hp → Prop) (μ : Int → Int → Hp → Nat) (n550 : Int) (n560 : Int) (s : Hp) (vs : List Value) : Hp → Prop := fun s' => ∃ n55 n56, vs = [(.int .i64 n55), (.int .i64 n56)] ∧ I n55 n56 s' ∧ μ n55 n56 s' < μ n550 n560 s
theorem L_ref13_Worth_0_rule (W : World) (R : Ending → Hp → Prop) (zp0 : Option Addr) (zl1 : Nat) (zl2 : Nat) (I : Int → Int → Hp → Prop) (μ : Int → Int → Hp → Nat) (n550 : Int) (n560 : Int) (s : Hp) (h0 : I n550 n560 s)
    (hr : ∀ (n55 : Int) (n56 : Int) (s : Hp), I n55 n56 s → B_ref13_Worth_0 W R zp0 zl1 zl2 n55 n56 (fun vs => N_ref13_Worth_0 I μ n55 n56 s vs) s) : L_ref13_Worth_0 W R zp0 zl1 zl2 n550 n560 s := by
  refine ⟨fun vs s => ∃ n55 n56, vs = [(.int .i64 n55), (.int .i64 n56)] ∧ I n55 n56 s, fun vs s => (match vs with | [.int _ n55, .int _ n56] => μ n55 n56 s | _ => 0), ⟨⟨⟨_, rfl⟩, ⟨⟨_, rfl⟩, trivial⟩⟩, ⟨_, _, rfl, h0⟩⟩, ?_⟩
  intro n55 n56 s hI j
  obtain ⟨n55', n56', hy, hI⟩ := hI
  have hI' : I n55 n56 s := by cases hy; exact hI
  have hh := hr n55 n56 s hI'
  rw [← B_ref13_Worth_0_eq W R zp0 zl1 zl2 n55 n56 _ j] at hh
  refine vc_mono ?_ _ _ hh
  exact KLoop_mono (fun vs s' h => by obtain ⟨n551, n561, rfl, h1, h2⟩ := h; exact ⟨⟨⟨_, rfl⟩, ⟨⟨_, rfl⟩, trivial⟩⟩, ⟨_, _, rfl, h1⟩, h2⟩)
def T_ref13_Worth (W : World) (x1 : Option Addr) (l2 : Nat) (c3 : Nat) (x4 : Option Addr) (l5 : Nat) (c6 : Nat) (x7 : Option Addr) (l8 : Nat) (c9 : Nat) (R : Ending → Hp → Prop) : Hp → Prop :=
  NEW 25 [(.slice x1 l2 c3), (.slice x4 l5 c6)] fun B10 =>
    RDL (Addr.add ⟨B10, 0, none⟩ 0) fun x11 l12 c13 =>
      RDL (Addr.add ⟨B10, 0, none⟩ 1) fun x14 l15 c16 =>
        RDL (Addr.add ⟨B10, 0, none⟩ 0) fun x17 l18 c19 =>
          RDL (Addr.add ⟨B10, 0, none⟩ 1) fun x20 l21 c22 =>
            CALL Pg W F_ref13_Giving [(.agg #[(.slice x17 l18 c19), (.slice x20 l21 c22)]), (.slice x7 l8 c9)]
              (fun v23 => TYB v23 fun b25 =>
                ANDS (RDL (Addr.add ⟨B10, 0, none⟩ 0) fun x26 l27 c28 =>
                  RDL (Addr.add ⟨B10, 0, none⟩ 1) fun x29 l30 c31 =>
                    fun _ => ((.agg #[(.slice x26 l27 c28), (.slice x29 l30 c31)]) : Value) = (.agg #[(.slice x11 l12 c13), (.slice x14 l15 c16)])) <|
                  CALL Pg W F_ref13_check [(.agg #[(.slice x11 l12 c13), (.slice x14 l15 c16)]), (.bool b25)]
                    (fun v32 => TYI .i64 v32 fun n34 =>
                      BR (n34 != 0)
                        (R (.returned (.tuple #[(.slice none 0 0), (.int .i64 0), (.int .i64 n34)])))
                        (RDL (Addr.add ⟨B10, 0, none⟩ 0) fun x35 l36 c37 =>
                          RDL (Addr.add ⟨B10, 0, none⟩ 1) fun x38 l39 c40 =>
                            CALL Pg W F_ref13_Fair [(.agg #[(.slice x35 l36 c37), (.slice x38 l39 c40)]), (.slice x7 l8 c9)]
                              (fun v41 => TYB v41 fun b43 =>
                                BR (!b43)
                                  (R (.returned (.tuple #[(.slice none 0 0), (.int .i64 0), (.int .i64 4)])))
                                  (RDL (Addr.add ⟨B10, 0, none⟩ 0) fun x44 l45 c46 =>
                                    RDL (Addr.add ⟨B10, 0, none⟩ 1) fun x47 l48 c49 =>
                                      CALL Pg W F_ref13_worths [(.agg #[(.slice x44 l45 c46), (.slice x47 l48 c49)]), (.slice x7 l8 c9)]
                                        (fun v50 => TYL v50 fun x52 l53 c54 =>
                                          L_ref13_Worth_0 W R x52 l53 c54 0 0)
                                          (fun e51 => R (.panicked e51))))
                                (fun e42 => R (.panicked e42))))
                      (fun e33 => R (.panicked e33)))
                (fun e24 => R (.panicked e24))
theorem T_ref13_Worth_eq (W : World) (x1 : Option Addr) (l2 : Nat) (c3 : Nat) (x4 : Option Addr) (l5 : Nat) (c6 : Nat) (x7 : Option Addr) (l8 : Nat) (c9 : Nat) (R : Ending → Hp → Prop) : vfun Pg W an_24 Try.f24 [(.agg #[(.slice x1 l2 c3), (.slice x4 l5 c6)]), (.slice x7 l8 c9)] R = T_ref13_Worth W x1 l2 c3 x4 l5 c6 x7 l8 c9 R := by kernel_rfl
theorem does_ref13_Worth (W : World) (x1 : Option Addr) (l2 : Nat) (c3 : Nat) (x4 : Option Addr) (l5 : Nat) (c6 : Nat) (x7 : Option Addr) (l8 : Nat) (c9 : Nat) (R : Ending → Hp → Prop) (s : Hp) (h : T_ref13_Worth W x1 l2 c3 x4 l5 c6 x7 l8 c9 R s) : Does Pg W F_ref13_Worth #[(.agg #[(.slice x1 l2 c3), (.slice x4 l5 c6)]), (.slice x7 l8 c9)] s R :=
  does_of_vfun Pg W an_24 Try.func24 rfl (by kernel_rfl) (by rw [T_ref13_Worth_eq]; exact h)
def an_35 : Nat → Ann := fun b => match b with
  | 0 => { ms := [3, 4], ks := [.i .i64, .i .i64], us := [0, 2, 19], rt := false, ex := [] }
  | _ => {}
abbrev rv_35 : List ResultVar := [.tmp 2]
abbrev rs_35 : List Nat := [19, 2]
def L_ref13_Many_0 (W : World) (R : Ending → Hp → Prop) (zp0 : Option Addr) (zl1 : Nat) (zl2 : Nat) (n4 : Int) (n5 : Int) : Hp → Prop :=
  LOOPN [.i .i64, .i .i64] (fun ys next s => ∀ j : Tm, vc Pg W 19 rs_35 an_35 false (sub (bodyOf Try.f35) [1, 1, 0, 1, 0, 0]) 0 (KLoop [3, 4] [0, 2, 19] [(.slice zp0 zl1 zl2), (.int .i64 0), (.tuple #[])] next (KBlk 0 (KS Pg W 19 rs_35 an_35 false (sub (bodyOf Try.f35) [1, 1, 1]) 0 (fin Pg W 19 rv_35 R)))) (known [3, 4] ys (known [0, 2, 19] [(.slice zp0 zl1 zl2), (.int .i64 0), (.tuple #[])] j)) s) [(.int .i64 n4), (.int .i64 n5)]
def B_ref13_Many_0 (W : World) (R : Ending → Hp → Prop) (zp0 : Option Addr) (zl1 : Nat) (zl2 : Nat) (n4 : Int) (n5 : Int) (nx0 : List Value → Hp → Prop) : Hp → Prop :=
  BR (decide (n5 < (↑zl1 : Int)))
    (IXS zp0 zl1 n5 1 fun a6 =>
      RDI .i64 a6 fun n7 =>
        BR (decide (n7 ≥ 0))
          (NX [(.slice zp0 zl1 zl2), (.int .i64 0), (.tuple #[])] [(.slice zp0 zl1 zl2), (.int .i64 0), (.tuple #[])] (nx0 [(.int .i64 (IntKind.wrap .i64 (n4 + 1))), (.int .i64 (IntKind.wrap .i64 (n5 + 1)))]))
          (NX [(.slice zp0 zl1 zl2), (.int .i64 0), (.tuple #[])] [(.slice zp0 zl1 zl2), (.int .i64 0), (.tuple #[])] (nx0 [(.int .i64 n4), (.int .i64 (IntKind.wrap .i64 (n5 + 1)))])))
    (R (.returned (.int .i64 n4)))
theorem B_ref13_Many_0_eq (W : World) (R : Ending → Hp → Prop) (zp0 : Option Addr) (zl1 : Nat) (zl2 : Nat) (n4 : Int) (n5 : Int) (nx0 : List Value → Hp → Prop) (j : Tm) : vc Pg W 19 rs_35 an_35 false (sub (bodyOf Try.f35) [1, 1, 0, 1, 0, 0]) 0 (KLoop [3, 4] [0, 2, 19] [(.slice zp0 zl1 zl2), (.int .i64 0), (.tuple #[])] nx0 (KBlk 0 (KS Pg W 19 rs_35 an_35 false (sub (bodyOf Try.f35) [1, 1, 1]) 0 (fin Pg W 19 rv_35 R)))) (known [3, 4] [(.int .i64 n4), (.int .i64 n5)] (known [0, 2, 19] [(.slice zp0 zl1 zl2), (.int .i64 0), (.tuple #[])] j)) = B_ref13_Many_0 W R zp0 zl1 zl2 n4 n5 nx0 := by kernel_rfl
def N_ref13_Many_0 (I : Int → Int → Hp → Prop) (μ : Int → Int → Hp → Nat) (n40 : Int) (n50 : Int) (s : Hp) (vs : List Value) : Hp → Prop := fun s' => ∃ n4 n5, vs = [(.int .i64 n4), (.int .i64 n5)] ∧ I n4 n5 s' ∧ μ n4 n5 s' < μ n40 n50 s
theorem L_ref13_Many_0_rule (W : World) (R : Ending → Hp → Prop) (zp0 : Option Addr) (zl1 : Nat) (zl2 : Nat) (I : Int → Int → Hp → Prop) (μ : Int → Int → Hp → Nat) (n40 : Int) (n50 : Int) (s : Hp) (h0 : I n40 n50 s)
    (hr : ∀ (n4 : Int) (n5 : Int) (s : Hp), I n4 n5 s → B_ref13_Many_0 W R zp0 zl1 zl2 n4 n5 (fun vs => N_ref13_Many_0 I μ n4 n5 s vs) s) : L_ref13_Many_0 W R zp0 zl1 zl2 n40 n50 s := by
  refine ⟨fun vs s => ∃ n4 n5, vs = [(.int .i64 n4), (.int .i64 n5)] ∧ I n4 n5 s, fun vs s => (match vs with | [.int _ n4, .int _ n5] => μ n4 n5 s | _ => 0), ⟨⟨⟨_, rfl⟩, ⟨⟨_, rfl⟩, trivial⟩⟩, ⟨_, _, rfl, h0⟩⟩, ?_⟩
  intro n4 n5 s hI j
  obtain ⟨n4', n5', hy, hI⟩ := hI
  have hI' : I n4 n5 s := by cases hy; exact hI
  have hh := hr n4 n5 s hI'
  rw [← B_ref13_Many_0_eq W R zp0 zl1 zl2 n4 n5 _ j] at hh
  refine vc_mono ?_ _ _ hh
  exact KLoop_mono (fun vs s' h => by obtain ⟨n41, n51, rfl, h1, h2⟩ := h; exact ⟨⟨⟨_, rfl⟩, ⟨⟨_, rfl⟩, trivial⟩⟩, ⟨_, _, rfl, h1⟩, h2⟩)
def T_ref13_Many (W : World) (x1 : Option Addr) (l2 : Nat) (c3 : Nat) (R : Ending → Hp → Prop) : Hp → Prop :=
  L_ref13_Many_0 W R x1 l2 c3 0 0
theorem T_ref13_Many_eq (W : World) (x1 : Option Addr) (l2 : Nat) (c3 : Nat) (R : Ending → Hp → Prop) : vfun Pg W an_35 Try.f35 [(.slice x1 l2 c3)] R = T_ref13_Many W x1 l2 c3 R := by kernel_rfl
theorem does_ref13_Many (W : World) (x1 : Option Addr) (l2 : Nat) (c3 : Nat) (R : Ending → Hp → Prop) (s : Hp) (h : T_ref13_Many W x1 l2 c3 R s) : Does Pg W F_ref13_Many #[(.slice x1 l2 c3)] s R :=
  does_of_vfun Pg W an_35 Try.func35 rfl (by kernel_rfl) (by rw [T_ref13_Many_eq]; exact h)
def an_55 : Nat → Ann := fun b => match b with
  | 0 => { ms := [4, 5], ks := [.b, .i .i64], us := [1, 2, 45], rt := false, ex := [] }
  | _ => {}
abbrev rv_55 : List ResultVar := [.tmp 4]
abbrev rs_55 : List Nat := [45, 4]
def L_ref13_Giving_0 (W : World) (R : Ending → Hp → Prop) (zp0 : Option Addr) (zl1 : Nat) (zl2 : Nat) (za3 : Addr) (b11 : Bool) (n12 : Int) : Hp → Prop :=
  LOOPN [.b, .i .i64] (fun ys next s => ∀ j : Tm, vc Pg W 45 rs_55 an_55 false (sub (bodyOf Try.f55) [1, 0, 1, 0, 0]) 0 (KLoop [4, 5] [1, 2, 45] [(.slice zp0 zl1 zl2), (.pointer (some za3)), (.tuple #[])] next (KBlk 0 (KS Pg W 45 rs_55 an_55 false (sub (bodyOf Try.f55) [1, 1]) 0 (fin Pg W 45 rv_55 R)))) (known [4, 5] ys (known [1, 2, 45] [(.slice zp0 zl1 zl2), (.pointer (some za3)), (.tuple #[])] j)) s) [(.bool b11), (.int .i64 n12)]
def B_ref13_Giving_0 (W : World) (R : Ending → Hp → Prop) (zp0 : Option Addr) (zl1 : Nat) (zl2 : Nat) (za3 : Addr) (b11 : Bool) (n12 : Int) (nx0 : List Value → Hp → Prop) : Hp → Prop :=
  BR (decide (n12 < (↑zl1 : Int)))
    (IXS zp0 zl1 n12 1 fun a13 =>
      RDI .i64 a13 fun n14 =>
        RDL (Addr.add za3 0) fun x15 l16 c17 =>
          CALL Pg W F_ref13_in [(.int .i64 n14), (.int .i64 (-1)), (.int .i64 (IntKind.wrap .i64 ((↑l16 : Int) - 1)))]
            (fun v18 => TYB v18 fun b20 =>
              BR (!b20)
                (R (.returned (.bool false)))
                (IXS zp0 zl1 n12 1 fun a21 =>
                  RDI .i64 a21 fun n22 =>
                    BR (decide (n22 ≥ 0))
                      (IXS zp0 zl1 n12 1 fun a23 =>
                        RDI .i64 a23 fun n24 =>
                          SLS zp0 zl2 0 n12 1 fun x25 l26 c27 =>
                            ANDS (RDI .i64 a23 fun n29 =>
                              fun _ => ((.int .i64 n29) : Value) = (.int .i64 n24)) <|
                              CALL Pg W F_ref13_has [(.slice x25 l26 c27), (.int .i64 n24)]
                                (fun v30 => TYB v30 fun b32 =>
                                  BR b32
                                    (R (.returned (.bool false)))
                                    (NX [(.slice zp0 zl1 zl2), (.pointer (some za3)), (.tuple #[])] [(.slice zp0 zl1 zl2), (.pointer (some za3)), (.tuple #[])] (nx0 [(.bool b11), (.int .i64 (IntKind.wrap .i64 (n12 + 1)))])))
                                  (fun e31 => R (.panicked e31)))
                      (NX [(.slice zp0 zl1 zl2), (.pointer (some za3)), (.tuple #[])] [(.slice zp0 zl1 zl2), (.pointer (some za3)), (.tuple #[])] (nx0 [(.bool b11), (.int .i64 (IntKind.wrap .i64 (n12 + 1)))]))))
              (fun e19 => R (.panicked e19)))
    (RDL (Addr.add za3 1) fun x33 l34 c35 =>
      R (.returned (.bool ((↑zl1 : Int) == (↑l34 : Int)))))
theorem B_ref13_Giving_0_eq (W : World) (R : Ending → Hp → Prop) (zp0 : Option Addr) (zl1 : Nat) (zl2 : Nat) (za3 : Addr) (b11 : Bool) (n12 : Int) (nx0 : List Value → Hp → Prop) (j : Tm) : vc Pg W 45 rs_55 an_55 false (sub (bodyOf Try.f55) [1, 0, 1, 0, 0]) 0 (KLoop [4, 5] [1, 2, 45] [(.slice zp0 zl1 zl2), (.pointer (some za3)), (.tuple #[])] nx0 (KBlk 0 (KS Pg W 45 rs_55 an_55 false (sub (bodyOf Try.f55) [1, 1]) 0 (fin Pg W 45 rv_55 R)))) (known [4, 5] [(.bool b11), (.int .i64 n12)] (known [1, 2, 45] [(.slice zp0 zl1 zl2), (.pointer (some za3)), (.tuple #[])] j)) = B_ref13_Giving_0 W R zp0 zl1 zl2 za3 b11 n12 nx0 := by kernel_rfl
def N_ref13_Giving_0 (I : Bool → Int → Hp → Prop) (μ : Bool → Int → Hp → Nat) (b110 : Bool) (n120 : Int) (s : Hp) (vs : List Value) : Hp → Prop := fun s' => ∃ b11 n12, vs = [(.bool b11), (.int .i64 n12)] ∧ I b11 n12 s' ∧ μ b11 n12 s' < μ b110 n120 s
theorem L_ref13_Giving_0_rule (W : World) (R : Ending → Hp → Prop) (zp0 : Option Addr) (zl1 : Nat) (zl2 : Nat) (za3 : Addr) (I : Bool → Int → Hp → Prop) (μ : Bool → Int → Hp → Nat) (b110 : Bool) (n120 : Int) (s : Hp) (h0 : I b110 n120 s)
    (hr : ∀ (b11 : Bool) (n12 : Int) (s : Hp), I b11 n12 s → B_ref13_Giving_0 W R zp0 zl1 zl2 za3 b11 n12 (fun vs => N_ref13_Giving_0 I μ b11 n12 s vs) s) : L_ref13_Giving_0 W R zp0 zl1 zl2 za3 b110 n120 s := by
  refine ⟨fun vs s => ∃ b11 n12, vs = [(.bool b11), (.int .i64 n12)] ∧ I b11 n12 s, fun vs s => (match vs with | [.bool b11, .int _ n12] => μ b11 n12 s | _ => 0), ⟨⟨⟨_, rfl⟩, ⟨⟨_, rfl⟩, trivial⟩⟩, ⟨_, _, rfl, h0⟩⟩, ?_⟩
  intro b11 n12 s hI j
  obtain ⟨b11', n12', hy, hI⟩ := hI
  have hI' : I b11 n12 s := by cases hy; exact hI
  have hh := hr b11 n12 s hI'
  rw [← B_ref13_Giving_0_eq W R zp0 zl1 zl2 za3 b11 n12 _ j] at hh
  refine vc_mono ?_ _ _ hh
  exact KLoop_mono (fun vs s' h => by obtain ⟨b111, n121, rfl, h1, h2⟩ := h; exact ⟨⟨⟨_, rfl⟩, ⟨⟨_, rfl⟩, trivial⟩⟩, ⟨_, _, rfl, h1⟩, h2⟩)
def T_ref13_Giving (W : World) (x1 : Option Addr) (l2 : Nat) (c3 : Nat) (x4 : Option Addr) (l5 : Nat) (c6 : Nat) (x7 : Option Addr) (l8 : Nat) (c9 : Nat) (R : Ending → Hp → Prop) : Hp → Prop :=
  NEW 25 [(.slice x1 l2 c3), (.slice x4 l5 c6)] fun B10 =>
    L_ref13_Giving_0 W R x7 l8 c9 ⟨B10, 0, none⟩ false 0
theorem T_ref13_Giving_eq (W : World) (x1 : Option Addr) (l2 : Nat) (c3 : Nat) (x4 : Option Addr) (l5 : Nat) (c6 : Nat) (x7 : Option Addr) (l8 : Nat) (c9 : Nat) (R : Ending → Hp → Prop) : vfun Pg W an_55 Try.f55 [(.agg #[(.slice x1 l2 c3), (.slice x4 l5 c6)]), (.slice x7 l8 c9)] R = T_ref13_Giving W x1 l2 c3 x4 l5 c6 x7 l8 c9 R := by kernel_rfl
theorem does_ref13_Giving (W : World) (x1 : Option Addr) (l2 : Nat) (c3 : Nat) (x4 : Option Addr) (l5 : Nat) (c6 : Nat) (x7 : Option Addr) (l8 : Nat) (c9 : Nat) (R : Ending → Hp → Prop) (s : Hp) (h : T_ref13_Giving W x1 l2 c3 x4 l5 c6 x7 l8 c9 R s) : Does Pg W F_ref13_Giving #[(.agg #[(.slice x1 l2 c3), (.slice x4 l5 c6)]), (.slice x7 l8 c9)] s R :=
  does_of_vfun Pg W an_55 Try.func55 rfl (by kernel_rfl) (by rw [T_ref13_Giving_eq]; exact h)
def an_61 : Nat → Ann := fun b => match b with
  | 0 => { ms := [4, 5], ks := [.b, .i .i64], us := [1, 2, 27], rt := false, ex := [] }
  | _ => {}
abbrev rv_61 : List ResultVar := [.tmp 4]
abbrev rs_61 : List Nat := [27, 4]
def L_ref13_Fair_0 (W : World) (R : Ending → Hp → Prop) (zp0 : Option Addr) (zl1 : Nat) (zl2 : Nat) (za3 : Addr) (b11 : Bool) (n12 : Int) : Hp → Prop :=
  LOOPN [.b, .i .i64] (fun ys next s => ∀ j : Tm, vc Pg W 27 rs_61 an_61 false (sub (bodyOf Try.f61) [1, 0, 1, 0, 0]) 0 (KLoop [4, 5] [1, 2, 27] [(.slice zp0 zl1 zl2), (.pointer (some za3)), (.tuple #[])] next (KBlk 0 (KS Pg W 27 rs_61 an_61 false (sub (bodyOf Try.f61) [1, 1]) 0 (fin Pg W 27 rv_61 R)))) (known [4, 5] ys (known [1, 2, 27] [(.slice zp0 zl1 zl2), (.pointer (some za3)), (.tuple #[])] j)) s) [(.bool b11), (.int .i64 n12)]
def B_ref13_Fair_0 (W : World) (R : Ending → Hp → Prop) (zp0 : Option Addr) (zl1 : Nat) (zl2 : Nat) (za3 : Addr) (b11 : Bool) (n12 : Int) (nx0 : List Value → Hp → Prop) : Hp → Prop :=
  BR (decide (n12 < (↑zl1 : Int)))
    (IXS zp0 zl1 n12 1 fun a13 =>
      RDI .i64 a13 fun n14 =>
        BR (decide (n14 ≥ 0))
          (RDL (Addr.add za3 0) fun x15 l16 c17 =>
            RDL (Addr.add za3 1) fun x18 l19 c20 =>
              IXS zp0 zl1 n12 1 fun a21 =>
                RDI .i64 a21 fun n22 =>
                  CALL Pg W F_ref13_can [(.agg #[(.slice x15 l16 c17), (.slice x18 l19 c20)]), (.int .i64 n22), (.int .i64 n12)]
                    (fun v23 => TYB v23 fun b25 =>
                      BR (!b25)
                        (R (.returned (.bool false)))
                        (NX [(.slice zp0 zl1 zl2), (.pointer (some za3)), (.tuple #[])] [(.slice zp0 zl1 zl2), (.pointer (some za3)), (.tuple #[])] (nx0 [(.bool b11), (.int .i64 (IntKind.wrap .i64 (n12 + 1)))])))
                      (fun e24 => R (.panicked e24)))
          (NX [(.slice zp0 zl1 zl2), (.pointer (some za3)), (.tuple #[])] [(.slice zp0 zl1 zl2), (.pointer (some za3)), (.tuple #[])] (nx0 [(.bool b11), (.int .i64 (IntKind.wrap .i64 (n12 + 1)))])))
    (R (.returned (.bool true)))
theorem B_ref13_Fair_0_eq (W : World) (R : Ending → Hp → Prop) (zp0 : Option Addr) (zl1 : Nat) (zl2 : Nat) (za3 : Addr) (b11 : Bool) (n12 : Int) (nx0 : List Value → Hp → Prop) (j : Tm) : vc Pg W 27 rs_61 an_61 false (sub (bodyOf Try.f61) [1, 0, 1, 0, 0]) 0 (KLoop [4, 5] [1, 2, 27] [(.slice zp0 zl1 zl2), (.pointer (some za3)), (.tuple #[])] nx0 (KBlk 0 (KS Pg W 27 rs_61 an_61 false (sub (bodyOf Try.f61) [1, 1]) 0 (fin Pg W 27 rv_61 R)))) (known [4, 5] [(.bool b11), (.int .i64 n12)] (known [1, 2, 27] [(.slice zp0 zl1 zl2), (.pointer (some za3)), (.tuple #[])] j)) = B_ref13_Fair_0 W R zp0 zl1 zl2 za3 b11 n12 nx0 := by kernel_rfl
def N_ref13_Fair_0 (I : Bool → Int → Hp → Prop) (μ : Bool → Int → Hp → Nat) (b110 : Bool) (n120 : Int) (s : Hp) (vs : List Value) : Hp → Prop := fun s' => ∃ b11 n12, vs = [(.bool b11), (.int .i64 n12)] ∧ I b11 n12 s' ∧ μ b11 n12 s' < μ b110 n120 s
theorem L_ref13_Fair_0_rule (W : World) (R : Ending → Hp → Prop) (zp0 : Option Addr) (zl1 : Nat) (zl2 : Nat) (za3 : Addr) (I : Bool → Int → Hp → Prop) (μ : Bool → Int → Hp → Nat) (b110 : Bool) (n120 : Int) (s : Hp) (h0 : I b110 n120 s)
    (hr : ∀ (b11 : Bool) (n12 : Int) (s : Hp), I b11 n12 s → B_ref13_Fair_0 W R zp0 zl1 zl2 za3 b11 n12 (fun vs => N_ref13_Fair_0 I μ b11 n12 s vs) s) : L_ref13_Fair_0 W R zp0 zl1 zl2 za3 b110 n120 s := by
  refine ⟨fun vs s => ∃ b11 n12, vs = [(.bool b11), (.int .i64 n12)] ∧ I b11 n12 s, fun vs s => (match vs with | [.bool b11, .int _ n12] => μ b11 n12 s | _ => 0), ⟨⟨⟨_, rfl⟩, ⟨⟨_, rfl⟩, trivial⟩⟩, ⟨_, _, rfl, h0⟩⟩, ?_⟩
  intro b11 n12 s hI j
  obtain ⟨b11', n12', hy, hI⟩ := hI
  have hI' : I b11 n12 s := by cases hy; exact hI
  have hh := hr b11 n12 s hI'
  rw [← B_ref13_Fair_0_eq W R zp0 zl1 zl2 za3 b11 n12 _ j] at hh
  refine vc_mono ?_ _ _ hh
  exact KLoop_mono (fun vs s' h => by obtain ⟨b111, n121, rfl, h1, h2⟩ := h; exact ⟨⟨⟨_, rfl⟩, ⟨⟨_, rfl⟩, trivial⟩⟩, ⟨_, _, rfl, h1⟩, h2⟩)
def T_ref13_Fair (W : World) (x1 : Option Addr) (l2 : Nat) (c3 : Nat) (x4 : Option Addr) (l5 : Nat) (c6 : Nat) (x7 : Option Addr) (l8 : Nat) (c9 : Nat) (R : Ending → Hp → Prop) : Hp → Prop :=
  NEW 25 [(.slice x1 l2 c3), (.slice x4 l5 c6)] fun B10 =>
    L_ref13_Fair_0 W R x7 l8 c9 ⟨B10, 0, none⟩ false 0
theorem T_ref13_Fair_eq (W : World) (x1 : Option Addr) (l2 : Nat) (c3 : Nat) (x4 : Option Addr) (l5 : Nat) (c6 : Nat) (x7 : Option Addr) (l8 : Nat) (c9 : Nat) (R : Ending → Hp → Prop) : vfun Pg W an_61 Try.f61 [(.agg #[(.slice x1 l2 c3), (.slice x4 l5 c6)]), (.slice x7 l8 c9)] R = T_ref13_Fair W x1 l2 c3 x4 l5 c6 x7 l8 c9 R := by kernel_rfl
theorem does_ref13_Fair (W : World) (x1 : Option Addr) (l2 : Nat) (c3 : Nat) (x4 : Option Addr) (l5 : Nat) (c6 : Nat) (x7 : Option Addr) (l8 : Nat) (c9 : Nat) (R : Ending → Hp → Prop) (s : Hp) (h : T_ref13_Fair W x1 l2 c3 x4 l5 c6 x7 l8 c9 R s) : Does Pg W F_ref13_Fair #[(.agg #[(.slice x1 l2 c3), (.slice x4 l5 c6)]), (.slice x7 l8 c9)] s R :=
  does_of_vfun Pg W an_61 Try.func61 rfl (by kernel_rfl) (by rw [T_ref13_Fair_eq]; exact h)
def an_62 : Nat → Ann := fun b => match b with
  | 0 => { ms := [6], ks := [.i .i64], us := [1, 2, 4, 5, 35], rt := false, ex := [] }
  | _ => {}
abbrev rv_62 : List ResultVar := [.tmp 4]
abbrev rs_62 : List Nat := [35, 4]
def L_ref13_worths_0 (W : World) (R : Ending → Hp → Prop) (zp0 : Option Addr) (zl1 : Nat) (zl2 : Nat) (za3 : Addr) (za4 : Addr) (zl5 : Nat) (n15 : Int) : Hp → Prop :=
  LOOPN [.i .i64] (fun ys next s => ∀ j : Tm, vc Pg W 35 rs_62 an_62 false (sub (bodyOf Try.f62) [1, 1, 0, 1, 0, 0]) 0 (KLoop [6] [1, 2, 4, 5, 35] [(.slice zp0 zl1 zl2), (.pointer (some za3)), (.slice none 0 0), (.slice (some za4) zl5 zl5), (.tuple #[])] next (KBlk 0 (KS Pg W 35 rs_62 an_62 false (sub (bodyOf Try.f62) [1, 1, 1]) 0 (fin Pg W 35 rv_62 R)))) (known [6] ys (known [1, 2, 4, 5, 35] [(.slice zp0 zl1 zl2), (.pointer (some za3)), (.slice none 0 0), (.slice (some za4) zl5 zl5), (.tuple #[])] j)) s) [(.int .i64 n15)]
def J_ref13_worths_0 (W : World) (R : Ending → Hp → Prop) (zp0 : Option Addr) (zl1 : Nat) (zl2 : Nat) (za3 : Addr) (za4 : Addr) (zl5 : Nat) (nx0 : List Value → Hp → Prop) (n15 : Int) : Hp → Prop :=
  NX [(.slice zp0 zl1 zl2), (.pointer (some za3)), (.slice none 0 0), (.slice (some za4) zl5 zl5), (.tuple #[])] [(.slice zp0 zl1 zl2), (.pointer (some za3)), (.slice none 0 0), (.slice (some za4) zl5 zl5), (.tuple #[])] (nx0 [(.int .i64 (IntKind.wrap .i64 (n15 + 1)))])
def B_ref13_worths_0 (W : World) (R : Ending → Hp → Prop) (zp0 : Option Addr) (zl1 : Nat) (zl2 : Nat) (za3 : Addr) (za4 : Addr) (zl5 : Nat) (n15 : Int) (nx0 : List Value → Hp → Prop) : Hp → Prop :=
  BR (decide (n15 < (↑zl1 : Int)))
    (IXS zp0 zl1 n15 1 fun a16 =>
      RDI .i64 a16 fun n17 =>
        BR (decide (n17 ≥ 0))
          (IXS zp0 zl1 n15 1 fun a18 =>
            RDI .i64 a18 fun n19 =>
              RDL (Addr.add za3 1) fun x20 l21 c22 =>
                IXS x20 l21 n15 2 fun a23 =>
                  RDI .i64 (Addr.add a23 1) fun n24 =>
                    IXS (some za4) zl5 n19 1 fun a25 =>
                      WR (Addr.add a25 0) (.int .i64 n24) <|
                        J_ref13_worths_0 W R zp0 zl1 zl2 za3 za4 zl5 nx0 n15)
          (J_ref13_worths_0 W R zp0 zl1 zl2 za3 za4 zl5 nx0 n15))
    (R (.returned (.slice (some za4) zl5 zl5)))
theorem B_ref13_worths_0_eq (W : World) (R : Ending → Hp → Prop) (zp0 : Option Addr) (zl1 : Nat) (zl2 : Nat) (za3 : Addr) (za4 : Addr) (zl5 : Nat) (n15 : Int) (nx0 : List Value → Hp → Prop) (j : Tm) : vc Pg W 35 rs_62 an_62 false (sub (bodyOf Try.f62) [1, 1, 0, 1, 0, 0]) 0 (KLoop [6] [1, 2, 4, 5, 35] [(.slice zp0 zl1 zl2), (.pointer (some za3)), (.slice none 0 0), (.slice (some za4) zl5 zl5), (.tuple #[])] nx0 (KBlk 0 (KS Pg W 35 rs_62 an_62 false (sub (bodyOf Try.f62) [1, 1, 1]) 0 (fin Pg W 35 rv_62 R)))) (known [6] [(.int .i64 n15)] (known [1, 2, 4, 5, 35] [(.slice zp0 zl1 zl2), (.pointer (some za3)), (.slice none 0 0), (.slice (some za4) zl5 zl5), (.tuple #[])] j)) = B_ref13_worths_0 W R zp0 zl1 zl2 za3 za4 zl5 n15 nx0 := by kernel_rfl
def N_ref13_worths_0 (I : Int → Hp → Prop) (μ : Int → Hp → Nat) (n150 : Int) (s : Hp) (vs : List Value) : Hp → Prop := fun s' => ∃ n15, vs = [(.int .i64 n15)] ∧ I n15 s' ∧ μ n15 s' < μ n150 s
theorem L_ref13_worths_0_rule (W : World) (R : Ending → Hp → Prop) (zp0 : Option Addr) (zl1 : Nat) (zl2 : Nat) (za3 : Addr) (za4 : Addr) (zl5 : Nat) (I : Int → Hp → Prop) (μ : Int → Hp → Nat) (n150 : Int) (s : Hp) (h0 : I n150 s)
    (hr : ∀ (n15 : Int) (s : Hp), I n15 s → B_ref13_worths_0 W R zp0 zl1 zl2 za3 za4 zl5 n15 (fun vs => N_ref13_worths_0 I μ n15 s vs) s) : L_ref13_worths_0 W R zp0 zl1 zl2 za3 za4 zl5 n150 s := by
  refine ⟨fun vs s => ∃ n15, vs = [(.int .i64 n15)] ∧ I n15 s, fun vs s => (match vs with | [.int _ n15] => μ n15 s | _ => 0), ⟨⟨⟨_, rfl⟩, trivial⟩, ⟨_, rfl, h0⟩⟩, ?_⟩
  intro n15 s hI j
  obtain ⟨n15', hy, hI⟩ := hI
  have hI' : I n15 s := by cases hy; exact hI
  have hh := hr n15 s hI'
  rw [← B_ref13_worths_0_eq W R zp0 zl1 zl2 za3 za4 zl5 n15 _ j] at hh
  refine vc_mono ?_ _ _ hh
  exact KLoop_mono (fun vs s' h => by obtain ⟨n151, rfl, h1, h2⟩ := h; exact ⟨⟨⟨_, rfl⟩, trivial⟩, ⟨_, rfl, h1⟩, h2⟩)
def T_ref13_worths (W : World) (x1 : Option Addr) (l2 : Nat) (c3 : Nat) (x4 : Option Addr) (l5 : Nat) (c6 : Nat) (x7 : Option Addr) (l8 : Nat) (c9 : Nat) (R : Ending → Hp → Prop) : Hp → Prop :=
  NEW 25 [(.slice x1 l2 c3), (.slice x4 l5 c6)] fun B10 =>
    RDL (Addr.add ⟨B10, 0, none⟩ 0) fun x11 l12 c13 =>
      MKS Pg 3 (↑l12 : Int) (↑l12 : Int) fun B14 =>
        L_ref13_worths_0 W R x7 l8 c9 ⟨B10, 0, none⟩ ⟨B14, 0, none⟩ (Int.toNat (↑l12 : Int)) 0
theorem T_ref13_worths_eq (W : World) (x1 : Option Addr) (l2 : Nat) (c3 : Nat) (x4 : Option Addr) (l5 : Nat) (c6 : Nat) (x7 : Option Addr) (l8 : Nat) (c9 : Nat) (R : Ending → Hp → Prop) : vfun Pg W an_62 Try.f62 [(.agg #[(.slice x1 l2 c3), (.slice x4 l5 c6)]), (.slice x7 l8 c9)] R = T_ref13_worths W x1 l2 c3 x4 l5 c6 x7 l8 c9 R := by kernel_rfl
theorem does_ref13_worths (W : World) (x1 : Option Addr) (l2 : Nat) (c3 : Nat) (x4 : Option Addr) (l5 : Nat) (c6 : Nat) (x7 : Option Addr) (l8 : Nat) (c9 : Nat) (R : Ending → Hp → Prop) (s : Hp) (h : T_ref13_worths W x1 l2 c3 x4 l5 c6 x7 l8 c9 R s) : Does Pg W F_ref13_worths #[(.agg #[(.slice x1 l2 c3), (.slice x4 l5 c6)]), (.slice x7 l8 c9)] s R :=
  does_of_vfun Pg W an_62 Try.func62 rfl (by kernel_rfl) (by rw [T_ref13_worths_eq]; exact h)
end Go.Proofs.Ytfaeokcbfnlgbaa.G

/- The document's functions of layer 13: Can, Due, Wrong, Club, Worth. -/
set_option linter.unusedSimpArgs false
set_option linter.unusedVariables false
set_option maxRecDepth 20000
namespace Go.Proofs.Ytfaeokcbfnlgbaa.G
open Go.V
section
variable {W : World} {K : VK} {E : List PanicEntry → Hp → Prop} {s : Hp} {T : PT}
theorem row_take {q : Option Addr} {ds : List Int} {k : Nat} (h : RowAt s q (ints ds)) : RowAt s (q.map (·.add ((0 : Int).toNat * 1))) (ints (ds.take k)) := fun i hi => by
  rw [ints_len, List.length_take] at hi
  obtain ⟨a, h1, h2⟩ := h i (by rw [ints_len]; omega)
  refine ⟨a, by rw [h1]; rfl, ?_⟩
  rw [ints_get] at h2 ⊢
  rw [List.getElem_take]
  exact h2
theorem f_Giving {x y q : Option Addr} {c c' cq : Nat} {ds : List Int} (h4 : T.n ≤ 100000) (hl : ds.length ≤ 100000) (hc : ds.length ≤ cq) (hq : RowAt s q (ints ds)) (h : ∀ s', Ext s s' → K (.bool (gvP T ds)) s') :
    CALL Pg W F_ref13_Giving [.agg #[.slice x T.n c, .slice y T.z c'], .slice q ds.length cq] K E s := by
  refine does_ref13_Giving W x T.n c y T.z c' q ds.length cq _ s ?_
  unfold T_ref13_Giving
  refine ne2 fun s1 e1 z1 o1 o2 => ?_
  have no : gvS T [] ds = false → ∀ t, Ext s1 t → (endK K E) (.returned (.bool false)) t := fun hf t et => by
    have := h t (e1.trans et)
    unfold gvP at this
    rw [hf, Bool.and_false] at this; exact this
  refine L_ref13_Giving_0_rule W _ q ds.length cq ⟨s.size, 0, none⟩ (fun _ n t => Ext s1 t ∧ ∃ k : Nat, k ≤ ds.length ∧ n = k ∧ gvS T [] ds = gvS T (ds.take k) (ds.drop k)) (fun _ n _ => (ds.length - n).toNat) false 0 s1 ⟨Ext.refl _, 0, by omega, rfl, rfl⟩ ?_
  rintro b n t ⟨et, k, hk, rfl, hgv⟩
  unfold B_ref13_Giving_0
  refine BR_dec (fun h1 => ?_) (fun h1 => ?_)
  · have hkl : k < ds.length := by omega
    have hqt := hq.ext (e1.trans et)
    obtain ⟨a, ha, g⟩ := row_int hqt hkl
    refine IXS_at ha hkl ?_
    refine ⟨_, g, ?_⟩
    have hstep := gvS_step (T := T) hkl
    generalize hd : ds.getD k 0 = d at *
    refine ⟨_, _, _, et.cell o1.cell, ?_⟩
    dsimp only
    rw [wrap_i64 (by omega) (by omega)]
    refine f_in ?_
    try simp only [TUP_mk, AGG_mk, HD_mk, NL_mk, TYI_mk, TYB_mk, TYP_mk, TYL_mk, TYS_mk, TYM_mk, SO_mk, NX_mk, endK_mk, endK_mk', add_0]
    have step : ((d == -1) || (decide (0 ≤ d ∧ d < T.n) && !decide (d ∈ ds.take k))) = false → gvS T [] ds = false := fun hf => by rw [hgv, hstep, hf]; rfl
    refine BR_not (fun h2 => no (step ?_) _ et) (fun h2 => ?_)
    · have h2' := of_decide_eq_false h2
      have e1' : (d == -1) = false := by have : ¬ d = -1 := by omega
                                         simpa using this
      have e2' : decide (0 ≤ d ∧ d < (T.n : Int)) = false := decide_eq_false (by omega)
      rw [e1', e2']; rfl
    have h2' := of_decide_eq_true h2
    refine IXS_at ha hkl ?_
    refine ⟨_, g, ?_⟩
    refine BR_dec (fun h3 => ?_) (fun h3 => ?_)
    · refine IXS_at ha hkl ?_
      refine ⟨_, g, ?_⟩
      refine ⟨⟨by omega, by omega, by omega⟩, ?_⟩
      have hcq : ¬ cq = (0 : Int).toNat := by show ¬ cq = 0; omega
      rw [if_neg hcq]
      refine ANDS_i ⟨_, g, rfl⟩ ?_
      refine f_has (ds := ds.take k) (row_take hqt) ?_ (by rw [List.length_take]; omega) ?_
      · rw [List.length_take, toNat_nat]; show k - 0 = _; omega
      try simp only [TUP_mk, AGG_mk, HD_mk, NL_mk, TYI_mk, TYB_mk, TYP_mk, TYL_mk, TYS_mk, TYM_mk, SO_mk, NX_mk, endK_mk, endK_mk', add_0]
      have e1' : (d == -1) = false := by have : ¬ d = -1 := by omega
                                         simpa using this
      have e2' : decide (0 ≤ d ∧ d < (T.n : Int)) = true := decide_eq_true (by omega)
      refine BR_dec (fun h5 => no (step ?_) _ et) (fun h5 => ?_)
      · rw [e1', e2', decide_eq_true h5]; rfl
      · refine ⟨_, _, rfl, ⟨et, k + 1, hkl, wrap_succ (by omega), ?_⟩, ms_succ hkl (by omega)⟩
        rw [hgv, hstep, e1', e2', decide_eq_false h5]; rfl
    · have hd1 : d = -1 := by omega
      refine ⟨_, _, rfl, ⟨et, k + 1, hkl, wrap_succ (by omega), ?_⟩, ms_succ hkl (by omega)⟩
      rw [hgv, hstep, hd1]; rfl
  · have hkl : k = ds.length := by omega
    subst hkl
    rw [List.drop_length] at hgv
    have hgs : gvS T [] ds = true := hgv
    refine ⟨_, _, _, et.cell o2.cell, ?_⟩
    have := h t (e1.trans et)
    unfold gvP at this
    rw [hgs, Bool.and_true] at this
    have e : ((ds.length : Int) == (T.z : Int)) = decide (ds.length = T.z) := by
      by_cases he : ds.length = T.z
      · rw [he]; simp
      · have : ¬ (ds.length : Int) = (T.z : Int) := by omega
        rw [decide_eq_false he]; simpa using this
    dsimp only
    rw [e]; exact this
theorem f_Fair {x y q : Option Addr} {c c' cq : Nat} {ds : List Int} (hx : MnAt s x T.men) (hy : PzAt s y T.list) (hlen : ds.length = T.z) (h6 : T.z ≤ 6) (hall : ∀ d ∈ ds, d = -1 ∨ (0 ≤ d ∧ d < T.n)) (hq : RowAt s q (ints ds)) (h : ∀ s', Ext s s' → K (.bool (fairP T ds)) s') :
    CALL Pg W F_ref13_Fair [.agg #[.slice x T.n c, .slice y T.z c'], .slice q ds.length cq] K E s := by
  refine does_ref13_Fair W x T.n c y T.z c' q ds.length cq _ s ?_
  unfold T_ref13_Fair
  refine ne2 fun s1 e1 z1 o1 o2 => ?_
  refine L_ref13_Fair_0_rule W _ q ds.length cq ⟨s.size, 0, none⟩ (fun _ n t => Ext s1 t ∧ ∃ k : Nat, k ≤ ds.length ∧ n = k ∧ ∀ j, j < k → ((ds.getD j 0 == -1) || canP T (ds.getD j 0).toNat j) = true) (fun _ n _ => (ds.length - n).toNat) false 0 s1 ⟨Ext.refl _, 0, by omega, rfl, fun j hj => by omega⟩ ?_
  rintro b n t ⟨et, k, hk, rfl, hsame⟩
  unfold B_ref13_Fair_0
  refine BR_dec (fun h1 => ?_) (fun h1 => ?_)
  · have hkl : k < ds.length := by omega
    have hqt := hq.ext (e1.trans et)
    obtain ⟨a, ha, g⟩ := row_int hqt hkl
    refine IXS_at ha hkl ?_
    refine ⟨_, g, ?_⟩
    have hdk := hall (ds.getD k 0) (by rw [getD_lt hkl]; exact List.getElem_mem hkl)
    generalize hnx : (fun vs : List Value => _) = nx
    have next : ∀ t', Ext t t' → ((ds.getD k 0 == -1) || canP T (ds.getD k 0).toNat k) = true → nx [(.bool b), (.int .i64 (IntKind.wrap .i64 ((k : Int) + 1)))] t' := by
      intro t' e' hb
      rw [← hnx]
      refine ⟨_, _, rfl, ⟨et.trans e', k + 1, hkl, wrap_succ (by omega), fun j hj => ?_⟩, ms_succ hkl (by omega)⟩
      by_cases e : j = k
      · subst e; exact hb
      · exact hsame j (by omega)
    refine BR_dec (fun h2 => ?_) (fun h2 => ?_)
    · refine ⟨_, _, _, et.cell o1.cell, _, _, _, et.cell o2.cell, ?_⟩
      refine IXS_at ha hkl ?_
      refine ⟨_, g, ?_⟩
      have hdk' : 0 ≤ ds.getD k 0 ∧ ds.getD k 0 < T.n := hdk.resolve_left (by omega)
      generalize hdd : ds.getD k 0 = d at *
      obtain ⟨m, rfl⟩ := Int.eq_ofNat_of_zero_le hdk'.1
      refine f_can (hx.ext (e1.trans et)) (hy.ext (e1.trans et)) (by omega) (by omega) fun t2 e2 => ?_
      try simp only [TUP_mk, AGG_mk, HD_mk, NL_mk, TYI_mk, TYB_mk, TYP_mk, TYL_mk, TYS_mk, TYM_mk, SO_mk, NX_mk, endK_mk, endK_mk', add_0]
      refine BR_not (fun h3 => ?_) (fun h3 => ?_)
      · have hf : fairP T ds = false := by
          unfold fairP
          rw [List.all_eq_false]
          refine ⟨k, List.mem_range.2 hkl, ?_⟩
          rw [hdd]
          have e1' : (((m : Nat) : Int) == -1) = false := by have : ¬ ((m : Nat) : Int) = -1 := by omega
                                                             simp
          rw [e1', toNat_nat, h3]; simp
        have := h t2 (e1.trans (et.trans e2))
        rw [hf] at this; exact this
      · exact next t2 e2 (by rw [toNat_nat, h3, Bool.or_true])
    · have hd1 : ds.getD k 0 = -1 := by rcases hdk with h | h; exact h; omega
      exact ⟨rfl, next t (Ext.refl _) (by rw [hd1]; rfl)⟩
  · have hkl : k = ds.length := by omega
    subst hkl
    have hf : fairP T ds = true := by
      unfold fairP
      rw [List.all_eq_true]
      intro j hj
      exact hsame j (List.mem_range.1 hj)
    have := h t (e1.trans et)
    rw [hf] at this
    exact this
end
end Go.Proofs.Ytfaeokcbfnlgbaa.G

/- The document's functions of layer 13: Can, Due, Wrong, Club, Worth. -/
set_option linter.unusedSimpArgs false
set_option linter.unusedVariables false
set_option maxRecDepth 20000
namespace Go.Proofs.Ytfaeokcbfnlgbaa.G
open Go.V
section
variable {W : World} {K : VK} {E : List PanicEntry → Hp → Prop} {s : Hp} {T : PT}
theorem f_Ints {x y : Option Addr} {c c' l l' : Nat} {a b : List Int} (hx : RowAt s x (ints a)) (hy : RowAt s y (ints b)) (hl : l = a.length) (hl' : l' = b.length) (h8 : a.length ≤ 100000) (h : K (.bool (decide (a = b))) s) : CALL Pg W F_ref13_Ints [.slice x l c, .slice y l' c'] K E s := by
  subst hl
  subst hl'
  refine does_ref13_Ints W x _ c y _ c' _ s ?_
  unfold T_ref13_Ints
  refine BR_ne (fun h1 => ?_) (fun h1 => ?_)
  · have : ¬ a = b := fun e => h1 (by rw [e])
    rw [decide_eq_false this] at h; exact h
  have hlen : a.length = b.length := by omega
  refine L_ref13_Ints_0_rule W _ x a.length c y b.length c' (fun _ n t => t = s ∧ ∃ k : Nat, k ≤ a.length ∧ n = k ∧ ∀ j, j < k → a.getD j 0 = b.getD j 0) (fun _ n _ => (a.length - n).toNat) false 0 s ⟨rfl, 0, by omega, rfl, fun j hj => by omega⟩ ?_
  rintro q n t ⟨rfl, k, hk, rfl, hsame⟩
  unfold B_ref13_Ints_0
  refine BR_dec (fun h2 => ?_) (fun h2 => ?_)
  · have hkl : k < a.length := by omega
    obtain ⟨p, hp, g⟩ := row_int hx hkl
    obtain ⟨p', hp', g'⟩ := row_int hy (show k < b.length by omega)
    refine IXS_at hp hkl ?_
    refine ⟨_, g, ?_⟩
    refine IXS_at hp' (by omega) ?_
    refine ⟨_, g', ?_⟩
    refine BR_ne (fun h3 => ?_) (fun h3 => ?_)
    · have : ¬ a = b := fun e => h3 (by rw [e])
      rw [decide_eq_false this] at h; exact h
    · refine ⟨rfl, _, _, rfl, ⟨rfl, k + 1, hkl, wrap_succ (by omega), fun j hj => ?_⟩, ms_succ hkl (by omega)⟩
      by_cases e : j = k
      · subst e; exact h3
      · exact hsame j (by omega)
  · have hab : a = b := by
      apply List.ext_getElem hlen
      intro j h3 h4
      have := hsame j (by omega)
      rw [getD_lt h3, getD_lt h4] at this
      exact this
    rw [decide_eq_true hab] at h; exact h
theorem f_worthsG {x y q : Option Addr} {c c' cq : Nat} {ds : List Int} (hx : MnAt s x T.men) (hy : PzAt s y T.list) (h8 : T.n ≤ 8) (h6 : T.z ≤ 6) (hl : ds.length = T.z) (hd : ∀ d ∈ ds, d = -1 ∨ (0 ≤ d ∧ d < T.n)) (hq : RowAt s q (ints ds)) (h : ∀ s' w c', Ext s s' → Fr s.size s' w T.n c' 1 (ints (worP T ds)) → K (.slice w T.n c') s') :
    CALL Pg W F_ref13_worths [.agg #[.slice x T.n c, .slice y T.z c'], .slice q ds.length cq] K E s := by
  refine does_ref13_worths W x T.n c y T.z c' q ds.length cq _ s ?_
  unfold T_ref13_worths
  refine ne2 fun s0 e0 z0 o1 o2 => ?_
  refine ⟨_, _, _, o1.cell, ?_⟩
  dsimp only
  rw [toNat_nat]
  refine MKS_rule zc_3 (by omega) fun s1 e1 z1 n1 => ?_
  have e01 := e0.trans e1
  refine L_ref13_worths_0_rule W _ q ds.length cq ⟨s.size, 0, none⟩ ⟨s0.size, 0, none⟩ T.n (fun n t => Ext s0 t ∧ ∃ k : Nat, k ≤ ds.length ∧ n = k ∧ Buf t (some ⟨s0.size, 0, none⟩) T.n (ints (worL T ds k))) (fun n _ => (ds.length - n).toNat) 0 s1
    ⟨e1, 0, by omega, rfl, ?_⟩ ?_
  · refine ⟨by rw [ints_len, worL_len]; exact Nat.le_refl _, fun i hi => ⟨_, rfl, .int .i64 0, ?_, fun hh => ?_⟩⟩
    · rw [add_nil, Nat.zero_add]; exact n1 i hi
    · rw [ints_get hh]; simp [worL]
  rintro n t ⟨et, k, hk, rfl, hb⟩
  unfold B_ref13_worths_0
  have e0t := e0.trans et
  refine BR_dec (fun hlt => ?_) (fun hlt => ?_)
  · have hkl : k < ds.length := by omega
    have hkz : k < T.z := by omega
    obtain ⟨a, ha, g⟩ := row_int (hq.ext e0t) hkl
    refine IXS_at ha hkl ?_
    refine ⟨_, g, ?_⟩
    have hdk := hd (ds.getD k 0) (by rw [getD_lt hkl]; exact List.getElem_mem hkl)
    generalize hdd : ds.getD k 0 = d at *
    refine BR_dec (fun h3 => ?_) (fun h3 => ?_)
    · have hne : ¬ d = -1 := by omega
      have hdk' := hdk.resolve_left hne
      obtain ⟨m, rfl⟩ := Int.eq_ofNat_of_zero_le hdk'.1
      have hm : m < T.n := by omega
      obtain ⟨az, w0, w1, w2⟩ := pz_row (hy.ext e0t) hkz
      refine IXS_at ha hkl ?_
      refine ⟨_, g, ?_⟩
      refine ⟨_, _, _, et.cell o2.cell, ?_⟩
      refine IXS_at w0 hkz ?_
      refine ⟨_, w2, ?_⟩
      refine IXS_nat hm ?_
      have hmi : m < (ints (worL T ds k)).length := by rw [ints_len, worL_len]; exact hm
      have hat := hb.at hmi
      have hset := hb.set (v := .int .i64 (T.pz k).worth) hmi
      rw [Nat.mul_one]
      refine WR_own hat rfl ?_
      unfold J_ref13_worths_0
      refine ⟨rfl, _, rfl, ⟨Ext.setC et (by rw [add_0, add_blk]; exact Nat.le_refl _), k + 1, hkl, wrap_succ (by omega), ?_⟩, ms_succ hkl (by omega)⟩
      have e : ints (worL T ds (k + 1)) = (ints (worL T ds k)).set m (.int .i64 (T.pz k).worth) := by
        conv => lhs; unfold worL
        rw [hdd, if_neg hne, toNat_nat]
        unfold ints
        rw [List.map_set]
      rw [e]; exact hset
    · have h3' : d = -1 := by rcases hdk with h | h; exact h; omega
      unfold J_ref13_worths_0
      refine ⟨rfl, _, rfl, ⟨et, k + 1, hkl, wrap_succ (by omega), ?_⟩, ms_succ hkl (by omega)⟩
      have e : worL T ds (k + 1) = worL T ds k := by
        conv => lhs; unfold worL
        rw [hdd, if_pos h3']
      rw [e]; exact hb
  · have hkl : k = ds.length := by omega
    subst hkl
    refine h t _ _ e0t ⟨by rw [Nat.mul_one]; exact hb, by rw [ints_len, Nat.mul_one]; exact worL_len _ _ _, fun a ha => by cases ha; exact e0.1, by omega⟩
theorem f_worths {x y q : Option Addr} {c c' cq : Nat} {ds : List Int} (hx : MnAt s x T.men) (hy : PzAt s y T.list) (hok : okP T = true) (hl : ds.length = T.z) (hd : ∀ d ∈ ds, d = -1 ∨ (0 ≤ d ∧ d < T.n)) (hq : RowAt s q (ints ds)) (h : ∀ s' w c', Ext s s' → Fr s.size s' w T.n c' 1 (ints (worP T ds)) → K (.slice w T.n c') s') :
    CALL Pg W F_ref13_worths [.agg #[.slice x T.n c, .slice y T.z c'], .slice q ds.length cq] K E s :=
  f_worthsG hx hy (okP_vd hok).n8 (okP_vd hok).z6 hl hd hq h
theorem f_Can {x y : Option Addr} {c c' : Nat} {m z : Int} (h4 : T.n ≤ 100000) (h5 : T.z ≤ 100000) (hx : MnAt s x T.men) (hy : PzAt s y T.list) (h : ∀ s', Ext s s' → K (.tuple #[.bool (canR T m z).1, .int .i64 (canR T m z).2]) s') :
    CALL Pg W F_ref13_Can [.agg #[.slice x T.n c, .slice y T.z c'], .int .i64 m, .int .i64 z] K E s := by
  refine does_ref13_Can W x T.n c y T.z c' m z _ s ?_
  unfold T_ref13_Can
  refine ne2 fun s1 e1 z1 o1 o2 => ?_
  refine ⟨_, _, _, o1.cell, _, _, _, o2.cell, _, _, _, o1.cell, _, _, _, o2.cell, ?_⟩
  refine f_Man h4 fun s2 e2 => ?_
  try simp only [TUP_mk, AGG_mk, HD_mk, NL_mk, TYI_mk, TYB_mk, TYP_mk, TYL_mk, TYS_mk, TYM_mk, SO_mk, NX_mk, endK_mk, endK_mk', add_0]
  refine ANDS_i ⟨_, _, _, e2.cell o1.cell, _, _, _, e2.cell o2.cell, rfl⟩ ?_
  have fin : ∀ t b, Ext s1 t → b = (isM T m && isZ T z) → J_ref13_Can_0 W (endK K E) x T.n c y T.z c' b s.size m z t := by
    intro t b et hb
    unfold J_ref13_Can_0
    have e0t := e1.trans et
    refine f_check (hx.ext e0t) (hy.ext e0t) fun t2 e2 => ?_
    try simp only [TUP_mk, AGG_mk, HD_mk, NL_mk, TYI_mk, TYB_mk, TYP_mk, TYL_mk, TYS_mk, TYM_mk, SO_mk, NX_mk, endK_mk, endK_mk', add_0]
    have hh := fun t3 (e3 : Ext t2 t3) => h t3 (e0t.trans (e2.trans e3))
    unfold canR at hh
    cases hok : okP T with
    | false =>
      rw [hok] at hh
      refine BR_ne (fun _ => hh t2 (Ext.refl _)) (fun h3 => by cases h3)
    | true =>
      rw [hok] at hh
      cases hbb : b with
      | false =>
        rw [← hb, hbb] at hh
        refine BR_ne (fun _ => hh t2 (Ext.refl _)) (fun h3 => by cases h3)
      | true =>
        rw [← hb, hbb] at hh
        rw [hbb] at hb
        have hb' := hb.symm
        simp only [Bool.and_eq_true] at hb'
        obtain ⟨g1, g2⟩ := hb'
        have hi := (of_decide_eq_true g1)
        have hj := (of_decide_eq_true g2)
        obtain ⟨i, rfl⟩ := Int.eq_ofNat_of_zero_le hi.1
        obtain ⟨j, rfl⟩ := Int.eq_ofNat_of_zero_le hj.1
        refine BR_ne (fun h3 => absurd rfl h3) (fun _ => ?_)
        have e12 := et.trans e2
        refine ⟨_, _, _, e12.cell o1.cell, _, _, _, e12.cell o2.cell, ?_⟩
        refine f_can (hx.ext (e1.trans e12)) (hy.ext (e1.trans e12)) (by omega) (by omega) fun t3 e3 => ?_
        try simp only [TUP_mk, AGG_mk, HD_mk, NL_mk, TYI_mk, TYB_mk, TYP_mk, TYL_mk, TYS_mk, TYM_mk, SO_mk, NX_mk, endK_mk, endK_mk', add_0]
        exact hh t3 e3
  refine BR_bool (fun h1 => ?_) (fun h1 => ?_)
  · refine ⟨_, _, _, e2.cell o1.cell, _, _, _, e2.cell o2.cell, ?_⟩
    refine f_Prize h5 fun s3 e3 => ?_
    try simp only [TUP_mk, AGG_mk, HD_mk, NL_mk, TYI_mk, TYB_mk, TYP_mk, TYL_mk, TYS_mk, TYM_mk, SO_mk, NX_mk, endK_mk, endK_mk', add_0]
    have e23 := e2.trans e3
    refine ANDS_i ⟨_, _, _, e23.cell o1.cell, _, _, _, e23.cell o2.cell, rfl⟩ ?_
    refine fin s3 _ e23 ?_
    unfold isM isZ
    rw [h1]; rfl
  · refine fin s2 _ e2 ?_
    unfold isM
    rw [h1]; rfl
theorem f_Due {x y : Option Addr} {c c' : Nat} (hx : MnAt s x T.men) (hy : PzAt s y T.list) (h : ∀ s' q cq, Ext s s' → Fr s.size s' q (dueR T).1.length cq 1 (ints (dueR T).1) → K (.tuple #[.slice q (dueR T).1.length cq, .int .i64 (dueR T).2]) s') :
    CALL Pg W F_ref13_Due [.agg #[.slice x T.n c, .slice y T.z c']] K E s := by
  refine does_ref13_Due W x T.n c y T.z c' _ s ?_
  unfold T_ref13_Due
  refine ne2 fun s1 e1 z1 o1 o2 => ?_
  refine ⟨_, _, _, o1.cell, _, _, _, o2.cell, ?_⟩
  refine f_check (hx.ext e1) (hy.ext e1) fun s2 e2 => ?_
  try simp only [TUP_mk, AGG_mk, HD_mk, NL_mk, TYI_mk, TYB_mk, TYP_mk, TYL_mk, TYS_mk, TYM_mk, SO_mk, NX_mk, endK_mk, endK_mk', add_0]
  have e02 := e1.trans e2
  cases hok : okP T with
  | false =>
    refine BR_ne (fun _ => ?_) (fun h3 => by cases h3)
    have := h s2 none 0 e02
    unfold dueR at this
    rw [hok] at this
    exact this (Fr.nil _ _ _)
  | true =>
    refine BR_ne (fun h3 => absurd rfl h3) (fun _ => ?_)
    refine ⟨_, _, _, e2.cell o1.cell, _, _, _, e2.cell o2.cell, ?_⟩
    refine f_due hok (hx.ext e02) (hy.ext e02) fun s3 q cq e3 f3 => ?_
    try simp only [TUP_mk, AGG_mk, HD_mk, NL_mk, TYI_mk, TYB_mk, TYP_mk, TYL_mk, TYS_mk, TYM_mk, SO_mk, NX_mk, endK_mk, endK_mk', add_0]
    have hlen : (dueR T).1.length = T.z := by unfold dueR manL dueP; rw [if_pos hok]; simp [dueL_len]
    have := h s3 q cq (e02.trans e3) (by
      rw [hlen]
      unfold dueR
      rw [if_pos hok]
      exact f3.le e02.1)
    rw [hlen] at this
    unfold dueR at this
    rw [if_pos hok] at this
    exact this
theorem f_Club {x y : Option Addr} {c c' : Nat} (hx : MnAt s x T.men) (hy : PzAt s y T.list) (h : ∀ s', Ext s s' → K (.tuple #[.int .i64 (clubR T).1, .int .i64 (clubR T).2.1, .int .i64 (clubR T).2.2]) s') :
    CALL Pg W F_ref13_Club [.agg #[.slice x T.n c, .slice y T.z c']] K E s := by
  refine does_ref13_Club W x T.n c y T.z c' _ s ?_
  unfold T_ref13_Club
  refine ne2 fun s1 e1 z1 o1 o2 => ?_
  refine ⟨_, _, _, o1.cell, _, _, _, o2.cell, ?_⟩
  refine f_check (hx.ext e1) (hy.ext e1) fun s2 e2 => ?_
  try simp only [TUP_mk, AGG_mk, HD_mk, NL_mk, TYI_mk, TYB_mk, TYP_mk, TYL_mk, TYS_mk, TYM_mk, SO_mk, NX_mk, endK_mk, endK_mk', add_0]
  have e02 := e1.trans e2
  cases hok : okP T with
  | false =>
    refine BR_ne (fun _ => ?_) (fun h3 => by cases h3)
    have := h s2 e02
    unfold clubR at this
    rw [hok] at this
    exact this
  | true =>
    have hv := okP_vd hok
    refine BR_ne (fun h3 => absurd rfl h3) (fun _ => ?_)
    refine ⟨_, _, _, e2.cell o1.cell, _, _, _, e2.cell o2.cell, ?_⟩
    refine f_best hok (hx.ext e02) (hy.ext e02) fun s3 e3 => ?_
    try simp only [TUP_mk, AGG_mk, HD_mk, NL_mk, TYI_mk, TYB_mk, TYP_mk, TYL_mk, TYS_mk, TYM_mk, SO_mk, NX_mk, endK_mk, endK_mk', add_0]
    have e23 := e2.trans e3
    have hb : bestP T = (0, 0) ∨ (1 ≤ (bestP T).1 ∧ sumC T.n (places T (bestP T).1) = some (bestP T).2) := by
      by_cases hne : clubsL T 5 = []
      · left; unfold bestP; rw [hne]; rfl
      · right
        have := clubs_mem (firstL_mem _ hne)
        exact ⟨this.1.1, this.2⟩
    refine BR_eq (fun h3 => ?_) (fun h3 => ?_)
    · have he : bestP T = (0, 0) := hb.resolve_right (fun hh => by omega)
      have := h s3 (e02.trans e3)
      unfold clubR at this
      rw [if_pos hok, if_pos he] at this
      exact this
    · have hne : ¬ bestP T = (0, 0) := fun he => h3 (by rw [he])
      have hs := (hb.resolve_left hne).2
      refine ⟨_, _, _, e23.cell o1.cell, _, _, _, e23.cell o2.cell, ?_⟩
      refine f_sum hok (hx.ext (e1.trans e23)) (hy.ext (e1.trans e23)) fun s4 e4 => ?_
      try simp only [TUP_mk, AGG_mk, HD_mk, NL_mk, TYI_mk, TYB_mk, TYP_mk, TYL_mk, TYS_mk, TYM_mk, SO_mk, NX_mk, endK_mk, endK_mk', add_0]
      have := h s4 (e1.trans (e23.trans e4))
      unfold clubR at this
      rw [if_pos hok, if_neg hne] at this
      rw [hs]
      exact this
theorem f_Wrong {x y q : Option Addr} {c c' cq : Nat} {ds : List Int} (h4 : T.n ≤ 100000) (hl : ds.length ≤ 100000) (hc : ds.length ≤ cq) (hx : MnAt s x T.men) (hy : PzAt s y T.list) (hq : RowAt s q (ints ds)) (h : ∀ s', Ext s s' → K (.tuple #[.int .i64 (wrongR T ds).1, .int .i64 (wrongR T ds).2.1, .int .i64 (wrongR T ds).2.2]) s') :
    CALL Pg W F_ref13_Wrong [.agg #[.slice x T.n c, .slice y T.z c'], .slice q ds.length cq] K E s := by
  refine does_ref13_Wrong W x T.n c y T.z c' q ds.length cq _ s ?_
  unfold T_ref13_Wrong
  refine ne2 fun s1 e1 z1 o1 o2 => ?_
  refine ⟨_, _, _, o1.cell, _, _, _, o2.cell, _, _, _, o1.cell, _, _, _, o2.cell, ?_⟩
  refine f_Giving h4 hl hc (hq.ext e1) fun s2 e2 => ?_
  try simp only [TUP_mk, AGG_mk, HD_mk, NL_mk, TYI_mk, TYB_mk, TYP_mk, TYL_mk, TYS_mk, TYM_mk, SO_mk, NX_mk, endK_mk, endK_mk', add_0]
  have e02 := e1.trans e2
  refine ANDS_i ⟨_, _, _, e2.cell o1.cell, _, _, _, e2.cell o2.cell, rfl⟩ ?_
  refine f_check (hx.ext e02) (hy.ext e02) fun s3 e3 => ?_
  try simp only [TUP_mk, AGG_mk, HD_mk, NL_mk, TYI_mk, TYB_mk, TYP_mk, TYL_mk, TYS_mk, TYM_mk, SO_mk, NX_mk, endK_mk, endK_mk', add_0]
  have e03 := e02.trans e3
  have e13 := e2.trans e3
  have hh := fun t (e : Ext s3 t) => h t (e03.trans e)
  unfold wrongR at hh
  cases hok : okP T with
  | false =>
    rw [hok] at hh
    exact BR_ne (fun _ => hh s3 (Ext.refl _)) (fun h3 => by cases h3)
  | true =>
    rw [hok] at hh
    cases hg : gvP T ds with
    | false =>
      rw [hg] at hh
      exact BR_ne (fun _ => hh s3 (Ext.refl _)) (fun h3 => by cases h3)
    | true =>
      rw [hg] at hh
      refine BR_ne (fun h3 => absurd rfl h3) (fun _ => ?_)
      refine ⟨_, _, _, e13.cell o1.cell, _, _, _, e13.cell o2.cell, ?_⟩
      refine f_due hok (hx.ext e03) (hy.ext e03) fun s4 w cw e4 f4 => ?_
      try simp only [TUP_mk, AGG_mk, HD_mk, NL_mk, TYI_mk, TYB_mk, TYP_mk, TYL_mk, TYS_mk, TYM_mk, SO_mk, NX_mk, endK_mk, endK_mk', add_0]
      have hz : ds.length = T.z := by unfold gvP at hg; simp only [Bool.and_eq_true, decide_eq_true_eq] at hg; exact hg.1
      have hw : (manL (dueP T)).length = T.z := by unfold manL dueP; simp [dueL_len]
      have hh4 := hh s4 e4
      simp only [if_true] at hh4
      have hq4 := hq.ext (e03.trans e4)
      refine L_ref13_Wrong_0_rule W _ q ds.length cq w T.z cw (fun _ _ _ n t => t = s4 ∧ ∃ k : Nat, k ≤ T.z ∧ n = k ∧ ∀ j, j < k → ds.getD j 0 = (manL (dueP T)).getD j 0) (fun _ _ _ n _ => (T.z - n).toNat) 0 0 0 0 s4 ⟨rfl, 0, by omega, rfl, fun j hj => by omega⟩ ?_
      rintro a1 a2 a3 n t ⟨rfl, k, hk, rfl, hsame⟩
      unfold B_ref13_Wrong_0
      refine BR_dec (fun hlt => ?_) (fun hlt => ?_)
      · have hkz : k < T.z := by omega
        obtain ⟨a, ha, g⟩ := row_int f4.row (by omega : k < (manL (dueP T)).length)
        obtain ⟨b, hb, g'⟩ := row_int hq4 (by omega : k < ds.length)
        refine IXS_at hb (by omega) ?_
        refine ⟨_, g', ?_⟩
        refine IXS_at ha hkz ?_
        refine ⟨_, g, ?_⟩
        refine BR_ne (fun h3 => ?_) (fun h3 => ?_)
        · refine IXS_at ha hkz ?_
          refine ⟨_, g, ?_⟩
          refine ANDS_i ⟨_, g, rfl⟩ ?_
          have hf : (List.range T.z).find? (fun i => ds.getD i 0 != (manL (dueP T)).getD i 0) = some k := by
            refine find_at (k := k) (List.getElem?_range hkz) (bne_iff_ne.2 h3) fun j x hj hx => ?_
            have : x = j := by rw [List.getElem?_range (by omega)] at hx; exact (Option.some.inj hx).symm
            subst this
            rw [hsame x hj]; simp
          unfold wrongP at hh4
          rw [hf] at hh4
          exact hh4
        · refine ⟨rfl, _, _, _, _, rfl, ⟨rfl, k + 1, hkz, wrap_succ (by omega), fun j hj => ?_⟩, ms_succ hkz (by omega)⟩
          by_cases e : j = k
          · subst e; exact h3
          · exact hsame j (by omega)
      · have hkz : k = T.z := by omega
        subst hkz
        have hf : (List.range T.z).find? (fun i => ds.getD i 0 != (manL (dueP T)).getD i 0) = none := by
          refine find_no fun j x hj hx => ?_
          rw [List.length_range] at hj
          have : x = j := by rw [List.getElem?_range hj] at hx; exact (Option.some.inj hx).symm
          subst this
          rw [hsame x hj]; simp
        unfold wrongP at hh4
        rw [hf] at hh4
        exact hh4
theorem f_Worth {x y q : Option Addr} {c c' cq : Nat} {ds : List Int} (h4 : T.n ≤ 100000) (hl : ds.length ≤ 100000) (hc : ds.length ≤ cq) (hx : MnAt s x T.men) (hy : PzAt s y T.list) (hq : RowAt s q (ints ds)) (h : ∀ s' w cw, Ext s s' → Fr s.size s' w (worthR T ds).1.length cw 1 (ints (worthR T ds).1) → K (.tuple #[.slice w (worthR T ds).1.length cw, .int .i64 (worthR T ds).2.1, .int .i64 (worthR T ds).2.2]) s') :
    CALL Pg W F_ref13_Worth [.agg #[.slice x T.n c, .slice y T.z c'], .slice q ds.length cq] K E s := by
  refine does_ref13_Worth W x T.n c y T.z c' q ds.length cq _ s ?_
  unfold T_ref13_Worth
  refine ne2 fun s1 e1 z1 o1 o2 => ?_
  refine ⟨_, _, _, o1.cell, _, _, _, o2.cell, _, _, _, o1.cell, _, _, _, o2.cell, ?_⟩
  refine f_Giving h4 hl hc (hq.ext e1) fun s2 e2 => ?_
  try simp only [TUP_mk, AGG_mk, HD_mk, NL_mk, TYI_mk, TYB_mk, TYP_mk, TYL_mk, TYS_mk, TYM_mk, SO_mk, NX_mk, endK_mk, endK_mk', add_0]
  have e02 := e1.trans e2
  refine ANDS_i ⟨_, _, _, e2.cell o1.cell, _, _, _, e2.cell o2.cell, rfl⟩ ?_
  refine f_check (hx.ext e02) (hy.ext e02) fun s3 e3 => ?_
  try simp only [TUP_mk, AGG_mk, HD_mk, NL_mk, TYI_mk, TYB_mk, TYP_mk, TYL_mk, TYS_mk, TYM_mk, SO_mk, NX_mk, endK_mk, endK_mk', add_0]
  have e03 := e02.trans e3
  have e13 := e2.trans e3
  have hh := fun t w cw (e : Ext s3 t) => h t w cw (e03.trans e)
  unfold worthR at hh
  cases hok : okP T with
  | false =>
    rw [hok] at hh
    exact BR_ne (fun _ => hh s3 none 0 (Ext.refl _) (Fr.nil _ _ _)) (fun h3 => by cases h3)
  | true =>
    rw [hok] at hh
    cases hg : gvP T ds with
    | false =>
      rw [hg] at hh
      exact BR_ne (fun _ => hh s3 none 0 (Ext.refl _) (Fr.nil _ _ _)) (fun h3 => by cases h3)
    | true =>
      rw [hg] at hh
      refine BR_ne (fun h3 => absurd rfl h3) (fun _ => ?_)
      refine ⟨_, _, _, e13.cell o1.cell, _, _, _, e13.cell o2.cell, ?_⟩
      have hz : ds.length = T.z := by unfold gvP at hg; simp only [Bool.and_eq_true, decide_eq_true_eq] at hg; exact hg.1
      have hgs : gvS T [] ds = true := by unfold gvP at hg; simp only [Bool.and_eq_true, decide_eq_true_eq] at hg; exact hg.2
      have hall := gvS_all ds [] hgs
      have hv := okP_vd hok
      have h6 := hv.z6
      have h8 := hv.n8
      refine f_Fair (hx.ext e03) (hy.ext e03) hz h6 hall (hq.ext e03) fun s4 e4 => ?_
      try simp only [TUP_mk, AGG_mk, HD_mk, NL_mk, TYI_mk, TYB_mk, TYP_mk, TYL_mk, TYS_mk, TYM_mk, SO_mk, NX_mk, endK_mk, endK_mk', add_0]
      have e04 := e03.trans e4
      have e14 := e13.trans e4
      cases hf : fairP T ds with
      | false =>
        rw [hf] at hh
        exact BR_tt rfl (hh s4 none 0 e4 (Fr.nil _ _ _))
      | true =>
        rw [hf] at hh
        refine BR_ff rfl ?_
        refine ⟨_, _, _, e14.cell o1.cell, _, _, _, e14.cell o2.cell, ?_⟩
        refine f_worths (hx.ext e04) (hy.ext e04) hok hz hall (hq.ext e04) fun s5 w cw e5 f5 => ?_
        try simp only [TUP_mk, AGG_mk, HD_mk, NL_mk, TYI_mk, TYB_mk, TYP_mk, TYL_mk, TYS_mk, TYM_mk, SO_mk, NX_mk, endK_mk, endK_mk', add_0]
        have hbd := worP_bd hok hz
        have hpl : (worP T ds).length = T.n := worP_len
        have hsum : ∀ k, k ≤ T.n → 0 ≤ ((worP T ds).take k).sum ∧ ((worP T ds).take k).sum ≤ 1000 * k := by
          intro k
          induction k with
          | zero => intro _; simp
          | succ k ih =>
            intro hk
            have ih := ih (by omega)
            have hkl : k < (worP T ds).length := by omega
            rw [List.take_add_one, List.getElem?_eq_getElem hkl]
            have := hbd _ (List.getElem_mem hkl)
            simp only [Option.toList_some, List.sum_append, List.sum_cons, List.sum_nil]
            omega
        refine L_ref13_Worth_0_rule W _ w T.n cw (fun a n t => t = s5 ∧ ∃ k : Nat, k ≤ T.n ∧ n = k ∧ a = ((worP T ds).take k).sum) (fun _ n _ => (T.n - n).toNat) 0 0 s5 ⟨rfl, 0, by omega, rfl, by simp⟩ ?_
        rintro a n t ⟨rfl, k, hk, rfl, rfl⟩
        unfold B_ref13_Worth_0
        refine BR_dec (fun hlt => ?_) (fun hlt => ?_)
        · have hkn : k < T.n := by omega
          have hkl : k < (worP T ds).length := by omega
          obtain ⟨p, hp, g⟩ := row_int f5.row hkl
          refine IXS_at hp hkn ?_
          refine ⟨_, g, ?_⟩
          have hs := hsum (k + 1) (by omega)
          have e : ((worP T ds).take (k + 1)).sum = ((worP T ds).take k).sum + (worP T ds).getD k 0 := by
            rw [getD_lt hkl, List.take_add_one, List.getElem?_eq_getElem hkl, List.sum_append]
            show ((worP T ds).take k).sum + ([(worP T ds)[k]] : List Int).sum = _
            rw [List.sum_cons, List.sum_nil, Int.add_zero]
          rw [e] at hs
          refine ⟨rfl, _, _, rfl, ⟨rfl, k + 1, hkn, wrap_succ (by omega), ?_⟩, ms_succ hkn (by omega)⟩
          rw [e, wrap_i64 (by omega) (by omega)]
        · have hkn : k = T.n := by omega
          subst hkn
          have ht : (worP T ds).take T.n = worP T ds := by rw [← hpl, List.take_length]
          rw [ht]
          have := hh t w cw (e4.trans e5)
          simp only [if_true] at this
          rw [hpl] at this
          exact this (f5.le e04.1)
end
end Go.Proofs.Ytfaeokcbfnlgbaa.G

/- More of the functions' shallow texts, by gen.py. -/
set_option linter.unusedVariables false
set_option maxRecDepth 100000
namespace Go.Proofs.Ytfaeokcbfnlgbaa.G
open Go.V
def an_28 : Nat → Ann := fun b => match b with
  | _ => {}
abbrev rv_28 : List ResultVar := [.tmp 2, .tmp 3, .tmp 4]
abbrev rs_28 : List Nat := [17, 2, 3, 4]
def T_ref13_Most (W : World) (x1 : Option Addr) (l2 : Nat) (c3 : Nat) (x4 : Option Addr) (l5 : Nat) (c6 : Nat) (R : Ending → Hp → Prop) : Hp → Prop :=
  NEW 25 [(.slice x1 l2 c3), (.slice x4 l5 c6)] fun B7 =>
    RDL (Addr.add ⟨B7, 0, none⟩ 0) fun x8 l9 c10 =>
      RDL (Addr.add ⟨B7, 0, none⟩ 1) fun x11 l12 c13 =>
        CALL Pg W F_ref13_check [(.agg #[(.slice x8 l9 c10), (.slice x11 l12 c13)]), (.bool true)]
          (fun v14 => TYI .i64 v14 fun n16 =>
            BR (n16 != 0)
              (R (.returned (.tuple #[(.int .i64 0), (.slice none 0 0), (.int .i64 n16)])))
              (RDL (Addr.add ⟨B7, 0, none⟩ 0) fun x17 l18 c19 =>
                RDL (Addr.add ⟨B7, 0, none⟩ 1) fun x20 l21 c22 =>
                  CALL Pg W F_ref13_most [(.agg #[(.slice x17 l18 c19), (.slice x20 l21 c22)]), (.slice none 0 0)]
                    (fun v23 => TYL v23 fun x25 l26 c27 =>
                      CALL Pg W F_ref13_Many [(.slice x25 l26 c27)]
                        (fun v28 => TYI .i64 v28 fun n30 =>
                          R (.returned (.tuple #[(.int .i64 n30), (.slice x25 l26 c27), (.int .i64 0)])))
                          (fun e29 => R (.panicked e29)))
                      (fun e24 => R (.panicked e24))))
            (fun e15 => R (.panicked e15))
theorem T_ref13_Most_eq (W : World) (x1 : Option Addr) (l2 : Nat) (c3 : Nat) (x4 : Option Addr) (l5 : Nat) (c6 : Nat) (R : Ending → Hp → Prop) : vfun Pg W an_28 Try.f28 [(.agg #[(.slice x1 l2 c3), (.slice x4 l5 c6)])] R = T_ref13_Most W x1 l2 c3 x4 l5 c6 R := by kernel_rfl
theorem does_ref13_Most (W : World) (x1 : Option Addr) (l2 : Nat) (c3 : Nat) (x4 : Option Addr) (l5 : Nat) (c6 : Nat) (R : Ending → Hp → Prop) (s : Hp) (h : T_ref13_Most W x1 l2 c3 x4 l5 c6 R s) : Does Pg W F_ref13_Most #[(.agg #[(.slice x1 l2 c3), (.slice x4 l5 c6)])] s R :=
  does_of_vfun Pg W an_28 Try.func28 rfl (by kernel_rfl) (by rw [T_ref13_Most_eq]; exact h)
def an_30 : Nat → Ann := fun b => match b with
  | 0 => { ms := [10, 11, 12], ks := [.i .i64, .i .i64, .i .i64], us := [1, 2, 4, 5, 8, 9, 58], rt := false, ex := [] }
  | _ => {}
abbrev rv_30 : List ResultVar := [.tmp 4, .tmp 5]
abbrev rs_30 : List Nat := [58, 4, 5]
def L_ref13_Stay_0 (W : World) (R : Ending → Hp → Prop) (zn0 : Int) (za1 : Addr) (zp2 : Option Addr) (zl3 : Nat) (zl4 : Nat) (zp5 : Option Addr) (zl6 : Nat) (zl7 : Nat) (n133 : Int) (n134 : Int) (n135 : Int) : Hp → Prop :=
  LOOPN [.i .i64, .i .i64, .i .i64] (fun ys next s => ∀ j : Tm, vc Pg W 58 rs_30 an_30 false (sub (bodyOf Try.f30) [1, 1, 1, 1, 1, 1, 0, 1, 0, 0]) 0 (KLoop [10, 11, 12] [1, 2, 4, 5, 8, 9, 58] [(.int .i64 zn0), (.pointer (some za1)), (.int .i64 0), (.int .i64 0), (.slice zp2 zl3 zl4), (.slice zp5 zl6 zl7), (.tuple #[])] next (KBlk 0 (KS Pg W 58 rs_30 an_30 false (sub (bodyOf Try.f30) [1, 1, 1, 1, 1, 1, 1]) 0 (fin Pg W 58 rv_30 R)))) (known [10, 11, 12] ys (known [1, 2, 4, 5, 8, 9, 58] [(.int .i64 zn0), (.pointer (some za1)), (.int .i64 0), (.int .i64 0), (.slice zp2 zl3 zl4), (.slice zp5 zl6 zl7), (.tuple #[])] j)) s) [(.int .i64 n133), (.int .i64 n134), (.int .i64 n135)]
def J_ref13_Stay_0 (W : World) (R : Ending → Hp → Prop) (zn0 : Int) (za1 : Addr) (zp2 : Option Addr) (zl3 : Nat) (zl4 : Nat) (zp5 : Option Addr) (zl6 : Nat) (zl7 : Nat) (nx0 : List Value → Hp → Prop) (n139 : Int) (n140 : Int) (n135 : Int) : Hp → Prop :=
  NX [(.int .i64 zn0), (.pointer (some za1)), (.int .i64 0), (.int .i64 0), (.slice zp2 zl3 zl4), (.slice zp5 zl6 zl7), (.tuple #[])] [(.int .i64 zn0), (.pointer (some za1)), (.int .i64 0), (.int .i64 0), (.slice zp2 zl3 zl4), (.slice zp5 zl6 zl7), (.tuple #[])] (nx0 [(.int .i64 n139), (.int .i64 n140), (.int .i64 (IntKind.wrap .i64 (n135 + 1)))])
def J_ref13_Stay_1 (W : World) (R : Ending → Hp → Prop) (zn0 : Int) (za1 : Addr) (zp2 : Option Addr) (zl3 : Nat) (zl4 : Nat) (zp5 : Option Addr) (zl6 : Nat) (zl7 : Nat) (nx0 : List Value → Hp → Prop) (n148 : Int) (n134 : Int) (n135 : Int) : Hp → Prop :=
  J_ref13_Stay_0 W R zn0 za1 zp2 zl3 zl4 zp5 zl6 zl7 nx0 n148 (IntKind.wrap .i64 (n134 + 1)) n135
def B_ref13_Stay_0 (W : World) (R : Ending → Hp → Prop) (zn0 : Int) (za1 : Addr) (zp2 : Option Addr) (zl3 : Nat) (zl4 : Nat) (zp5 : Option Addr) (zl6 : Nat) (zl7 : Nat) (n133 : Int) (n134 : Int) (n135 : Int) (nx0 : List Value → Hp → Prop) : Hp → Prop :=
  RDL (Addr.add za1 0) fun x136 l137 c138 =>
    BR (decide (n135 < (↑l137 : Int)))
      (BR (n135 == zn0)
        (J_ref13_Stay_0 W R zn0 za1 zp2 zl3 zl4 zp5 zl6 zl7 nx0 n133 n134 n135)
        (IXS zp5 zl6 n134 1 fun a141 =>
          RDI .i64 a141 fun n142 =>
            IXS zp2 zl3 n135 1 fun a143 =>
              RDI .i64 a143 fun n144 =>
                BR (decide (n142 > n144))
                  (CALL Pg W F_ref13_power [(.int .i64 n135)]
                    (fun v145 => TYI .i64 v145 fun n147 =>
                      J_ref13_Stay_1 W R zn0 za1 zp2 zl3 zl4 zp5 zl6 zl7 nx0 (IntKind.wrap .i64 (n133 + n147)) n134 n135)
                      (fun e146 => R (.panicked e146)))
                  (J_ref13_Stay_1 W R zn0 za1 zp2 zl3 zl4 zp5 zl6 zl7 nx0 n133 n134 n135)))
      (R (.returned (.tuple #[(.int .i64 n133), (.int .i64 0)])))
theorem B_ref13_Stay_0_eq (W : World) (R : Ending → Hp → Prop) (zn0 : Int) (za1 : Addr) (zp2 : Option Addr) (zl3 : Nat) (zl4 : Nat) (zp5 : Option Addr) (zl6 : Nat) (zl7 : Nat) (n133 : Int) (n134 : Int) (n135 : Int) (nx0 : List Value → Hp → Prop) (j : Tm) : vc Pg W 58 rs_30 an_30 false (sub (bodyOf Try.f30) [1, 1, 1, 1, 1, 1, 0, 1, 0, 0]) 0 (KLoop [10, 11, 12] [1, 2, 4, 5, 8, 9, 58] [(.int .i64 zn0), (.pointer (some za1)), (.int .i64 0), (.int .i64 0), (.slice zp2 zl3 zl4), (.slice zp5 zl6 zl7), (.tuple #[])] nx0 (KBlk 0 (KS Pg W 58 rs_30 an_30 false (sub (bodyOf Try.f30) [1, 1, 1, 1, 1, 1, 1]) 0 (fin Pg W 58 rv_30 R)))) (known [10, 11, 12] [(.int .i64 n133), (.int .i64 n134), (.int .i64 n135)] (known [1, 2, 4, 5, 8, 9, 58] [(.int .i64 zn0), (.pointer (some za1)), (.int .i64 0), (.int .i64 0), (.slice zp2 zl3 zl4), (.slice zp5 zl6 zl7), (.tuple #[])] j)) = B_ref13_Stay_0 W R zn0 za1 zp2 zl3 zl4 zp5 zl6 zl7 n133 n134 n135 nx0 := by kernel_rfl
def N_ref13_Stay_0 (I : Int → Int → Int → Hp → Prop) (μ : Int → Int → Int → Hp → Nat) (n1330 : Int) (n1340 : Int) (n1350 : Int) (s : Hp) (vs : List Value) : Hp → Prop := fun s' => ∃ n133 n134 n135, vs = [(.int .i64 n133), (.int .i64 n134), (.int .i64 n135)] ∧ I n133 n134 n135 s' ∧ μ n133 n134 n135 s' < μ n1330 n1340 n1350 s
theorem L_ref13_Stay_0_rule (W : World) (R : Ending → Hp → Prop) (zn0 : Int) (za1 : Addr) (zp2 : Option Addr) (zl3 : Nat) (zl4 : Nat) (zp5 : Option Addr) (zl6 : Nat) (zl7 : Nat) (I : Int → Int → Int → Hp → Prop) (μ : Int → Int → Int → Hp → Nat) (n1330 : Int) (n1340 : Int) (n1350 : Int) (s : Hp) (h0 : I n1330 n1340 n1350 s)
    (hr : ∀ (n133 : Int) (n134 : Int) (n135 : Int) (s : Hp), I n133 n134 n135 s → B_ref13_Stay_0 W R zn0 za1 zp2 zl3 zl4 zp5 zl6 zl7 n133 n134 n135 (fun vs => N_ref13_Stay_0 I μ n133 n134 n135 s vs) s) : L_ref13_Stay_0 W R zn0 za1 zp2 zl3 zl4 zp5 zl6 zl7 n1330 n1340 n1350 s := by
  refine ⟨fun vs s => ∃ n133 n134 n135, vs = [(.int .i64 n133), (.int .i64 n134), (.int .i64 n135)] ∧ I n133 n134 n135 s, fun vs s => (match vs with | [.int _ n133, .int _ n134, .int _ n135] => μ n133 n134 n135 s | _ => 0), ⟨⟨⟨_, rfl⟩, ⟨⟨_, rfl⟩, ⟨⟨_, rfl⟩, trivial⟩⟩⟩, ⟨_, _, _, rfl, h0⟩⟩, ?_⟩
  intro n133 n134 n135 s hI j
  obtain ⟨n133', n134', n135', hy, hI⟩ := hI
  have hI' : I n133 n134 n135 s := by cases hy; exact hI
  have hh := hr n133 n134 n135 s hI'
  rw [← B_ref13_Stay_0_eq W R zn0 za1 zp2 zl3 zl4 zp5 zl6 zl7 n133 n134 n135 _ j] at hh
  refine vc_mono ?_ _ _ hh
  exact KLoop_mono (fun vs s' h => by obtain ⟨n1331, n1341, n1351, rfl, h1, h2⟩ := h; exact ⟨⟨⟨_, rfl⟩, ⟨⟨_, rfl⟩, ⟨⟨_, rfl⟩, trivial⟩⟩⟩, ⟨_, _, _, rfl, h1⟩, h2⟩)
def T_ref13_Stay (W : World) (x1 : Option Addr) (l2 : Nat) (c3 : Nat) (x4 : Option Addr) (l5 : Nat) (c6 : Nat) (n7 : Int) (R : Ending → Hp → Prop) : Hp → Prop :=
  NEW 25 [(.slice x1 l2 c3), (.slice x4 l5 c6)] fun B8 =>
    RDL (Addr.add ⟨B8, 0, none⟩ 0) fun x9 l10 c11 =>
      RDL (Addr.add ⟨B8, 0, none⟩ 1) fun x12 l13 c14 =>
        RDL (Addr.add ⟨B8, 0, none⟩ 0) fun x15 l16 c17 =>
          RDL (Addr.add ⟨B8, 0, none⟩ 1) fun x18 l19 c20 =>
            CALL Pg W F_ref13_Man [(.agg #[(.slice x15 l16 c17), (.slice x18 l19 c20)]), (.int .i64 n7)]
              (fun v21 => TYB v21 fun b23 =>
                ANDS (RDL (Addr.add ⟨B8, 0, none⟩ 0) fun x24 l25 c26 =>
                  RDL (Addr.add ⟨B8, 0, none⟩ 1) fun x27 l28 c29 =>
                    fun _ => ((.agg #[(.slice x24 l25 c26), (.slice x27 l28 c29)]) : Value) = (.agg #[(.slice x9 l10 c11), (.slice x12 l13 c14)])) <|
                  CALL Pg W F_ref13_check [(.agg #[(.slice x9 l10 c11), (.slice x12 l13 c14)]), (.bool b23)]
                    (fun v30 => TYI .i64 v30 fun n32 =>
                      BR (n32 != 0)
                        (R (.returned (.tuple #[(.int .i64 0), (.int .i64 n32)])))
                        (RDL (Addr.add ⟨B8, 0, none⟩ 0) fun x33 l34 c35 =>
                          RDL (Addr.add ⟨B8, 0, none⟩ 1) fun x36 l37 c38 =>
                            CALL Pg W F_ref13_Without [(.agg #[(.slice x33 l34 c35), (.slice x36 l37 c38)]), (.int .i64 n7)]
                              (fun v39 => AGG v39 fun q41 => HD q41 fun v42 r43 => TYL v42 fun x44 l45 c46 =>
                                HD r43 fun v47 r48 => TYL v47 fun x49 l50 c51 =>
                                  NL r48 <|
                                    NEWZ Pg 25 fun B52 =>
                                      WR (Addr.add ⟨B52, 0, none⟩ 0) (.slice x44 l45 c46) <|
                                        WR (Addr.add ⟨B52, 0, none⟩ 1) (.slice x49 l50 c51) <|
                                          RDL (Addr.add ⟨B8, 0, none⟩ 0) fun x53 l54 c55 =>
                                            RDL (Addr.add ⟨B8, 0, none⟩ 1) fun x56 l57 c58 =>
                                              RDL (Addr.add ⟨B8, 0, none⟩ 0) fun x59 l60 c61 =>
                                                RDL (Addr.add ⟨B8, 0, none⟩ 1) fun x62 l63 c64 =>
                                                  RDL (Addr.add ⟨B52, 0, none⟩ 0) fun x65 l66 c67 =>
                                                    RDL (Addr.add ⟨B52, 0, none⟩ 1) fun x68 l69 c70 =>
                                                      RDL (Addr.add ⟨B52, 0, none⟩ 0) fun x71 l72 c73 =>
                                                        RDL (Addr.add ⟨B52, 0, none⟩ 1) fun x74 l75 c76 =>
                                                          CALL Pg W F_ref13_due [(.agg #[(.slice x59 l60 c61), (.slice x62 l63 c64)])]
                                                            (fun v77 => TYL v77 fun x79 l80 c81 =>
                                                              ANDS (RDL (Addr.add ⟨B52, 0, none⟩ 0) fun x82 l83 c84 =>
                                                                RDL (Addr.add ⟨B52, 0, none⟩ 1) fun x85 l86 c87 =>
                                                                  fun _ => ((.agg #[(.slice x82 l83 c84), (.slice x85 l86 c87)]) : Value) = (.agg #[(.slice x71 l72 c73), (.slice x74 l75 c76)])) <|
                                                                ANDS (RDL (Addr.add ⟨B52, 0, none⟩ 0) fun x88 l89 c90 =>
                                                                  RDL (Addr.add ⟨B52, 0, none⟩ 1) fun x91 l92 c93 =>
                                                                    fun _ => ((.agg #[(.slice x88 l89 c90), (.slice x91 l92 c93)]) : Value) = (.agg #[(.slice x65 l66 c67), (.slice x68 l69 c70)])) <|
                                                                  ANDS (RDL (Addr.add ⟨B8, 0, none⟩ 0) fun x94 l95 c96 =>
                                                                    RDL (Addr.add ⟨B8, 0, none⟩ 1) fun x97 l98 c99 =>
                                                                      fun _ => ((.agg #[(.slice x94 l95 c96), (.slice x97 l98 c99)]) : Value) = (.agg #[(.slice x53 l54 c55), (.slice x56 l57 c58)])) <|
                                                                    CALL Pg W F_ref13_worths [(.agg #[(.slice x53 l54 c55), (.slice x56 l57 c58)]), (.slice x79 l80 c81)]
                                                                      (fun v100 => TYL v100 fun x102 l103 c104 =>
                                                                        ANDS (RDL (Addr.add ⟨B52, 0, none⟩ 0) fun x105 l106 c107 =>
                                                                          RDL (Addr.add ⟨B52, 0, none⟩ 1) fun x108 l109 c110 =>
                                                                            fun _ => ((.agg #[(.slice x105 l106 c107), (.slice x108 l109 c110)]) : Value) = (.agg #[(.slice x71 l72 c73), (.slice x74 l75 c76)])) <|
                                                                          ANDS (RDL (Addr.add ⟨B52, 0, none⟩ 0) fun x111 l112 c113 =>
                                                                            RDL (Addr.add ⟨B52, 0, none⟩ 1) fun x114 l115 c116 =>
                                                                              fun _ => ((.agg #[(.slice x111 l112 c113), (.slice x114 l115 c116)]) : Value) = (.agg #[(.slice x65 l66 c67), (.slice x68 l69 c70)])) <|
                                                                            CALL Pg W F_ref13_due [(.agg #[(.slice x71 l72 c73), (.slice x74 l75 c76)])]
                                                                              (fun v117 => TYL v117 fun x119 l120 c121 =>
                                                                                ANDS (RDL (Addr.add ⟨B52, 0, none⟩ 0) fun x122 l123 c124 =>
                                                                                  RDL (Addr.add ⟨B52, 0, none⟩ 1) fun x125 l126 c127 =>
                                                                                    fun _ => ((.agg #[(.slice x122 l123 c124), (.slice x125 l126 c127)]) : Value) = (.agg #[(.slice x65 l66 c67), (.slice x68 l69 c70)])) <|
                                                                                  CALL Pg W F_ref13_worths [(.agg #[(.slice x65 l66 c67), (.slice x68 l69 c70)]), (.slice x119 l120 c121)]
                                                                                    (fun v128 => TYL v128 fun x130 l131 c132 =>
                                                                                      L_ref13_Stay_0 W R n7 ⟨B8, 0, none⟩ x102 l103 c104 x130 l131 c132 0 0 0)
                                                                                      (fun e129 => R (.panicked e129)))
                                                                                (fun e118 => R (.panicked e118)))
                                                                        (fun e101 => R (.panicked e101)))
                                                              (fun e78 => R (.panicked e78)))
                                (fun e40 => R (.panicked e40))))
                      (fun e31 => R (.panicked e31)))
                (fun e22 => R (.panicked e22))
theorem T_ref13_Stay_eq (W : World) (x1 : Option Addr) (l2 : Nat) (c3 : Nat) (x4 : Option Addr) (l5 : Nat) (c6 : Nat) (n7 : Int) (R : Ending → Hp → Prop) : vfun Pg W an_30 Try.f30 [(.agg #[(.slice x1 l2 c3), (.slice x4 l5 c6)]), (.int .i64 n7)] R = T_ref13_Stay W x1 l2 c3 x4 l5 c6 n7 R := by kernel_rfl
theorem does_ref13_Stay (W : World) (x1 : Option Addr) (l2 : Nat) (c3 : Nat) (x4 : Option Addr) (l5 : Nat) (c6 : Nat) (n7 : Int) (R : Ending → Hp → Prop) (s : Hp) (h : T_ref13_Stay W x1 l2 c3 x4 l5 c6 n7 R s) : Does Pg W F_ref13_Stay #[(.agg #[(.slice x1 l2 c3), (.slice x4 l5 c6)]), (.int .i64 n7)] s R :=
  does_of_vfun Pg W an_30 Try.func30 rfl (by kernel_rfl) (by rw [T_ref13_Stay_eq]; exact h)
def an_32 : Nat → Ann := fun b => match b with
  | 0 => { ms := [4, 5, 7], ks := [.i .i64, .i .i64, .i .i64], us := [1, 2, 31], rt := false, ex := [] }
  | _ => {}
abbrev rv_32 : List ResultVar := [.tmp 4, .tmp 5]
abbrev rs_32 : List Nat := [31, 4, 5]
def L_ref13_For_0 (W : World) (R : Ending → Hp → Prop) (zn0 : Int) (za1 : Addr) (n36 : Int) (n37 : Int) (n38 : Int) : Hp → Prop :=
  LOOPN [.i .i64, .i .i64, .i .i64] (fun ys next s => ∀ j : Tm, vc Pg W 31 rs_32 an_32 false (sub (bodyOf Try.f32) [1, 1, 1, 0, 1, 0, 0]) 0 (KLoop [4, 5, 7] [1, 2, 31] [(.int .i64 zn0), (.pointer (some za1)), (.tuple #[])] next (KBlk 0 (KS Pg W 31 rs_32 an_32 false (sub (bodyOf Try.f32) [1, 1, 1, 1]) 0 (fin Pg W 31 rv_32 R)))) (known [4, 5, 7] ys (known [1, 2, 31] [(.int .i64 zn0), (.pointer (some za1)), (.tuple #[])] j)) s) [(.int .i64 n36), (.int .i64 n37), (.int .i64 n38)]
def B_ref13_For_0 (W : World) (R : Ending → Hp → Prop) (zn0 : Int) (za1 : Addr) (n36 : Int) (n37 : Int) (n38 : Int) (nx0 : List Value → Hp → Prop) : Hp → Prop :=
  BR (decide (n38 ≥ 1))
    (RDL (Addr.add za1 0) fun x39 l40 c41 =>
      RDL (Addr.add za1 1) fun x42 l43 c44 =>
        CALL Pg W F_ref13_Moved [(.agg #[(.slice x39 l40 c41), (.slice x42 l43 c44)]), (.int .i64 zn0), (.int .i64 n38)]
          (fun v45 => AGG v45 fun q47 => HD q47 fun v48 r49 => TYL v48 fun x50 l51 c52 =>
            HD r49 fun v53 r54 => TYL v53 fun x55 l56 c57 =>
              NL r54 <|
                CALL Pg W F_ref13_due [(.agg #[(.slice x50 l51 c52), (.slice x55 l56 c57)])]
                  (fun v58 => TYL v58 fun x60 l61 c62 =>
                    CALL Pg W F_ref13_has [(.slice x60 l61 c62), (.int .i64 zn0)]
                      (fun v63 => TYB v63 fun b65 =>
                        BR b65
                          (R (.returned (.tuple #[(.int .i64 n38), (.int .i64 0)])))
                          (NX [(.int .i64 zn0), (.pointer (some za1)), (.tuple #[])] [(.int .i64 zn0), (.pointer (some za1)), (.tuple #[])] (nx0 [(.int .i64 n36), (.int .i64 n37), (.int .i64 (IntKind.wrap .i64 (n38 - 1)))])))
                        (fun e64 => R (.panicked e64)))
                    (fun e59 => R (.panicked e59)))
            (fun e46 => R (.panicked e46)))
    (R (.returned (.tuple #[(.int .i64 0), (.int .i64 4)])))
theorem B_ref13_For_0_eq (W : World) (R : Ending → Hp → Prop) (zn0 : Int) (za1 : Addr) (n36 : Int) (n37 : Int) (n38 : Int) (nx0 : List Value → Hp → Prop) (j : Tm) : vc Pg W 31 rs_32 an_32 false (sub (bodyOf Try.f32) [1, 1, 1, 0, 1, 0, 0]) 0 (KLoop [4, 5, 7] [1, 2, 31] [(.int .i64 zn0), (.pointer (some za1)), (.tuple #[])] nx0 (KBlk 0 (KS Pg W 31 rs_32 an_32 false (sub (bodyOf Try.f32) [1, 1, 1, 1]) 0 (fin Pg W 31 rv_32 R)))) (known [4, 5, 7] [(.int .i64 n36), (.int .i64 n37), (.int .i64 n38)] (known [1, 2, 31] [(.int .i64 zn0), (.pointer (some za1)), (.tuple #[])] j)) = B_ref13_For_0 W R zn0 za1 n36 n37 n38 nx0 := by kernel_rfl
def N_ref13_For_0 (I : Int → Int → Int → Hp → Prop) (μ : Int → Int → Int → Hp → Nat) (n360 : Int) (n370 : Int) (n380 : Int) (s : Hp) (vs : List Value) : Hp → Prop := fun s' => ∃ n36 n37 n38, vs = [(.int .i64 n36), (.int .i64 n37), (.int .i64 n38)] ∧ I n36 n37 n38 s' ∧ μ n36 n37 n38 s' < μ n360 n370 n380 s
theorem L_ref13_For_0_rule (W : World) (R : Ending → Hp → Prop) (zn0 : Int) (za1 : Addr) (I : Int → Int → Int → Hp → Prop) (μ : Int → Int → Int → Hp → Nat) (n360 : Int) (n370 : Int) (n380 : Int) (s : Hp) (h0 : I n360 n370 n380 s)
    (hr : ∀ (n36 : Int) (n37 : Int) (n38 : Int) (s : Hp), I n36 n37 n38 s → B_ref13_For_0 W R zn0 za1 n36 n37 n38 (fun vs => N_ref13_For_0 I μ n36 n37 n38 s vs) s) : L_ref13_For_0 W R zn0 za1 n360 n370 n380 s := by
  refine ⟨fun vs s => ∃ n36 n37 n38, vs = [(.int .i64 n36), (.int .i64 n37), (.int .i64 n38)] ∧ I n36 n37 n38 s, fun vs s => (match vs with | [.int _ n36, .int _ n37, .int _ n38] => μ n36 n37 n38 s | _ => 0), ⟨⟨⟨_, rfl⟩, ⟨⟨_, rfl⟩, ⟨⟨_, rfl⟩, trivial⟩⟩⟩, ⟨_, _, _, rfl, h0⟩⟩, ?_⟩
  intro n36 n37 n38 s hI j
  obtain ⟨n36', n37', n38', hy, hI⟩ := hI
  have hI' : I n36 n37 n38 s := by cases hy; exact hI
  have hh := hr n36 n37 n38 s hI'
  rw [← B_ref13_For_0_eq W R zn0 za1 n36 n37 n38 _ j] at hh
  refine vc_mono ?_ _ _ hh
  exact KLoop_mono (fun vs s' h => by obtain ⟨n361, n371, n381, rfl, h1, h2⟩ := h; exact ⟨⟨⟨_, rfl⟩, ⟨⟨_, rfl⟩, ⟨⟨_, rfl⟩, trivial⟩⟩⟩, ⟨_, _, _, rfl, h1⟩, h2⟩)
def T_ref13_For (W : World) (x1 : Option Addr) (l2 : Nat) (c3 : Nat) (x4 : Option Addr) (l5 : Nat) (c6 : Nat) (n7 : Int) (R : Ending → Hp → Prop) : Hp → Prop :=
  NEW 25 [(.slice x1 l2 c3), (.slice x4 l5 c6)] fun B8 =>
    RDL (Addr.add ⟨B8, 0, none⟩ 0) fun x9 l10 c11 =>
      RDL (Addr.add ⟨B8, 0, none⟩ 1) fun x12 l13 c14 =>
        RDL (Addr.add ⟨B8, 0, none⟩ 0) fun x15 l16 c17 =>
          RDL (Addr.add ⟨B8, 0, none⟩ 1) fun x18 l19 c20 =>
            CALL Pg W F_ref13_Man [(.agg #[(.slice x15 l16 c17), (.slice x18 l19 c20)]), (.int .i64 n7)]
              (fun v21 => TYB v21 fun b23 =>
                ANDS (RDL (Addr.add ⟨B8, 0, none⟩ 0) fun x24 l25 c26 =>
                  RDL (Addr.add ⟨B8, 0, none⟩ 1) fun x27 l28 c29 =>
                    fun _ => ((.agg #[(.slice x24 l25 c26), (.slice x27 l28 c29)]) : Value) = (.agg #[(.slice x9 l10 c11), (.slice x12 l13 c14)])) <|
                  CALL Pg W F_ref13_check [(.agg #[(.slice x9 l10 c11), (.slice x12 l13 c14)]), (.bool b23)]
                    (fun v30 => TYI .i64 v30 fun n32 =>
                      BR (n32 != 0)
                        (R (.returned (.tuple #[(.int .i64 0), (.int .i64 n32)])))
                        (RDL (Addr.add ⟨B8, 0, none⟩ 0) fun x33 l34 c35 =>
                          L_ref13_For_0 W R n7 ⟨B8, 0, none⟩ 0 0 (↑l34 : Int)))
                      (fun e31 => R (.panicked e31)))
                (fun e22 => R (.panicked e22))
theorem T_ref13_For_eq (W : World) (x1 : Option Addr) (l2 : Nat) (c3 : Nat) (x4 : Option Addr) (l5 : Nat) (c6 : Nat) (n7 : Int) (R : Ending → Hp → Prop) : vfun Pg W an_32 Try.f32 [(.agg #[(.slice x1 l2 c3), (.slice x4 l5 c6)]), (.int .i64 n7)] R = T_ref13_For W x1 l2 c3 x4 l5 c6 n7 R := by kernel_rfl
theorem does_ref13_For (W : World) (x1 : Option Addr) (l2 : Nat) (c3 : Nat) (x4 : Option Addr) (l5 : Nat) (c6 : Nat) (n7 : Int) (R : Ending → Hp → Prop) (s : Hp) (h : T_ref13_For W x1 l2 c3 x4 l5 c6 n7 R s) : Does Pg W F_ref13_For #[(.agg #[(.slice x1 l2 c3), (.slice x4 l5 c6)]), (.int .i64 n7)] s R :=
  does_of_vfun Pg W an_32 Try.func32 rfl (by kernel_rfl) (by rw [T_ref13_For_eq]; exact h)
def an_36 : Nat → Ann := fun b => match b with
  | 0 => { ms := [6], ks := [.i .i64], us := [1, 2, 4, 5, 45], rt := false, ex := [] }
  | _ => {}
abbrev rv_36 : List ResultVar := [.cell 4 25]
abbrev rs_36 : List Nat := [45, 4]
def L_ref13_Without_0 (W : World) (R : Ending → Hp → Prop) (zn0 : Int) (za1 : Addr) (za2 : Addr) (za3 : Addr) (n17 : Int) : Hp → Prop :=
  LOOPN [.i .i64] (fun ys next s => ∀ j : Tm, vc Pg W 45 rs_36 an_36 false (sub (bodyOf Try.f36) [1, 1, 1, 0, 1, 0, 0]) 0 (KLoop [6] [1, 2, 4, 5, 45] [(.int .i64 zn0), (.pointer (some za1)), (.pointer (some za2)), (.pointer (some za3)), (.tuple #[])] next (KBlk 0 (KS Pg W 45 rs_36 an_36 false (sub (bodyOf Try.f36) [1, 1, 1, 1]) 0 (fin Pg W 45 rv_36 R)))) (known [6] ys (known [1, 2, 4, 5, 45] [(.int .i64 zn0), (.pointer (some za1)), (.pointer (some za2)), (.pointer (some za3)), (.tuple #[])] j)) s) [(.int .i64 n17)]
def J_ref13_Without_0 (W : World) (R : Ending → Hp → Prop) (zn0 : Int) (za1 : Addr) (za2 : Addr) (za3 : Addr) (nx0 : List Value → Hp → Prop) (n17 : Int) : Hp → Prop :=
  NX [(.int .i64 zn0), (.pointer (some za1)), (.pointer (some za2)), (.pointer (some za3)), (.tuple #[])] [(.int .i64 zn0), (.pointer (some za1)), (.pointer (some za2)), (.pointer (some za3)), (.tuple #[])] (nx0 [(.int .i64 (IntKind.wrap .i64 (n17 + 1)))])
def J_ref13_Without_1 (W : World) (R : Ending → Hp → Prop) (za3 : Addr) (B29 : Nat) (zn0 : Int) (za1 : Addr) (za2 : Addr) (nx0 : List Value → Hp → Prop) (n17 : Int) : Hp → Prop :=
  RDL (Addr.add za3 0) fun x37 l38 c39 =>
    RDI .i64 (Addr.add ⟨B29, 0, none⟩ 0) fun n40 =>
      RDI .i64 (Addr.add ⟨B29, 0, none⟩ 1) fun n41 =>
        RDB (Addr.add ⟨B29, 0, none⟩ 2) fun b42 =>
          RDB (Addr.add ⟨B29, 0, none⟩ 3) fun b43 =>
            NEW 48 [(.int .i64 n40), (.int .i64 n41), (.bool b42), (.bool b43)] fun B44 =>
              APP Pg 48 4 x37 l38 c39 (some ⟨B44, 0, none⟩) 1 fun x45 l46 c47 =>
                WR (Addr.add (Addr.add za3 0) 0) (.slice x45 l46 c47) <|
                  J_ref13_Without_0 W R zn0 za1 za2 za3 nx0 n17
def B_ref13_Without_0 (W : World) (R : Ending → Hp → Prop) (zn0 : Int) (za1 : Addr) (za2 : Addr) (za3 : Addr) (n17 : Int) (nx0 : List Value → Hp → Prop) : Hp → Prop :=
  RDL (Addr.add za1 0) fun x18 l19 c20 =>
    BR (decide (n17 < (↑l19 : Int)))
      (BR (n17 == zn0)
        (J_ref13_Without_0 W R zn0 za1 za2 za3 nx0 n17)
        (RDL (Addr.add za1 0) fun x21 l22 c23 =>
          IXS x21 l22 n17 4 fun a24 =>
            RDI .i64 (Addr.add a24 0) fun n25 =>
              RDI .i64 (Addr.add a24 1) fun n26 =>
                RDB (Addr.add a24 2) fun b27 =>
                  RDB (Addr.add a24 3) fun b28 =>
                    NEWZ Pg 48 fun B29 =>
                      WR (Addr.add ⟨B29, 0, none⟩ 0) (.int .i64 n25) <|
                        WR (Addr.add ⟨B29, 0, none⟩ 1) (.int .i64 n26) <|
                          WR (Addr.add ⟨B29, 0, none⟩ 2) (.bool b27) <|
                            WR (Addr.add ⟨B29, 0, none⟩ 3) (.bool b28) <|
                              RDI .i64 (Addr.add ⟨B29, 0, none⟩ 0) fun n30 =>
                                RDL (Addr.add za1 0) fun x31 l32 c33 =>
                                  IXS x31 l32 zn0 4 fun a34 =>
                                    RDI .i64 (Addr.add a34 0) fun n35 =>
                                      BR (decide (n30 > n35))
                                        (RDI .i64 (Addr.add ⟨B29, 0, none⟩ 0) fun n36 =>
                                          WR (Addr.add (Addr.add ⟨B29, 0, none⟩ 0) 0) (.int .i64 (IntKind.wrap .i64 (n36 - 1))) <|
                                            J_ref13_Without_1 W R za3 B29 zn0 za1 za2 nx0 n17)
                                        (J_ref13_Without_1 W R za3 B29 zn0 za1 za2 nx0 n17)))
      (RDL (Addr.add za3 0) fun x48 l49 c50 =>
        RDL (Addr.add za3 1) fun x51 l52 c53 =>
          WR (Addr.add za2 0) (.slice x48 l49 c50) <|
            WR (Addr.add za2 1) (.slice x51 l52 c53) <|
              RDL (Addr.add za2 0) fun x54 l55 c56 =>
                RDL (Addr.add za2 1) fun x57 l58 c59 =>
                  R (.returned (.agg #[(.slice x54 l55 c56), (.slice x57 l58 c59)])))
theorem B_ref13_Without_0_eq (W : World) (R : Ending → Hp → Prop) (zn0 : Int) (za1 : Addr) (za2 : Addr) (za3 : Addr) (n17 : Int) (nx0 : List Value → Hp → Prop) (j : Tm) : vc Pg W 45 rs_36 an_36 false (sub (bodyOf Try.f36) [1, 1, 1, 0, 1, 0, 0]) 0 (KLoop [6] [1, 2, 4, 5, 45] [(.int .i64 zn0), (.pointer (some za1)), (.pointer (some za2)), (.pointer (some za3)), (.tuple #[])] nx0 (KBlk 0 (KS Pg W 45 rs_36 an_36 false (sub (bodyOf Try.f36) [1, 1, 1, 1]) 0 (fin Pg W 45 rv_36 R)))) (known [6] [(.int .i64 n17)] (known [1, 2, 4, 5, 45] [(.int .i64 zn0), (.pointer (some za1)), (.pointer (some za2)), (.pointer (some za3)), (.tuple #[])] j)) = B_ref13_Without_0 W R zn0 za1 za2 za3 n17 nx0 := by kernel_rfl
def N_ref13_Without_0 (I : Int → Hp → Prop) (μ : Int → Hp → Nat) (n170 : Int) (s : Hp) (vs : List Value) : Hp → Prop := fun s' => ∃ n17, vs = [(.int .i64 n17)] ∧ I n17 s' ∧ μ n17 s' < μ n170 s
theorem L_ref13_Without_0_rule (W : World) (R : Ending → Hp → Prop) (zn0 : Int) (za1 : Addr) (za2 : Addr) (za3 : Addr) (I : Int → Hp → Prop) (μ : Int → Hp → Nat) (n170 : Int) (s : Hp) (h0 : I n170 s)
    (hr : ∀ (n17 : Int) (s : Hp), I n17 s → B_ref13_Without_0 W R zn0 za1 za2 za3 n17 (fun vs => N_ref13_Without_0 I μ n17 s vs) s) : L_ref13_Without_0 W R zn0 za1 za2 za3 n170 s := by
  refine ⟨fun vs s => ∃ n17, vs = [(.int .i64 n17)] ∧ I n17 s, fun vs s => (match vs with | [.int _ n17] => μ n17 s | _ => 0), ⟨⟨⟨_, rfl⟩, trivial⟩, ⟨_, rfl, h0⟩⟩, ?_⟩
  intro n17 s hI j
  obtain ⟨n17', hy, hI⟩ := hI
  have hI' : I n17 s := by cases hy; exact hI
  have hh := hr n17 s hI'
  rw [← B_ref13_Without_0_eq W R zn0 za1 za2 za3 n17 _ j] at hh
  refine vc_mono ?_ _ _ hh
  exact KLoop_mono (fun vs s' h => by obtain ⟨n171, rfl, h1, h2⟩ := h; exact ⟨⟨⟨_, rfl⟩, trivial⟩, ⟨_, rfl, h1⟩, h2⟩)
def T_ref13_Without (W : World) (x1 : Option Addr) (l2 : Nat) (c3 : Nat) (x4 : Option Addr) (l5 : Nat) (c6 : Nat) (n7 : Int) (R : Ending → Hp → Prop) : Hp → Prop :=
  NEW 25 [(.slice x1 l2 c3), (.slice x4 l5 c6)] fun B8 =>
    NEWZ Pg 25 fun B9 =>
      RDL (Addr.add ⟨B8, 0, none⟩ 0) fun x10 l11 c12 =>
        RDL (Addr.add ⟨B8, 0, none⟩ 1) fun x13 l14 c15 =>
          NEWZ Pg 25 fun B16 =>
            WR (Addr.add ⟨B16, 0, none⟩ 0) (.slice x10 l11 c12) <|
              WR (Addr.add ⟨B16, 0, none⟩ 1) (.slice x13 l14 c15) <|
                WR (Addr.add (Addr.add ⟨B16, 0, none⟩ 0) 0) (.slice none 0 0) <|
                  L_ref13_Without_0 W R n7 ⟨B8, 0, none⟩ ⟨B9, 0, none⟩ ⟨B16, 0, none⟩ 0
theorem T_ref13_Without_eq (W : World) (x1 : Option Addr) (l2 : Nat) (c3 : Nat) (x4 : Option Addr) (l5 : Nat) (c6 : Nat) (n7 : Int) (R : Ending → Hp → Prop) : vfun Pg W an_36 Try.f36 [(.agg #[(.slice x1 l2 c3), (.slice x4 l5 c6)]), (.int .i64 n7)] R = T_ref13_Without W x1 l2 c3 x4 l5 c6 n7 R := by kernel_rfl
theorem does_ref13_Without (W : World) (x1 : Option Addr) (l2 : Nat) (c3 : Nat) (x4 : Option Addr) (l5 : Nat) (c6 : Nat) (n7 : Int) (R : Ending → Hp → Prop) (s : Hp) (h : T_ref13_Without W x1 l2 c3 x4 l5 c6 n7 R s) : Does Pg W F_ref13_Without #[(.agg #[(.slice x1 l2 c3), (.slice x4 l5 c6)]), (.int .i64 n7)] s R :=
  does_of_vfun Pg W an_36 Try.func36 rfl (by kernel_rfl) (by rw [T_ref13_Without_eq]; exact h)
def an_38 : Nat → Ann := fun b => match b with
  | 0 => { ms := [9], ks := [.i .i64], us := [1, 2, 6, 7, 8, 77], rt := false, ex := [] }
  | _ => {}
abbrev rv_38 : List ResultVar := [.cell 6 25]
abbrev rs_38 : List Nat := [77, 6]
def L_ref13_Moved_0 (W : World) (R : Ending → Hp → Prop) (zn0 : Int) (zn1 : Int) (za2 : Addr) (za3 : Addr) (zn4 : Int) (n30 : Int) : Hp → Prop :=
  LOOPN [.i .i64] (fun ys next s => ∀ j : Tm, vc Pg W 77 rs_38 an_38 false (sub (bodyOf Try.f38) [1, 1, 1, 1, 0, 1, 0, 0]) 0 (KLoop [9] [1, 2, 6, 7, 8, 77] [(.int .i64 zn0), (.int .i64 zn1), (.pointer (some za2)), (.pointer (some za3)), (.int .i64 zn4), (.tuple #[])] next (KBlk 0 (KS Pg W 77 rs_38 an_38 false (sub (bodyOf Try.f38) [1, 1, 1, 1, 1]) 0 (fin Pg W 77 rv_38 R)))) (known [9] ys (known [1, 2, 6, 7, 8, 77] [(.int .i64 zn0), (.int .i64 zn1), (.pointer (some za2)), (.pointer (some za3)), (.int .i64 zn4), (.tuple #[])] j)) s) [(.int .i64 n30)]
def J_ref13_Moved_0 (W : World) (R : Ending → Hp → Prop) (zn0 : Int) (zn1 : Int) (za2 : Addr) (za3 : Addr) (zn4 : Int) (nx0 : List Value → Hp → Prop) (n30 : Int) : Hp → Prop :=
  NX [(.int .i64 zn0), (.int .i64 zn1), (.pointer (some za2)), (.pointer (some za3)), (.int .i64 zn4), (.tuple #[])] [(.int .i64 zn0), (.int .i64 zn1), (.pointer (some za2)), (.pointer (some za3)), (.int .i64 zn4), (.tuple #[])] (nx0 [(.int .i64 (IntKind.wrap .i64 (n30 + 1)))])
def J_ref13_Moved_1 (W : World) (R : Ending → Hp → Prop) (b46 : Bool) (za3 : Addr) (n30 : Int) (zn0 : Int) (zn1 : Int) (za2 : Addr) (zn4 : Int) (nx0 : List Value → Hp → Prop) : Hp → Prop :=
  BR b46
    (RDL (Addr.add za3 0) fun x47 l48 c49 =>
      IXS x47 l48 n30 4 fun a50 =>
        RDI .i64 (Addr.add a50 0) fun n51 =>
          IXS x47 l48 n30 4 fun a52 =>
            WR (Addr.add (Addr.add a52 0) 0) (.int .i64 (IntKind.wrap .i64 (n51 + 1))) <|
              J_ref13_Moved_0 W R zn0 zn1 za2 za3 zn4 nx0 n30)
    (J_ref13_Moved_0 W R zn0 zn1 za2 za3 zn4 nx0 n30)
def J_ref13_Moved_2 (W : World) (R : Ending → Hp → Prop) (n38 : Int) (zn4 : Int) (zn1 : Int) (za3 : Addr) (n30 : Int) (zn0 : Int) (za2 : Addr) (nx0 : List Value → Hp → Prop) : Hp → Prop :=
  BR (decide (n38 < zn4))
    (J_ref13_Moved_1 W R (decide (n38 ≥ zn1)) za3 n30 zn0 zn1 za2 zn4 nx0)
    (J_ref13_Moved_1 W R false za3 n30 zn0 zn1 za2 zn4 nx0)
def J_ref13_Moved_3 (W : World) (R : Ending → Hp → Prop) (b39 : Bool) (za3 : Addr) (n30 : Int) (n38 : Int) (zn4 : Int) (zn1 : Int) (zn0 : Int) (za2 : Addr) (nx0 : List Value → Hp → Prop) : Hp → Prop :=
  BR b39
    (RDL (Addr.add za3 0) fun x40 l41 c42 =>
      IXS x40 l41 n30 4 fun a43 =>
        RDI .i64 (Addr.add a43 0) fun n44 =>
          IXS x40 l41 n30 4 fun a45 =>
            WR (Addr.add (Addr.add a45 0) 0) (.int .i64 (IntKind.wrap .i64 (n44 - 1))) <|
              J_ref13_Moved_2 W R n38 zn4 zn1 za3 n30 zn0 za2 nx0)
    (J_ref13_Moved_2 W R n38 zn4 zn1 za3 n30 zn0 za2 nx0)
def B_ref13_Moved_0 (W : World) (R : Ending → Hp → Prop) (zn0 : Int) (zn1 : Int) (za2 : Addr) (za3 : Addr) (zn4 : Int) (n30 : Int) (nx0 : List Value → Hp → Prop) : Hp → Prop :=
  RDL (Addr.add za3 0) fun x31 l32 c33 =>
    BR (decide (n30 < (↑l32 : Int)))
      (RDL (Addr.add za3 0) fun x34 l35 c36 =>
        IXS x34 l35 n30 4 fun a37 =>
          RDI .i64 (Addr.add a37 0) fun n38 =>
            BR (decide (n38 > zn4))
              (J_ref13_Moved_3 W R (decide (n38 ≤ zn1)) za3 n30 n38 zn4 zn1 zn0 za2 nx0)
              (J_ref13_Moved_3 W R false za3 n30 n38 zn4 zn1 zn0 za2 nx0))
      (RDL (Addr.add za3 0) fun x53 l54 c55 =>
        IXS x53 l54 zn0 4 fun a56 =>
          WR (Addr.add (Addr.add a56 0) 0) (.int .i64 zn1) <|
            RDL (Addr.add za3 0) fun x57 l58 c59 =>
              RDL (Addr.add za3 1) fun x60 l61 c62 =>
                WR (Addr.add za2 0) (.slice x57 l58 c59) <|
                  WR (Addr.add za2 1) (.slice x60 l61 c62) <|
                    RDL (Addr.add za2 0) fun x63 l64 c65 =>
                      RDL (Addr.add za2 1) fun x66 l67 c68 =>
                        R (.returned (.agg #[(.slice x63 l64 c65), (.slice x66 l67 c68)])))
theorem B_ref13_Moved_0_eq (W : World) (R : Ending → Hp → Prop) (zn0 : Int) (zn1 : Int) (za2 : Addr) (za3 : Addr) (zn4 : Int) (n30 : Int) (nx0 : List Value → Hp → Prop) (j : Tm) : vc Pg W 77 rs_38 an_38 false (sub (bodyOf Try.f38) [1, 1, 1, 1, 0, 1, 0, 0]) 0 (KLoop [9] [1, 2, 6, 7, 8, 77] [(.int .i64 zn0), (.int .i64 zn1), (.pointer (some za2)), (.pointer (some za3)), (.int .i64 zn4), (.tuple #[])] nx0 (KBlk 0 (KS Pg W 77 rs_38 an_38 false (sub (bodyOf Try.f38) [1, 1, 1, 1, 1]) 0 (fin Pg W 77 rv_38 R)))) (known [9] [(.int .i64 n30)] (known [1, 2, 6, 7, 8, 77] [(.int .i64 zn0), (.int .i64 zn1), (.pointer (some za2)), (.pointer (some za3)), (.int .i64 zn4), (.tuple #[])] j)) = B_ref13_Moved_0 W R zn0 zn1 za2 za3 zn4 n30 nx0 := by kernel_rfl
def N_ref13_Moved_0 (I : Int → Hp → Prop) (μ : Int → Hp → Nat) (n300 : Int) (s : Hp) (vs : List Value) : Hp → Prop := fun s' => ∃ n30, vs = [(.int .i64 n30)] ∧ I n30 s' ∧ μ n30 s' < μ n300 s
theorem L_ref13_Moved_0_rule (W : World) (R : Ending → Hp → Prop) (zn0 : Int) (zn1 : Int) (za2 : Addr) (za3 : Addr) (zn4 : Int) (I : Int → Hp → Prop) (μ : Int → Hp → Nat) (n300 : Int) (s : Hp) (h0 : I n300 s)
    (hr : ∀ (n30 : Int) (s : Hp), I n30 s → B_ref13_Moved_0 W R zn0 zn1 za2 za3 zn4 n30 (fun vs => N_ref13_Moved_0 I μ n30 s vs) s) : L_ref13_Moved_0 W R zn0 zn1 za2 za3 zn4 n300 s := by
  refine ⟨fun vs s => ∃ n30, vs = [(.int .i64 n30)] ∧ I n30 s, fun vs s => (match vs with | [.int _ n30] => μ n30 s | _ => 0), ⟨⟨⟨_, rfl⟩, trivial⟩, ⟨_, rfl, h0⟩⟩, ?_⟩
  intro n30 s hI j
  obtain ⟨n30', hy, hI⟩ := hI
  have hI' : I n30 s := by cases hy; exact hI
  have hh := hr n30 s hI'
  rw [← B_ref13_Moved_0_eq W R zn0 zn1 za2 za3 zn4 n30 _ j] at hh
  refine vc_mono ?_ _ _ hh
  exact KLoop_mono (fun vs s' h => by obtain ⟨n301, rfl, h1, h2⟩ := h; exact ⟨⟨⟨_, rfl⟩, trivial⟩, ⟨_, rfl, h1⟩, h2⟩)
def T_ref13_Moved (W : World) (x1 : Option Addr) (l2 : Nat) (c3 : Nat) (x4 : Option Addr) (l5 : Nat) (c6 : Nat) (n7 : Int) (n8 : Int) (R : Ending → Hp → Prop) : Hp → Prop :=
  NEW 25 [(.slice x1 l2 c3), (.slice x4 l5 c6)] fun B9 =>
    NEWZ Pg 25 fun B10 =>
      RDL (Addr.add ⟨B9, 0, none⟩ 0) fun x11 l12 c13 =>
        RDL (Addr.add ⟨B9, 0, none⟩ 1) fun x14 l15 c16 =>
          NEWZ Pg 25 fun B17 =>
            WR (Addr.add ⟨B17, 0, none⟩ 0) (.slice x11 l12 c13) <|
              WR (Addr.add ⟨B17, 0, none⟩ 1) (.slice x14 l15 c16) <|
                NEW 48 [] fun B18 =>
                  RDL (Addr.add ⟨B9, 0, none⟩ 0) fun x19 l20 c21 =>
                    APP Pg 48 4 (some ⟨B18, 0, none⟩) 0 0 x19 l20 fun x22 l23 c24 =>
                      WR (Addr.add (Addr.add ⟨B17, 0, none⟩ 0) 0) (.slice x22 l23 c24) <|
                        RDL (Addr.add ⟨B9, 0, none⟩ 0) fun x25 l26 c27 =>
                          IXS x25 l26 n7 4 fun a28 =>
                            RDI .i64 (Addr.add a28 0) fun n29 =>
                              L_ref13_Moved_0 W R n7 n8 ⟨B10, 0, none⟩ ⟨B17, 0, none⟩ n29 0
theorem T_ref13_Moved_eq (W : World) (x1 : Option Addr) (l2 : Nat) (c3 : Nat) (x4 : Option Addr) (l5 : Nat) (c6 : Nat) (n7 : Int) (n8 : Int) (R : Ending → Hp → Prop) : vfun Pg W an_38 Try.f38 [(.agg #[(.slice x1 l2 c3), (.slice x4 l5 c6)]), (.int .i64 n7), (.int .i64 n8)] R = T_ref13_Moved W x1 l2 c3 x4 l5 c6 n7 n8 R := by kernel_rfl
theorem does_ref13_Moved (W : World) (x1 : Option Addr) (l2 : Nat) (c3 : Nat) (x4 : Option Addr) (l5 : Nat) (c6 : Nat) (n7 : Int) (n8 : Int) (R : Ending → Hp → Prop) (s : Hp) (h : T_ref13_Moved W x1 l2 c3 x4 l5 c6 n7 n8 R s) : Does Pg W F_ref13_Moved #[(.agg #[(.slice x1 l2 c3), (.slice x4 l5 c6)]), (.int .i64 n7), (.int .i64 n8)] s R :=
  does_of_vfun Pg W an_38 Try.func38 rfl (by kernel_rfl) (by rw [T_ref13_Moved_eq]; exact h)
def an_66 : Nat → Ann := fun b => match b with
  | 0 => { ms := [5, 6, 7], ks := [.l, .b, .i .i64], us := [1, 2, 4, 57], rt := false, ex := [] }
  | _ => {}
abbrev rv_66 : List ResultVar := [.tmp 4]
abbrev rs_66 : List Nat := [57, 4]
def L_ref13_most_0 (W : World) (R : Ending → Hp → Prop) (zp0 : Option Addr) (zl1 : Nat) (zl2 : Nat) (za3 : Addr) (x14 : Option Addr) (l15 : Nat) (c16 : Nat) (b17 : Bool) (n18 : Int) : Hp → Prop :=
  LOOPN [.l, .b, .i .i64] (fun ys next s => ∀ j : Tm, vc Pg W 57 rs_66 an_66 false (sub (bodyOf Try.f66) [1, 1, 1, 1, 0, 1, 0, 0]) 0 (KLoop [5, 6, 7] [1, 2, 4, 57] [(.slice zp0 zl1 zl2), (.pointer (some za3)), (.slice none 0 0), (.tuple #[])] next (KBlk 0 (KS Pg W 57 rs_66 an_66 false (sub (bodyOf Try.f66) [1, 1, 1, 1, 1]) 0 (fin Pg W 57 rv_66 R)))) (known [5, 6, 7] ys (known [1, 2, 4, 57] [(.slice zp0 zl1 zl2), (.pointer (some za3)), (.slice none 0 0), (.tuple #[])] j)) s) [(.slice x14 l15 c16), (.bool b17), (.int .i64 n18)]
def J_ref13_most_0 (W : World) (R : Ending → Hp → Prop) (b72 : Bool) (zp0 : Option Addr) (zl1 : Nat) (zl2 : Nat) (za3 : Addr) (nx0 : List Value → Hp → Prop) (x69 : Option Addr) (l70 : Nat) (c71 : Nat) (n18 : Int) (x14 : Option Addr) (l15 : Nat) (c16 : Nat) (b17 : Bool) : Hp → Prop :=
  BR b72
    (NX [(.slice zp0 zl1 zl2), (.pointer (some za3)), (.slice none 0 0), (.tuple #[])] [(.slice zp0 zl1 zl2), (.pointer (some za3)), (.slice none 0 0), (.tuple #[])] (nx0 [(.slice x69 l70 c71), (.bool true), (.int .i64 (IntKind.wrap .i64 (n18 + 1)))]))
    (NX [(.slice zp0 zl1 zl2), (.pointer (some za3)), (.slice none 0 0), (.tuple #[])] [(.slice zp0 zl1 zl2), (.pointer (some za3)), (.slice none 0 0), (.tuple #[])] (nx0 [(.slice x14 l15 c16), (.bool b17), (.int .i64 (IntKind.wrap .i64 (n18 + 1)))]))
def J_ref13_most_1 (W : World) (R : Ending → Hp → Prop) (b17 : Bool) (zp0 : Option Addr) (zl1 : Nat) (zl2 : Nat) (za3 : Addr) (nx0 : List Value → Hp → Prop) (x69 : Option Addr) (l70 : Nat) (c71 : Nat) (n18 : Int) (x14 : Option Addr) (l15 : Nat) (c16 : Nat) : Hp → Prop :=
  BR (!b17)
    (J_ref13_most_0 W R true zp0 zl1 zl2 za3 nx0 x69 l70 c71 n18 x14 l15 c16 b17)
    (CALL Pg W F_ref13_Many [(.slice x69 l70 c71)]
      (fun v73 => TYI .i64 v73 fun n75 =>
        CALL Pg W F_ref13_Many [(.slice x14 l15 c16)]
          (fun v76 => TYI .i64 v76 fun n78 =>
            J_ref13_most_0 W R (decide (n75 > n78)) zp0 zl1 zl2 za3 nx0 x69 l70 c71 n18 x14 l15 c16 b17)
            (fun e77 => R (.panicked e77)))
        (fun e74 => R (.panicked e74)))
def J_ref13_most_2 (W : World) (R : Ending → Hp → Prop) (b25 : Bool) (zp0 : Option Addr) (zl1 : Nat) (zl2 : Nat) (za3 : Addr) (nx0 : List Value → Hp → Prop) (x14 : Option Addr) (l15 : Nat) (c16 : Nat) (b17 : Bool) (n18 : Int) : Hp → Prop :=
  BR b25
    (NX [(.slice zp0 zl1 zl2), (.pointer (some za3)), (.slice none 0 0), (.tuple #[])] [(.slice zp0 zl1 zl2), (.pointer (some za3)), (.slice none 0 0), (.tuple #[])] (nx0 [(.slice x14 l15 c16), (.bool b17), (.int .i64 (IntKind.wrap .i64 (n18 + 1)))]))
    (RDL (Addr.add za3 0) fun x26 l27 c28 =>
      RDL (Addr.add za3 1) fun x29 l30 c31 =>
        CONJ [
          NEW 3 [] fun B32 =>
            ANDS (RDL (Addr.add za3 0) fun x33 l34 c35 =>
              RDL (Addr.add za3 1) fun x36 l37 c38 =>
                fun _ => ((.agg #[(.slice x33 l34 c35), (.slice x36 l37 c38)]) : Value) = (.agg #[(.slice x26 l27 c28), (.slice x29 l30 c31)])) <|
              CONJ [
                APP Pg 3 1 (some ⟨B32, 0, none⟩) 0 0 zp0 zl1 fun x39 l40 c41 =>
                  ANDS (RDL (Addr.add za3 0) fun x42 l43 c44 =>
                    RDL (Addr.add za3 1) fun x45 l46 c47 =>
                      fun _ => ((.agg #[(.slice x42 l43 c44), (.slice x45 l46 c47)]) : Value) = (.agg #[(.slice x26 l27 c28), (.slice x29 l30 c31)])) <|
                    NEW 3 [(.int .i64 n18)] fun B48 =>
                      ANDS (RDL (Addr.add za3 0) fun x49 l50 c51 =>
                        RDL (Addr.add za3 1) fun x52 l53 c54 =>
                          fun _ => ((.agg #[(.slice x49 l50 c51), (.slice x52 l53 c54)]) : Value) = (.agg #[(.slice x26 l27 c28), (.slice x29 l30 c31)])) <|
                        APP Pg 3 1 x39 l40 c41 (some ⟨B48, 0, none⟩) 1 fun x55 l56 c57 =>
                          ANDS (RDL (Addr.add za3 0) fun x58 l59 c60 =>
                            RDL (Addr.add za3 1) fun x61 l62 c63 =>
                              fun _ => ((.agg #[(.slice x58 l59 c60), (.slice x61 l62 c63)]) : Value) = (.agg #[(.slice x26 l27 c28), (.slice x29 l30 c31)])) <|
                            CALL Pg W F_ref13_most [(.agg #[(.slice x26 l27 c28), (.slice x29 l30 c31)]), (.slice x55 l56 c57)]
                              (fun v64 => TYL v64 fun x66 l67 c68 =>
                                J_ref13_most_1 W R b17 zp0 zl1 zl2 za3 nx0 x66 l67 c68 n18 x14 l15 c16)
                                (fun e65 => R (.panicked e65)),
                NEW 3 [(.int .i64 n18)] fun B79 =>
                  ANDS (RDL (Addr.add za3 0) fun x80 l81 c82 =>
                    RDL (Addr.add za3 1) fun x83 l84 c85 =>
                      fun _ => ((.agg #[(.slice x80 l81 c82), (.slice x83 l84 c85)]) : Value) = (.agg #[(.slice x26 l27 c28), (.slice x29 l30 c31)])) <|
                    APP Pg 3 1 (some ⟨B32, 0, none⟩) 0 0 zp0 zl1 fun x86 l87 c88 =>
                      ANDS (RDL (Addr.add za3 0) fun x89 l90 c91 =>
                        RDL (Addr.add za3 1) fun x92 l93 c94 =>
                          fun _ => ((.agg #[(.slice x89 l90 c91), (.slice x92 l93 c94)]) : Value) = (.agg #[(.slice x26 l27 c28), (.slice x29 l30 c31)])) <|
                        APP Pg 3 1 x86 l87 c88 (some ⟨B79, 0, none⟩) 1 fun x95 l96 c97 =>
                          ANDS (RDL (Addr.add za3 0) fun x98 l99 c100 =>
                            RDL (Addr.add za3 1) fun x101 l102 c103 =>
                              fun _ => ((.agg #[(.slice x98 l99 c100), (.slice x101 l102 c103)]) : Value) = (.agg #[(.slice x26 l27 c28), (.slice x29 l30 c31)])) <|
                            CALL Pg W F_ref13_most [(.agg #[(.slice x26 l27 c28), (.slice x29 l30 c31)]), (.slice x95 l96 c97)]
                              (fun v104 => TYL v104 fun x106 l107 c108 =>
                                J_ref13_most_1 W R b17 zp0 zl1 zl2 za3 nx0 x106 l107 c108 n18 x14 l15 c16)
                                (fun e105 => R (.panicked e105))],
          NEW 3 [(.int .i64 n18)] fun B109 =>
            ANDS (RDL (Addr.add za3 0) fun x110 l111 c112 =>
              RDL (Addr.add za3 1) fun x113 l114 c115 =>
                fun _ => ((.agg #[(.slice x110 l111 c112), (.slice x113 l114 c115)]) : Value) = (.agg #[(.slice x26 l27 c28), (.slice x29 l30 c31)])) <|
              NEW 3 [] fun B116 =>
                ANDS (RDL (Addr.add za3 0) fun x117 l118 c119 =>
                  RDL (Addr.add za3 1) fun x120 l121 c122 =>
                    fun _ => ((.agg #[(.slice x117 l118 c119), (.slice x120 l121 c122)]) : Value) = (.agg #[(.slice x26 l27 c28), (.slice x29 l30 c31)])) <|
                  APP Pg 3 1 (some ⟨B116, 0, none⟩) 0 0 zp0 zl1 fun x123 l124 c125 =>
                    ANDS (RDL (Addr.add za3 0) fun x126 l127 c128 =>
                      RDL (Addr.add za3 1) fun x129 l130 c131 =>
                        fun _ => ((.agg #[(.slice x126 l127 c128), (.slice x129 l130 c131)]) : Value) = (.agg #[(.slice x26 l27 c28), (.slice x29 l30 c31)])) <|
                      APP Pg 3 1 x123 l124 c125 (some ⟨B109, 0, none⟩) 1 fun x132 l133 c134 =>
                        ANDS (RDL (Addr.add za3 0) fun x135 l136 c137 =>
                          RDL (Addr.add za3 1) fun x138 l139 c140 =>
                            fun _ => ((.agg #[(.slice x135 l136 c137), (.slice x138 l139 c140)]) : Value) = (.agg #[(.slice x26 l27 c28), (.slice x29 l30 c31)])) <|
                          CALL Pg W F_ref13_most [(.agg #[(.slice x26 l27 c28), (.slice x29 l30 c31)]), (.slice x132 l133 c134)]
                            (fun v141 => TYL v141 fun x143 l144 c145 =>
                              J_ref13_most_1 W R b17 zp0 zl1 zl2 za3 nx0 x143 l144 c145 n18 x14 l15 c16)
                              (fun e142 => R (.panicked e142))])
def B_ref13_most_0 (W : World) (R : Ending → Hp → Prop) (zp0 : Option Addr) (zl1 : Nat) (zl2 : Nat) (za3 : Addr) (x14 : Option Addr) (l15 : Nat) (c16 : Nat) (b17 : Bool) (n18 : Int) (nx0 : List Value → Hp → Prop) : Hp → Prop :=
  RDL (Addr.add za3 0) fun x19 l20 c21 =>
    BR (decide (n18 < (↑l20 : Int)))
      (BR (decide (n18 ≥ 0))
        (CALL Pg W F_ref13_has [(.slice zp0 zl1 zl2), (.int .i64 n18)]
          (fun v22 => TYB v22 fun b24 =>
            BR b24
              (J_ref13_most_2 W R true zp0 zl1 zl2 za3 nx0 x14 l15 c16 b17 n18)
              (RDL (Addr.add za3 0) fun x146 l147 c148 =>
                RDL (Addr.add za3 1) fun x149 l150 c151 =>
                  CALL Pg W F_ref13_can [(.agg #[(.slice x146 l147 c148), (.slice x149 l150 c151)]), (.int .i64 n18), (.int .i64 (↑zl1 : Int))]
                    (fun v152 => TYB v152 fun b154 =>
                      J_ref13_most_2 W R (!b154) zp0 zl1 zl2 za3 nx0 x14 l15 c16 b17 n18)
                      (fun e153 => R (.panicked e153))))
            (fun e23 => R (.panicked e23)))
        (J_ref13_most_2 W R false zp0 zl1 zl2 za3 nx0 x14 l15 c16 b17 n18))
      (R (.returned (.slice x14 l15 c16)))
theorem B_ref13_most_0_eq (W : World) (R : Ending → Hp → Prop) (zp0 : Option Addr) (zl1 : Nat) (zl2 : Nat) (za3 : Addr) (x14 : Option Addr) (l15 : Nat) (c16 : Nat) (b17 : Bool) (n18 : Int) (nx0 : List Value → Hp → Prop) (j : Tm) : vc Pg W 57 rs_66 an_66 false (sub (bodyOf Try.f66) [1, 1, 1, 1, 0, 1, 0, 0]) 0 (KLoop [5, 6, 7] [1, 2, 4, 57] [(.slice zp0 zl1 zl2), (.pointer (some za3)), (.slice none 0 0), (.tuple #[])] nx0 (KBlk 0 (KS Pg W 57 rs_66 an_66 false (sub (bodyOf Try.f66) [1, 1, 1, 1, 1]) 0 (fin Pg W 57 rv_66 R)))) (known [5, 6, 7] [(.slice x14 l15 c16), (.bool b17), (.int .i64 n18)] (known [1, 2, 4, 57] [(.slice zp0 zl1 zl2), (.pointer (some za3)), (.slice none 0 0), (.tuple #[])] j)) = B_ref13_most_0 W R zp0 zl1 zl2 za3 x14 l15 c16 b17 n18 nx0 := by kernel_rfl
def N_ref13_most_0 (I : Option Addr → Nat → Nat → Bool → Int → Hp → Prop) (μ : Option Addr → Nat → Nat → Bool → Int → Hp → Nat) (x140 : Option Addr) (l150 : Nat) (c160 : Nat) (b170 : Bool) (n180 : Int) (s : Hp) (vs : List Value) : Hp → Prop := fun s' => ∃ x14 l15 c16 b17 n18, vs = [(.slice x14 l15 c16), (.bool b17), (.int .i64 n18)] ∧ I x14 l15 c16 b17 n18 s' ∧ μ x14 l15 c16 b17 n18 s' < μ x140 l150 c160 b170 n180 s
theorem L_ref13_most_0_rule (W : World) (R : Ending → Hp → Prop) (zp0 : Option Addr) (zl1 : Nat) (zl2 : Nat) (za3 : Addr) (I : Option Addr → Nat → Nat → Bool → Int → Hp → Prop) (μ : Option Addr → Nat → Nat → Bool → Int → Hp → Nat) (x140 : Option Addr) (l150 : Nat) (c160 : Nat) (b170 : Bool) (n180 : Int) (s : Hp) (h0 : I x140 l150 c160 b170 n180 s)
    (hr : ∀ (x14 : Option Addr) (l15 : Nat) (c16 : Nat) (b17 : Bool) (n18 : Int) (s : Hp), I x14 l15 c16 b17 n18 s → B_ref13_most_0 W R zp0 zl1 zl2 za3 x14 l15 c16 b17 n18 (fun vs => N_ref13_most_0 I μ x14 l15 c16 b17 n18 s vs) s) : L_ref13_most_0 W R zp0 zl1 zl2 za3 x140 l150 c160 b170 n180 s := by
  refine ⟨fun vs s => ∃ x14 l15 c16 b17 n18, vs = [(.slice x14 l15 c16), (.bool b17), (.int .i64 n18)] ∧ I x14 l15 c16 b17 n18 s, fun vs s => (match vs with | [.slice x14 l15 c16, .bool b17, .int _ n18] => μ x14 l15 c16 b17 n18 s | _ => 0), ⟨⟨⟨_, _, _, rfl⟩, ⟨⟨_, rfl⟩, ⟨⟨_, rfl⟩, trivial⟩⟩⟩, ⟨_, _, _, _, _, rfl, h0⟩⟩, ?_⟩
  intro x14 l15 c16 b17 n18 s hI j
  obtain ⟨x14', l15', c16', b17', n18', hy, hI⟩ := hI
  have hI' : I x14 l15 c16 b17 n18 s := by cases hy; exact hI
  have hh := hr x14 l15 c16 b17 n18 s hI'
  rw [← B_ref13_most_0_eq W R zp0 zl1 zl2 za3 x14 l15 c16 b17 n18 _ j] at hh
  refine vc_mono ?_ _ _ hh
  exact KLoop_mono (fun vs s' h => by obtain ⟨x141, l151, c161, b171, n181, rfl, h1, h2⟩ := h; exact ⟨⟨⟨_, _, _, rfl⟩, ⟨⟨_, rfl⟩, ⟨⟨_, rfl⟩, trivial⟩⟩⟩, ⟨_, _, _, _, _, rfl, h1⟩, h2⟩)
def T_ref13_most (W : World) (x1 : Option Addr) (l2 : Nat) (c3 : Nat) (x4 : Option Addr) (l5 : Nat) (c6 : Nat) (x7 : Option Addr) (l8 : Nat) (c9 : Nat) (R : Ending → Hp → Prop) : Hp → Prop :=
  NEW 25 [(.slice x1 l2 c3), (.slice x4 l5 c6)] fun B10 =>
    RDL (Addr.add ⟨B10, 0, none⟩ 1) fun x11 l12 c13 =>
      BR ((↑l8 : Int) == (↑l12 : Int))
        (R (.returned (.slice x7 l8 c9)))
        (L_ref13_most_0 W R x7 l8 c9 ⟨B10, 0, none⟩ none 0 0 false (-1))
theorem T_ref13_most_eq (W : World) (x1 : Option Addr) (l2 : Nat) (c3 : Nat) (x4 : Option Addr) (l5 : Nat) (c6 : Nat) (x7 : Option Addr) (l8 : Nat) (c9 : Nat) (R : Ending → Hp → Prop) : vfun Pg W an_66 Try.f66 [(.agg #[(.slice x1 l2 c3), (.slice x4 l5 c6)]), (.slice x7 l8 c9)] R = T_ref13_most W x1 l2 c3 x4 l5 c6 x7 l8 c9 R := by kernel_rfl
theorem does_ref13_most (W : World) (x1 : Option Addr) (l2 : Nat) (c3 : Nat) (x4 : Option Addr) (l5 : Nat) (c6 : Nat) (x7 : Option Addr) (l8 : Nat) (c9 : Nat) (R : Ending → Hp → Prop) (s : Hp) (h : T_ref13_most W x1 l2 c3 x4 l5 c6 x7 l8 c9 R s) : Does Pg W F_ref13_most #[(.agg #[(.slice x1 l2 c3), (.slice x4 l5 c6)]), (.slice x7 l8 c9)] s R :=
  does_of_vfun Pg W an_66 Try.func66 rfl (by kernel_rfl) (by rw [T_ref13_most_eq]; exact h)
def an_69 : Nat → Ann := fun b => match b with
  | 0 => { ms := [3, 4], ks := [.i .i64, .i .i64], us := [0, 13], rt := false, ex := [] }
  | _ => {}
abbrev rv_69 : List ResultVar := [.tmp 2]
abbrev rs_69 : List Nat := [13, 2]
def L_ref13_power_0 (W : World) (R : Ending → Hp → Prop) (zn0 : Int) (n2 : Int) (n3 : Int) : Hp → Prop :=
  LOOPN [.i .i64, .i .i64] (fun ys next s => ∀ j : Tm, vc Pg W 13 rs_69 an_69 false (sub (bodyOf Try.f69) [1, 1, 0, 1, 0, 0]) 0 (KLoop [3, 4] [0, 13] [(.int .i64 zn0), (.tuple #[])] next (KBlk 0 (KS Pg W 13 rs_69 an_69 false (sub (bodyOf Try.f69) [1, 1, 1]) 0 (fin Pg W 13 rv_69 R)))) (known [3, 4] ys (known [0, 13] [(.int .i64 zn0), (.tuple #[])] j)) s) [(.int .i64 n2), (.int .i64 n3)]
def B_ref13_power_0 (W : World) (R : Ending → Hp → Prop) (zn0 : Int) (n2 : Int) (n3 : Int) (nx0 : List Value → Hp → Prop) : Hp → Prop :=
  BR (decide (n3 < zn0))
    (NX [(.int .i64 zn0), (.tuple #[])] [(.int .i64 zn0), (.tuple #[])] (nx0 [(.int .i64 (IntKind.wrap .i64 (2 * n2))), (.int .i64 (IntKind.wrap .i64 (n3 + 1)))]))
    (R (.returned (.int .i64 n2)))
theorem B_ref13_power_0_eq (W : World) (R : Ending → Hp → Prop) (zn0 : Int) (n2 : Int) (n3 : Int) (nx0 : List Value → Hp → Prop) (j : Tm) : vc Pg W 13 rs_69 an_69 false (sub (bodyOf Try.f69) [1, 1, 0, 1, 0, 0]) 0 (KLoop [3, 4] [0, 13] [(.int .i64 zn0), (.tuple #[])] nx0 (KBlk 0 (KS Pg W 13 rs_69 an_69 false (sub (bodyOf Try.f69) [1, 1, 1]) 0 (fin Pg W 13 rv_69 R)))) (known [3, 4] [(.int .i64 n2), (.int .i64 n3)] (known [0, 13] [(.int .i64 zn0), (.tuple #[])] j)) = B_ref13_power_0 W R zn0 n2 n3 nx0 := by kernel_rfl
def N_ref13_power_0 (I : Int → Int → Hp → Prop) (μ : Int → Int → Hp → Nat) (n20 : Int) (n30 : Int) (s : Hp) (vs : List Value) : Hp → Prop := fun s' => ∃ n2 n3, vs = [(.int .i64 n2), (.int .i64 n3)] ∧ I n2 n3 s' ∧ μ n2 n3 s' < μ n20 n30 s
theorem L_ref13_power_0_rule (W : World) (R : Ending → Hp → Prop) (zn0 : Int) (I : Int → Int → Hp → Prop) (μ : Int → Int → Hp → Nat) (n20 : Int) (n30 : Int) (s : Hp) (h0 : I n20 n30 s)
    (hr : ∀ (n2 : Int) (n3 : Int) (s : Hp), I n2 n3 s → B_ref13_power_0 W R zn0 n2 n3 (fun vs => N_ref13_power_0 I μ n2 n3 s vs) s) : L_ref13_power_0 W R zn0 n20 n30 s := by
  refine ⟨fun vs s => ∃ n2 n3, vs = [(.int .i64 n2), (.int .i64 n3)] ∧ I n2 n3 s, fun vs s => (match vs with | [.int _ n2, .int _ n3] => μ n2 n3 s | _ => 0), ⟨⟨⟨_, rfl⟩, ⟨⟨_, rfl⟩, trivial⟩⟩, ⟨_, _, rfl, h0⟩⟩, ?_⟩
  intro n2 n3 s hI j
  obtain ⟨n2', n3', hy, hI⟩ := hI
  have hI' : I n2 n3 s := by cases hy; exact hI
  have hh := hr n2 n3 s hI'
  rw [← B_ref13_power_0_eq W R zn0 n2 n3 _ j] at hh
  refine vc_mono ?_ _ _ hh
  exact KLoop_mono (fun vs s' h => by obtain ⟨n21, n31, rfl, h1, h2⟩ := h; exact ⟨⟨⟨_, rfl⟩, ⟨⟨_, rfl⟩, trivial⟩⟩, ⟨_, _, rfl, h1⟩, h2⟩)
def T_ref13_power (W : World) (n1 : Int) (R : Ending → Hp → Prop) : Hp → Prop :=
  L_ref13_power_0 W R n1 1 0
theorem T_ref13_power_eq (W : World) (n1 : Int) (R : Ending → Hp → Prop) : vfun Pg W an_69 Try.f69 [(.int .i64 n1)] R = T_ref13_power W n1 R := by kernel_rfl
theorem does_ref13_power (W : World) (n1 : Int) (R : Ending → Hp → Prop) (s : Hp) (h : T_ref13_power W n1 R s) : Does Pg W F_ref13_power #[(.int .i64 n1)] s R :=
  does_of_vfun Pg W an_69 Try.func69 rfl (by kernel_rfl) (by rw [T_ref13_power_eq]; exact h)
end Go.Proofs.Ytfaeokcbfnlgbaa.G

/- Prize: the document's Many, most, Most. -/
set_option linter.unusedSimpArgs false
set_option linter.unusedVariables false
set_option maxRecDepth 20000
namespace Go.Proofs.Ytfaeokcbfnlgbaa.G
open Go.V
section
variable {W : World} {K : VK} {E : List PanicEntry → Hp → Prop} {s : Hp} {T : PT}
theorem cntG_take {ds : List Int} {k : Nat} (h : k < ds.length) : cntG (ds.take (k + 1)) = cntG (ds.take k) + if ds.getD k 0 ≥ 0 then 1 else 0 := by
  unfold cntG
  rw [List.take_add_one, List.getElem?_eq_getElem h, getD_lt h, List.filter_append, List.length_append]
  congr 1
  show (List.filter _ [ds[k]]).length = _
  by_cases h1 : ds[k] ≥ 0
  · rw [if_pos h1, List.filter_cons, if_pos (decide_eq_true h1)]; rfl
  · rw [if_neg h1, List.filter_cons, if_neg (by simpa using h1)]; rfl
theorem cntG_le (ds : List Int) : cntG ds ≤ ds.length := List.length_filter_le _ _
theorem f_Many {x : Option Addr} {c l : Nat} {ds : List Int} (hx : RowAt s x (ints ds)) (hl : l = ds.length) (h8 : ds.length ≤ 100000) (h : K (.int .i64 (cntG ds : Nat)) s) : CALL Pg W F_ref13_Many [.slice x l c] K E s := by
  subst hl
  refine does_ref13_Many W x ds.length c _ s ?_
  unfold T_ref13_Many
  refine L_ref13_Many_0_rule W _ x ds.length c (fun n4 n5 t => t = s ∧ ∃ k : Nat, k ≤ ds.length ∧ n5 = k ∧ n4 = (cntG (ds.take k) : Nat)) (fun _ n5 _ => ((ds.length : Int) - n5).toNat) 0 0 s ⟨rfl, 0, by omega, rfl, rfl⟩ ?_
  rintro n4 n5 t ⟨rfl, k, hk, rfl, rfl⟩
  unfold B_ref13_Many_0
  refine BR_dec (fun h1 => ?_) (fun h1 => ?_)
  · have hkl : k < ds.length := by omega
    obtain ⟨a, ha, g⟩ := row_int hx hkl
    have hc := cntG_take hkl
    have hle := cntG_le (ds.take k)
    rw [List.length_take] at hle
    refine IXS_at ha hkl ?_
    refine ⟨_, g, ?_⟩
    refine BR_dec (fun h2 => ?_) (fun h2 => ?_)
    · rw [if_pos h2] at hc
      refine ⟨rfl, _, _, rfl, ⟨rfl, k + 1, hkl, wrap_succ (by omega), ?_⟩, ms_succ hkl (by omega)⟩
      rw [hc, wrap_succ (by omega)]
    · rw [if_neg h2] at hc
      refine ⟨rfl, _, _, rfl, ⟨rfl, k + 1, hkl, wrap_succ (by omega), ?_⟩, ms_succ hkl (by omega)⟩
      rw [hc]; rfl
  · have hkl : k = ds.length := by omega
    subst hkl
    rw [List.take_length]
    exact h
theorem f_most {x y : Option Addr} {c c' : Nat} (hok : okP T = true) (hx : MnAt s x T.men) (hy : PzAt s y T.list) : ∀ (r : Nat) (b : List (Option Nat)) (u : Hp) (q : Option Addr) (cq : Nat) (K : VK) (E : List PanicEntry → Hp → Prop), b.length + r = T.z → Ext s u → RowAt u q (ints (manL b)) →
    (∀ u' w cw, Ext u u' → RowAt u' w (ints (manL (b ++ bestG T r b.length (freeG b)))) → K (.slice w T.z cw) u') → CALL Pg W F_ref13_most [.agg #[.slice x T.n c, .slice y T.z c'], .slice q b.length cq] K E u := by
  have hv := okP_vd hok
  have h8 := hv.n8
  have h6 := hv.z6
  intro r
  induction r with
  | zero =>
    intro b u q cq K E hb eu hq h
    refine does_ref13_most W x T.n c y T.z c' q b.length cq _ u ?_
    unfold T_ref13_most
    refine ne2 fun s1 e1 z1 o1 o2 => ?_
    refine ⟨_, _, _, o2.cell, ?_⟩
    refine BR_eq (fun h1 => ?_) (fun h1 => absurd (by omega) h1)
    have := h s1 q cq e1 (by
      have e : bestG T 0 b.length (freeG b) = [] := rfl
      rw [e, List.append_nil]; exact hq.ext e1)
    have e : b.length = T.z := hb
    rw [e]; exact this
  | succ r ih =>
    intro b u q cq K E hb eu hq h
    have hbz : b.length < T.z := by omega
    refine does_ref13_most W x T.n c y T.z c' q b.length cq _ u ?_
    unfold T_ref13_most
    refine ne2 fun s1 e1 z1 o1 o2 => ?_
    refine ⟨_, _, _, o2.cell, ?_⟩
    refine BR_eq (fun h1 => absurd h1 (by omega)) (fun _ => ?_)
    have hml : (manL b).length = b.length := by unfold manL; rw [List.length_map]
    refine L_ref13_most_0_rule W _ q b.length cq ⟨u.size, 0, none⟩ (fun x14 l15 c16 b17 n18 t => Ext s1 t ∧ ∃ k : Nat, k ≤ T.n + 1 ∧ n18 = (k : Int) - 1 ∧ b17 = decide (0 < k) ∧ (0 < k → l15 = T.z ∧ RowAt t x14 (ints (manL (b ++ stG T r b.length (freeG b) (k - 1))))))
      (fun _ _ _ _ n18 _ => ((T.n : Int) - n18).toNat) none 0 0 false (-1) s1 ⟨Ext.refl _, 0, by omega, rfl, rfl, fun hh => by omega⟩ ?_
    rintro x14 l15 c16 b17 n18 t ⟨et, k, hk, rfl, rfl, hres⟩
    unfold B_ref13_most_0
    have eut := e1.trans et
    have est := eu.trans eut
    have o1t := et.cell o1.cell
    have o2t := et.cell o2.cell
    refine ⟨_, _, _, o1t, ?_⟩
    have hw : IntKind.i64.wrap (((k : Int) - 1) + 1) = ((k + 1 : Nat) : Int) - 1 := by rw [wrap_i64 (by omega) (by omega)]; omega
    refine BR_dec (fun h1 => ?_) (fun h1 => ?_)
    · have hkn : k ≤ T.n := by omega
      have hms : ((T.n : Int) - (((k + 1 : Nat) : Int) - 1)).toNat < ((T.n : Int) - ((k : Int) - 1)).toNat := by omega
      generalize hnx : (fun vs => N_ref13_most_0 _ _ _ _ _ _ _ t vs) = nx
      -- somebody who is not asked
      have skip : 0 < k → (freeG b (k - 1) && canP T (k - 1) b.length) = false → ∀ t', Ext t t' → J_ref13_most_2 W (endK K E) true q b.length cq ⟨u.size, 0, none⟩ nx x14 l15 c16 (decide (0 < k)) ((k : Int) - 1) t' := by
        intro h0 hno t ft
        have et := et.trans ft
        have eut := eut.trans ft
        have est := est.trans ft
        have o1t := ft.cell o1t
        have o2t := ft.cell o2t
        have hres : 0 < k → l15 = T.z ∧ RowAt t x14 (ints (manL (b ++ stG T r b.length (freeG b) (k - 1)))) := fun h0 => ⟨(hres h0).1, (hres h0).2.ext ft⟩
        unfold J_ref13_most_2
        obtain ⟨g1, g2⟩ := hres h0
        rw [← hnx]
        refine ⟨rfl, _, _, _, _, _, rfl, ⟨et, k + 1, by omega, hw, ?_, fun _ => ⟨g1, ?_⟩⟩, ?_⟩
        · rw [decide_eq_true h0, decide_eq_true (show 0 < k + 1 by omega)]
        · have : stG T r b.length (freeG b) (k + 1 - 1) = stG T r b.length (freeG b) (k - 1) := by
            have e : k + 1 - 1 = (k - 1) + 1 := by omega
            rw [e]; exact stG_no hno
          rw [this]; exact g2
        · rw [hw]; exact hms
      -- a prize more
      have try1 : ∀ o : Option Nat, manI o = (k : Int) - 1 → (k = 0 → o = none) → (0 < k → o = some (k - 1) ∧ (freeG b (k - 1) && canP T (k - 1) b.length) = true) → ∀ t', Ext t t' → J_ref13_most_2 W (endK K E) false q b.length cq ⟨u.size, 0, none⟩ nx x14 l15 c16 (decide (0 < k)) ((k : Int) - 1) t' := by
        intro o ho hk0 hk1 t ft
        have et := et.trans ft
        have eut := eut.trans ft
        have est := est.trans ft
        have o1t := ft.cell o1t
        have o2t := ft.cell o2t
        have hres : 0 < k → l15 = T.z ∧ RowAt t x14 (ints (manL (b ++ stG T r b.length (freeG b) (k - 1)))) := fun h0 => ⟨(hres h0).1, (hres h0).2.ext ft⟩
        unfold J_ref13_most_2
        have hbo : manL (b ++ [o]) = manL b ++ [(k : Int) - 1] := by rw [manL_app]; unfold manL; rw [List.map_singleton, ho]
        have hlo : (b ++ [o]).length = b.length + 1 := by simp
        have fin : ∀ (v : Hp) (w : Option Addr) (cw : Nat), Ext t v → RowAt v w (ints (manL (b ++ [o]))) →
            CALL Pg W F_ref13_most [.agg #[.slice x T.n c, .slice y T.z c'], .slice w (b.length + 1) cw] (fun v64 => TYL v64 fun x66 l67 c68 => J_ref13_most_1 W (endK K E) (decide (0 < k)) q b.length cq ⟨u.size, 0, none⟩ nx x66 l67 c68 ((k : Int) - 1) x14 l15 c16) (fun e => endK K E (.panicked e)) v := by
          intro v w cw ev hw'
          rw [← hlo]
          refine ih (b ++ [o]) v w cw _ _ (by omega) (est.trans ev) hw' fun v' w' cw' ev' hr => ?_
          try simp only [TUP_mk, AGG_mk, HD_mk, NL_mk, TYI_mk, TYB_mk, TYP_mk, TYL_mk, TYS_mk, TYM_mk, SO_mk, NX_mk, endK_mk, endK_mk', add_0]
          unfold J_ref13_most_1
          rw [hlo, List.append_assoc] at hr
          have etv := ev.trans ev'
          by_cases h0 : 0 < k
          · obtain ⟨ho', hcan⟩ := hk1 h0
            obtain ⟨g1, g2⟩ := hres h0
            subst ho'
            rw [freeG_some] at hr
            have hcs : ([some (k - 1)] ++ bestG T r (b.length + 1) (less (freeG b) (k - 1))) = some (k - 1) :: bestG T r (b.length + 1) (less (freeG b) (k - 1)) := rfl
            rw [hcs] at hr
            refine BR_ff (by rw [decide_eq_true h0]; rfl) ?_
            have hlen1 : T.z = (manL (b ++ (some (k - 1) :: bestG T r (b.length + 1) (less (freeG b) (k - 1))))).length := by unfold manL; simp [bestG_len]; omega
            have hlen2 : T.z = (manL (b ++ stG T r b.length (freeG b) (k - 1))).length := by unfold manL; simp [stG_len]; omega
            refine f_Many hr hlen1 (by omega) ?_
            try simp only [TUP_mk, AGG_mk, HD_mk, NL_mk, TYI_mk, TYB_mk, TYP_mk, TYL_mk, TYS_mk, TYM_mk, SO_mk, NX_mk, endK_mk, endK_mk', add_0]
            refine f_Many (g2.ext etv) (by rw [g1]; exact hlen2) (by omega) ?_
            try simp only [TUP_mk, AGG_mk, HD_mk, NL_mk, TYI_mk, TYB_mk, TYP_mk, TYL_mk, TYS_mk, TYM_mk, SO_mk, NX_mk, endK_mk, endK_mk', add_0]
            rw [cntG_man, cntG_man, many_app, many_app]
            have hs := stG_succ (r := r) hcan
            have ek : k + 1 - 1 = (k - 1) + 1 := by omega
            unfold J_ref13_most_0
            refine BR_dec (fun h2 => ?_) (fun h2 => ?_)
            · rw [if_pos (by omega)] at hs
              rw [← hnx]
              refine ⟨rfl, _, _, _, _, _, rfl, ⟨et.trans etv, k + 1, by omega, hw, (decide_eq_true (show 0 < k + 1 by omega)).symm, fun _ => ⟨rfl, ?_⟩⟩, ?_⟩
              · rw [ek, hs]; exact hr
              · rw [hw]; exact hms
            · rw [if_neg (by omega)] at hs
              rw [← hnx]
              refine ⟨rfl, _, _, _, _, _, rfl, ⟨et.trans etv, k + 1, by omega, hw, by rw [decide_eq_true h0, decide_eq_true (show 0 < k + 1 by omega)], fun _ => ⟨g1, ?_⟩⟩, ?_⟩
              · rw [ek, hs]; exact g2.ext etv
              · rw [hw]; exact hms
          · have hkz : k = 0 := by omega
            subst hkz
            have ho' := hk0 rfl
            subst ho'
            rw [freeG_none] at hr
            refine BR_tt rfl ?_
            unfold J_ref13_most_0
            refine BR_tt rfl ?_
            rw [← hnx]
            refine ⟨rfl, _, _, _, _, _, rfl, ⟨et.trans etv, 1, by omega, hw, rfl, fun _ => ⟨rfl, ?_⟩⟩, ?_⟩
            · rw [show 1 - 1 = 0 from rfl, stG_zero]; exact hr
            · rw [hw]; exact hms
        refine ⟨_, _, _, o1t, _, _, _, o2t, ?_⟩
        have rd : ∀ v, Ext t v → (RDL (Addr.add ⟨u.size, 0, none⟩ 0) fun x33 l34 c35 => RDL (Addr.add ⟨u.size, 0, none⟩ 1) fun x36 l37 c38 => fun _ => ((.agg #[(.slice x33 l34 c35), (.slice x36 l37 c38)]) : Value) = (.agg #[(.slice x T.n c), (.slice y T.z c')])) v := fun v ev => ⟨_, _, _, ev.cell o1t, _, _, _, ev.cell o2t, rfl⟩
        have hqt : ∀ v, Ext t v → RowAt v q (ints (manL b)) := fun v ev => hq.ext (eut.trans ev)
        have hmb : (ints (manL b)).length = b.length * 1 := by rw [ints_len, hml]; omega
        have fr0 : ∀ (v : Hp) (B lo : Nat), lo ≤ B → Fr lo v (some ⟨B, 0, none⟩) 0 0 1 [] := fun v B lo hB => ⟨⟨Nat.le_refl _, fun i hi => by omega⟩, rfl, fun a ha => by cases ha; exact hB, by omega⟩
        have rown : ∀ (v : Hp) (B : Nat), cellAt v ⟨B, 0, none⟩ = some (.int .i64 ((k : Int) - 1)) → RowAt v (some ⟨B, 0, none⟩) [.int .i64 ((k : Int) - 1)] := fun v B hc i hi => by
          have hi0 : i = 0 := by simp at hi; omega
          subst hi0
          exact ⟨_, rfl, hc⟩
        have last : ∀ v w cw, Fr t.size v w (0 + b.length + 1) cw 1 ([] ++ ints (manL b) ++ [.int .i64 ((k : Int) - 1)]) → RowAt v w (ints (manL (b ++ [o]))) := fun v w cw f => by
          rw [hbo, ints_app]
          have := f.row
          rw [List.nil_append] at this
          exact this
        have hz0 : 0 + b.length + 1 = b.length + 1 := by omega
        refine CONJ_two ?_ ?_
        · refine NEW_rule fun t1 f1 y1 n1 _ => ?_
          refine ANDS_i (rd t1 f1) ?_
          refine CONJ_two ?_ ?_
          · refine APP_fr (lo := t.size) (fr0 t1 _ _ (Nat.le_refl _)) f1.1 (ws := ints (manL b)) (hqt t1 f1) hmb zc_3 rfl (by omega) (ints_one _) (by omega) fun t2 x2 c2 k2 hx2 g2 => ?_
            have f2 : Ext t t2 := kp_nil f1 (fun b hb => by obtain ⟨a, ha, rfl⟩ := hb; cases ha; exact Nat.le_refl _) k2
            refine ANDS_i (rd t2 f2) ?_
            refine ne1 fun t3 f3 y3 n3 => ?_
            have f03 := f2.trans f3
            refine ANDS_i (rd t3 f03) ?_
            refine APP_fr (lo := t.size) (g2.ext f3) f03.1 (ws := [.int .i64 ((k : Int) - 1)]) (rown t3 _ n3.cell) rfl zc_3 rfl (by omega) (by simp [oneCell]) (by omega) fun t4 x4 c4 k4 hx4 g4 => ?_
            have f4 : Ext t t4 := kp_nil f03 (fun b hb => by obtain ⟨a, ha, rfl⟩ := hb; exact g2.fr a ha) k4
            refine ANDS_i (rd t4 f4) ?_
            rw [hz0]
            exact fin t4 x4 c4 f4 (last _ _ _ g4)
          · refine ne1 fun t2 f2 y2 n2 => ?_
            have f02 := f1.trans f2
            refine ANDS_i (rd t2 f02) ?_
            refine APP_fr (lo := t.size) (fr0 t2 _ _ (Nat.le_refl _)) f02.1 (ws := ints (manL b)) (hqt t2 f02) hmb zc_3 rfl (by omega) (ints_one _) (by omega) fun t3 x3 c3 k3 hx3 g3 => ?_
            have f3 : Ext t t3 := kp_nil f02 (fun b hb => by obtain ⟨a, ha, rfl⟩ := hb; cases ha; exact Nat.le_refl _) k3
            have n3 : Own t3 ⟨t1.size, 0, none⟩ (.int .i64 ((k : Int) - 1)) := k3.own (fun hb => by obtain ⟨a, ha, hb⟩ := hb; cases ha; have hb' : t.size = t1.size := hb; omega) n2
            refine ANDS_i (rd t3 f3) ?_
            refine APP_fr (lo := t.size) g3 f3.1 (ws := [.int .i64 ((k : Int) - 1)]) (rown t3 _ n3.cell) rfl zc_3 rfl (by omega) (by simp [oneCell]) (by omega) fun t4 x4 c4 k4 hx4 g4 => ?_
            have f4 : Ext t t4 := kp_nil f3 (fun b hb => by obtain ⟨a, ha, rfl⟩ := hb; exact g3.fr a ha) k4
            refine ANDS_i (rd t4 f4) ?_
            rw [hz0]
            exact fin t4 x4 c4 f4 (last _ _ _ g4)
        · refine ne1 fun t1 f1 y1 n1 => ?_
          refine ANDS_i (rd t1 f1) ?_
          refine NEW_rule fun t2 f2 y2 _ _ => ?_
          have f02 := f1.trans f2
          refine ANDS_i (rd t2 f02) ?_
          refine APP_fr (lo := t.size) (fr0 t2 _ _ f1.1) f02.1 (ws := ints (manL b)) (hqt t2 f02) hmb zc_3 rfl (by omega) (ints_one _) (by omega) fun t3 x3 c3 k3 hx3 g3 => ?_
          have f3 : Ext t t3 := kp_nil f02 (fun b hb => by obtain ⟨a, ha, rfl⟩ := hb; cases ha; exact f1.1) k3
          have n3 : Own t3 ⟨t.size, 0, none⟩ (.int .i64 ((k : Int) - 1)) := k3.own (fun hb => by obtain ⟨a, ha, hb⟩ := hb; cases ha; have hb' : t1.size = t.size := hb; omega) (f2.own n1)
          refine ANDS_i (rd t3 f3) ?_
          refine APP_fr (lo := t.size) g3 f3.1 (ws := [.int .i64 ((k : Int) - 1)]) (rown t3 _ n3.cell) rfl zc_3 rfl (by omega) (by simp [oneCell]) (by omega) fun t4 x4 c4 k4 hx4 g4 => ?_
          have f4 : Ext t t4 := kp_nil f3 (fun b hb => by obtain ⟨a, ha, rfl⟩ := hb; exact g3.fr a ha) k4
          refine ANDS_i (rd t4 f4) ?_
          rw [hz0]
          exact fin t4 x4 c4 f4 (last _ _ _ g4)
      refine BR_dec (fun h2 => ?_) (fun h2 => ?_)
      · have h0 : 0 < k := by omega
        obtain ⟨j, rfl⟩ : ∃ j, k = j + 1 := ⟨k - 1, by omega⟩
        have ej : ((j + 1 : Nat) : Int) - 1 = (j : Nat) := by omega
        have ej2 : j + 1 - 1 = j := rfl
        rw [ej2] at skip try1
        rw [ej] at skip try1 ⊢
        refine f_has (hq.ext eut) hml.symm (by omega) ?_
        try simp only [TUP_mk, AGG_mk, HD_mk, NL_mk, TYI_mk, TYB_mk, TYP_mk, TYL_mk, TYS_mk, TYM_mk, SO_mk, NX_mk, endK_mk, endK_mk', add_0]
        refine BR_bool (fun h3 => ?_) (fun h3 => ?_)
        · have hm := man_mem_iff.1 (of_decide_eq_true h3)
          refine skip h0 ?_ _ (Ext.refl _)
          have : freeG b j = false := by unfold freeG tkF; rw [decide_eq_true hm]; rfl
          rw [this]; rfl
        · have hm : ¬ some j ∈ b := fun hm => (of_decide_eq_false h3) (man_mem_iff.2 hm)
          have hf : freeG b j = true := by unfold freeG tkF; rw [decide_eq_false hm]; rfl
          refine ⟨_, _, _, o1t, _, _, _, o2t, ?_⟩
          refine f_can (hx.ext est) (hy.ext est) (by omega) hbz fun t1 f1 => ?_
          try simp only [TUP_mk, AGG_mk, HD_mk, NL_mk, TYI_mk, TYB_mk, TYP_mk, TYL_mk, TYS_mk, TYM_mk, SO_mk, NX_mk, endK_mk, endK_mk', add_0]
          cases hcan : canP T j b.length with
          | true => exact try1 (some j) rfl (fun hh => by omega) (fun _ => ⟨rfl, by rw [hf, hcan]; rfl⟩) t1 f1
          | false => exact skip h0 (by rw [hf, hcan]; rfl) t1 f1
      · have h0 : k = 0 := by omega
        subst h0
        exact try1 none rfl (fun _ => rfl) (fun hh => by omega) _ (Ext.refl _)
    · have hkn : k = T.n + 1 := by omega
      subst hkn
      obtain ⟨g1, g2⟩ := hres (by omega)
      subst g1
      have := h t x14 c16 eut (by
        have e : T.n + 1 - 1 = T.n := by omega
        rw [e, stG_full] at g2
        exact g2)
      exact this
theorem f_Most {x y : Option Addr} {c c' : Nat} (hx : MnAt s x T.men) (hy : PzAt s y T.list) (h : ∀ s' q cq, Ext s s' → RowAt s' q (ints (mostR T).2.1) → K (.tuple #[.int .i64 (mostR T).1, .slice q (mostR T).2.1.length cq, .int .i64 (mostR T).2.2]) s') :
    CALL Pg W F_ref13_Most [.agg #[.slice x T.n c, .slice y T.z c']] K E s := by
  refine does_ref13_Most W x T.n c y T.z c' _ s ?_
  unfold T_ref13_Most
  refine ne2 fun s1 e1 z1 o1 o2 => ?_
  refine ⟨_, _, _, o1.cell, _, _, _, o2.cell, ?_⟩
  refine f_check (hx.ext e1) (hy.ext e1) fun s2 e2 => ?_
  try simp only [TUP_mk, AGG_mk, HD_mk, NL_mk, TYI_mk, TYB_mk, TYP_mk, TYL_mk, TYS_mk, TYM_mk, SO_mk, NX_mk, endK_mk, endK_mk', add_0]
  have e02 := e1.trans e2
  cases hok : okP T with
  | false =>
    refine BR_ne (fun _ => ?_) (fun h3 => by cases h3)
    have := h s2 none 0 e02
    unfold mostR at this
    rw [hok] at this
    exact this (fun i hi => by simp [ints] at hi)
  | true =>
    have hv := okP_vd hok
    have h6 := hv.z6
    refine BR_ne (fun h3 => absurd rfl h3) (fun _ => ?_)
    refine ⟨_, _, _, e2.cell o1.cell, _, _, _, e2.cell o2.cell, ?_⟩
    refine f_most (b := []) hok (hx.ext e02) (hy.ext e02) T.z s2 none 0 _ _ (by simp) (Ext.refl _) (fun i hi => by simp [ints, manL] at hi) fun s3 w cw e3 hr => ?_
    try simp only [TUP_mk, AGG_mk, HD_mk, NL_mk, TYI_mk, TYB_mk, TYP_mk, TYL_mk, TYS_mk, TYM_mk, SO_mk, NX_mk, endK_mk, endK_mk', add_0]
    rw [freeG_nil, List.nil_append] at hr
    have hlen : T.z = (manL (bestG T T.z 0 allF)).length := by unfold manL; simp [bestG_len]
    have hr' : RowAt s3 w (ints (manL (bestG T T.z 0 allF))) := hr
    refine f_Many hr' hlen (by omega) ?_
    try simp only [TUP_mk, AGG_mk, HD_mk, NL_mk, TYI_mk, TYB_mk, TYP_mk, TYL_mk, TYS_mk, TYM_mk, SO_mk, NX_mk, endK_mk, endK_mk', add_0]
    rw [cntG_man, bestG_many]
    have := h s3 w cw (e02.trans e3)
    unfold mostR at this
    rw [if_pos hok] at this
    have := this hr'
    rw [← hlen] at this
    exact this
end
end Go.Proofs.Ytfaeokcbfnlgbaa.G

/- More of the functions' shallow texts, by gen.py. -/
set_option linter.unusedVariables false
set_option maxRecDepth 100000
namespace Go.Proofs.Ytfaeokcbfnlgbaa.G
open Go.V
def an_67 : Nat → Ann := fun b => match b with
  | _ => {}
abbrev rv_67 : List ResultVar := [.tmp 6]
abbrev rs_67 : List Nat := [33, 6]
def T_slices_Delete_api_Winner_api_Winner (W : World) (x1 : Option Addr) (l2 : Nat) (c3 : Nat) (n4 : Int) (n5 : Int) (R : Ending → Hp → Prop) : Hp → Prop :=
  SL3 Pg 22 (.slice x1 l2 c3) (some (.int .i64 n4)) (some (.int .i64 n5)) (.int .i64 (↑l2 : Int)) fun x6 l7 c8 =>
    BR (n4 == n5)
      (R (.returned (.slice x1 l2 c3)))
      (CONJ [
        SLS x1 c3 0 n4 4 fun x9 l10 c11 =>
          SLS x1 c3 n5 ↑l2 4 fun x12 l13 c14 =>
            APP Pg 48 4 x9 l10 c11 x12 l13 fun x15 l16 c17 =>
              SLS x15 c17 (↑l16 : Int) (↑l2 : Int) 4 fun x18 l19 c20 =>
                CLR Pg [22] (.slice x18 l19 c20) <|
                  R (.returned (.slice x15 l16 c17)),
        SLS x1 c3 n5 ↑l2 4 fun x21 l22 c23 =>
          SLS x1 c3 0 n4 4 fun x24 l25 c26 =>
            APP Pg 48 4 x24 l25 c26 x21 l22 fun x27 l28 c29 =>
              SLS x27 c29 (↑l28 : Int) (↑l2 : Int) 4 fun x30 l31 c32 =>
                CLR Pg [22] (.slice x30 l31 c32) <|
                  R (.returned (.slice x27 l28 c29))])
theorem T_slices_Delete_api_Winner_api_Winner_eq (W : World) (x1 : Option Addr) (l2 : Nat) (c3 : Nat) (n4 : Int) (n5 : Int) (R : Ending → Hp → Prop) : vfun Pg W an_67 Try.f67 [(.slice x1 l2 c3), (.int .i64 n4), (.int .i64 n5)] R = T_slices_Delete_api_Winner_api_Winner W x1 l2 c3 n4 n5 R := by kernel_rfl
theorem does_slices_Delete_api_Winner_api_Winner (W : World) (x1 : Option Addr) (l2 : Nat) (c3 : Nat) (n4 : Int) (n5 : Int) (R : Ending → Hp → Prop) (s : Hp) (h : T_slices_Delete_api_Winner_api_Winner W x1 l2 c3 n4 n5 R s) : Does Pg W F_slices_Delete_api_Winner_api_Winner #[(.slice x1 l2 c3), (.int .i64 n4), (.int .i64 n5)] s R :=
  does_of_vfun Pg W an_67 Try.func67 rfl (by kernel_rfl) (by rw [T_slices_Delete_api_Winner_api_Winner_eq]; exact h)
def an_68 : Nat → Ann := fun b => match b with
  | _ => {}
abbrev rv_68 : List ResultVar := [.tmp 2]
abbrev rs_68 : List Nat := [8, 2]
def T_slices_Clone_api_Winner_api_Winner (W : World) (x1 : Option Addr) (l2 : Nat) (c3 : Nat) (R : Ending → Hp → Prop) : Hp → Prop :=
  BR (Option.isNone x1)
    (R (.returned (.slice none 0 0)))
    (NEW 48 [] fun B4 =>
      APP Pg 48 4 (some ⟨B4, 0, none⟩) 0 0 x1 l2 fun x5 l6 c7 =>
        R (.returned (.slice x5 l6 c7)))
theorem T_slices_Clone_api_Winner_api_Winner_eq (W : World) (x1 : Option Addr) (l2 : Nat) (c3 : Nat) (R : Ending → Hp → Prop) : vfun Pg W an_68 Try.f68 [(.slice x1 l2 c3)] R = T_slices_Clone_api_Winner_api_Winner W x1 l2 c3 R := by kernel_rfl
theorem does_slices_Clone_api_Winner_api_Winner (W : World) (x1 : Option Addr) (l2 : Nat) (c3 : Nat) (R : Ending → Hp → Prop) (s : Hp) (h : T_slices_Clone_api_Winner_api_Winner W x1 l2 c3 R s) : Does Pg W F_slices_Clone_api_Winner_api_Winner #[(.slice x1 l2 c3)] s R :=
  does_of_vfun Pg W an_68 Try.func68 rfl (by kernel_rfl) (by rw [T_slices_Clone_api_Winner_api_Winner_eq]; exact h)
def an_70 : Nat → Ann := fun b => match b with
  | _ => {}
abbrev rv_70 : List ResultVar := [.tmp 2]
abbrev rs_70 : List Nat := [5, 2]
def T_slices_Collect_int (W : World) (v1 : Value) (R : Ending → Hp → Prop) : Hp → Prop :=
  CALL Pg W F_slices_AppendSeq_int_int [(.slice none 0 0), v1]
    (fun v2 => TYL v2 fun x4 l5 c6 =>
      R (.returned (.slice x4 l5 c6)))
      (fun e3 => R (.panicked e3))
theorem T_slices_Collect_int_eq (W : World) (v1 : Value) (R : Ending → Hp → Prop) : vfun Pg W an_70 Try.f70 [v1] R = T_slices_Collect_int W v1 R := by kernel_rfl
theorem does_slices_Collect_int (W : World) (v1 : Value) (R : Ending → Hp → Prop) (s : Hp) (h : T_slices_Collect_int W v1 R s) : Does Pg W F_slices_Collect_int #[v1] s R :=
  does_of_vfun Pg W an_70 Try.func70 rfl (by kernel_rfl) (by rw [T_slices_Collect_int_eq]; exact h)
def an_73 : Nat → Ann := fun b => match b with
  | _ => {}
abbrev rv_73 : List ResultVar := [.tmp 6]
abbrev rs_73 : List Nat := [95, 6]
def T_slices_Insert_int_int (W : World) (x1 : Option Addr) (l2 : Nat) (c3 : Nat) (n4 : Int) (x5 : Option Addr) (l6 : Nat) (c7 : Nat) (R : Ending → Hp → Prop) : Hp → Prop :=
  SLS x1 c3 n4 ↑l2 1 fun x8 l9 c10 =>
    BR ((↑l6 : Int) == 0)
      (R (.returned (.slice x1 l2 c3)))
      (BR (n4 == (↑l2 : Int))
        (APP Pg 3 1 x1 l2 c3 x5 l6 fun x11 l12 c13 =>
          R (.returned (.slice x11 l12 c13)))
        (BR (decide ((IntKind.wrap .i64 ((↑l2 : Int) + (↑l6 : Int))) > (↑c3 : Int)))
          (SLS x1 c3 0 n4 1 fun x14 l15 c16 =>
            APPZ Pg [26, 3] (.slice x14 l15 c16) (.int .i64 (IntKind.wrap .i64 ((IntKind.wrap .i64 ((↑l2 : Int) + (↑l6 : Int))) - n4))) fun x17 l18 c19 =>
              SLS x17 c19 n4 ↑l18 1 fun x20 l21 c22 =>
                COPY 1 x20 l21 x5 l6 fun n23 =>
                  CONJ [
                    SLS x17 c19 (IntKind.wrap .i64 (n4 + (↑l6 : Int))) ↑l18 1 fun x24 l25 c26 =>
                      SLS x1 c3 n4 ↑l2 1 fun x27 l28 c29 =>
                        COPY 1 x24 l25 x27 l28 fun n30 =>
                          R (.returned (.slice x17 l18 c19)),
                    SLS x1 c3 n4 ↑l2 1 fun x31 l32 c33 =>
                      SLS x17 c19 (IntKind.wrap .i64 (n4 + (↑l6 : Int))) ↑l18 1 fun x34 l35 c36 =>
                        COPY 1 x34 l35 x31 l32 fun n37 =>
                          R (.returned (.slice x17 l18 c19))])
          (SLS x1 c3 0 (IntKind.wrap .i64 ((↑l2 : Int) + (↑l6 : Int))) 1 fun x38 l39 c40 =>
            SLS x38 c40 (IntKind.wrap .i64 (n4 + (↑l6 : Int))) ↑l39 1 fun x41 l42 c43 =>
              EXT Pg 86 [(.slice x5 l6 c7), (.slice x41 l42 c43)] fun v44 =>
                TYB v44 fun b45 =>
                  BR (!b45)
                    (CONJ [
                      SLS x38 c40 (IntKind.wrap .i64 (n4 + (↑l6 : Int))) ↑l39 1 fun x46 l47 c48 =>
                        SLS x38 c40 n4 ↑l39 1 fun x49 l50 c51 =>
                          COPY 1 x46 l47 x49 l50 fun n52 =>
                            SLS x38 c40 n4 ↑l39 1 fun x53 l54 c55 =>
                              COPY 1 x53 l54 x5 l6 fun n56 =>
                                R (.returned (.slice x38 l39 c40)),
                      SLS x38 c40 n4 ↑l39 1 fun x57 l58 c59 =>
                        SLS x38 c40 (IntKind.wrap .i64 (n4 + (↑l6 : Int))) ↑l39 1 fun x60 l61 c62 =>
                          COPY 1 x60 l61 x57 l58 fun n63 =>
                            SLS x38 c40 n4 ↑l39 1 fun x64 l65 c66 =>
                              COPY 1 x64 l65 x5 l6 fun n67 =>
                                R (.returned (.slice x38 l39 c40))])
                    (SLS x38 c40 (↑l2 : Int) ↑l39 1 fun x68 l69 c70 =>
                      COPY 1 x68 l69 x5 l6 fun n71 =>
                        SLS x38 c40 n4 ↑l39 1 fun x72 l73 c74 =>
                          CALL Pg W F_slices_rotateRight_int [(.slice x72 l73 c74), (.int .i64 (↑l6 : Int))]
                            (fun v75 => TUP v75 fun q77 => NL q77 <|
                              R (.returned (.slice x38 l39 c40)))
                              (fun e76 => R (.panicked e76))))))
theorem T_slices_Insert_int_int_eq (W : World) (x1 : Option Addr) (l2 : Nat) (c3 : Nat) (n4 : Int) (x5 : Option Addr) (l6 : Nat) (c7 : Nat) (R : Ending → Hp → Prop) : vfun Pg W an_73 Try.f73 [(.slice x1 l2 c3), (.int .i64 n4), (.slice x5 l6 c7)] R = T_slices_Insert_int_int W x1 l2 c3 n4 x5 l6 c7 R := by kernel_rfl
theorem does_slices_Insert_int_int (W : World) (x1 : Option Addr) (l2 : Nat) (c3 : Nat) (n4 : Int) (x5 : Option Addr) (l6 : Nat) (c7 : Nat) (R : Ending → Hp → Prop) (s : Hp) (h : T_slices_Insert_int_int W x1 l2 c3 n4 x5 l6 c7 R s) : Does Pg W F_slices_Insert_int_int #[(.slice x1 l2 c3), (.int .i64 n4), (.slice x5 l6 c7)] s R :=
  does_of_vfun Pg W an_73 Try.func73 rfl (by kernel_rfl) (by rw [T_slices_Insert_int_int_eq]; exact h)
def an_74 : Nat → Ann := fun b => match b with
  | _ => {}
abbrev rv_74 : List ResultVar := [.tmp 2]
abbrev rs_74 : List Nat := [8, 2]
def T_slices_Clone_int_int (W : World) (x1 : Option Addr) (l2 : Nat) (c3 : Nat) (R : Ending → Hp → Prop) : Hp → Prop :=
  BR (Option.isNone x1)
    (R (.returned (.slice none 0 0)))
    (NEW 3 [] fun B4 =>
      APP Pg 3 1 (some ⟨B4, 0, none⟩) 0 0 x1 l2 fun x5 l6 c7 =>
        R (.returned (.slice x5 l6 c7)))
theorem T_slices_Clone_int_int_eq (W : World) (x1 : Option Addr) (l2 : Nat) (c3 : Nat) (R : Ending → Hp → Prop) : vfun Pg W an_74 Try.f74 [(.slice x1 l2 c3)] R = T_slices_Clone_int_int W x1 l2 c3 R := by kernel_rfl
theorem does_slices_Clone_int_int (W : World) (x1 : Option Addr) (l2 : Nat) (c3 : Nat) (R : Ending → Hp → Prop) (s : Hp) (h : T_slices_Clone_int_int W x1 l2 c3 R s) : Does Pg W F_slices_Clone_int_int #[(.slice x1 l2 c3)] s R :=
  does_of_vfun Pg W an_74 Try.func74 rfl (by kernel_rfl) (by rw [T_slices_Clone_int_int_eq]; exact h)
def an_75 : Nat → Ann := fun b => match b with
  | _ => {}
abbrev rv_75 : List ResultVar := [.tmp 4]
abbrev rs_75 : List Nat := [9, 4]
def T_slices_Contains_int_int (W : World) (x1 : Option Addr) (l2 : Nat) (c3 : Nat) (n4 : Int) (R : Ending → Hp → Prop) : Hp → Prop :=
  CALL Pg W F_slices_Index_int_int [(.slice x1 l2 c3), (.int .i64 n4)]
    (fun v5 => TYI .i64 v5 fun n7 =>
      R (.returned (.bool (decide (n7 ≥ 0)))))
      (fun e6 => R (.panicked e6))
theorem T_slices_Contains_int_int_eq (W : World) (x1 : Option Addr) (l2 : Nat) (c3 : Nat) (n4 : Int) (R : Ending → Hp → Prop) : vfun Pg W an_75 Try.f75 [(.slice x1 l2 c3), (.int .i64 n4)] R = T_slices_Contains_int_int W x1 l2 c3 n4 R := by kernel_rfl
theorem does_slices_Contains_int_int (W : World) (x1 : Option Addr) (l2 : Nat) (c3 : Nat) (n4 : Int) (R : Ending → Hp → Prop) (s : Hp) (h : T_slices_Contains_int_int W x1 l2 c3 n4 R s) : Does Pg W F_slices_Contains_int_int #[(.slice x1 l2 c3), (.int .i64 n4)] s R :=
  does_of_vfun Pg W an_75 Try.func75 rfl (by kernel_rfl) (by rw [T_slices_Contains_int_int_eq]; exact h)
def an_84 : Nat → Ann := fun b => match b with
  | 0 => { ms := [], ks := [.i .i64], us := [], rt := false, ex := [] }
  | _ => {}
abbrev rv_84 : List ResultVar := [.tmp 4]
abbrev rs_84 : List Nat := [13, 4]
def T_slices_AppendSeq_int_int (W : World) (x1 : Option Addr) (l2 : Nat) (c3 : Nat) (v4 : Value) (R : Ending → Hp → Prop) : Hp → Prop :=
  NEW 26 [(.slice x1 l2 c3)] fun B5 =>
    RNGN Pg W v4 1
      (fun y6 fin7 => HD y6 fun v8 r9 => TYI .i64 v8 fun n10 =>
        NL r9 <|
          RDL ⟨B5, 0, none⟩ fun x11 l12 c13 =>
            NEW 3 [(.int .i64 n10)] fun B14 =>
              APP Pg 3 1 x11 l12 c13 (some ⟨B14, 0, none⟩) 1 fun x15 l16 c17 =>
                WR (Addr.add ⟨B5, 0, none⟩ 0) (.slice x15 l16 c17) <|
                  fin7 none)
      (AFT
        (RDL ⟨B5, 0, none⟩ fun x18 l19 c20 =>
          R (.returned (.slice x18 l19 c20))) (FF) (EXL [] fun _ => FF))
theorem T_slices_AppendSeq_int_int_eq (W : World) (x1 : Option Addr) (l2 : Nat) (c3 : Nat) (v4 : Value) (R : Ending → Hp → Prop) : vfun Pg W an_84 Try.f84 [(.slice x1 l2 c3), v4] R = T_slices_AppendSeq_int_int W x1 l2 c3 v4 R := by kernel_rfl
theorem does_slices_AppendSeq_int_int (W : World) (x1 : Option Addr) (l2 : Nat) (c3 : Nat) (v4 : Value) (R : Ending → Hp → Prop) (s : Hp) (h : T_slices_AppendSeq_int_int W x1 l2 c3 v4 R s) : Does Pg W F_slices_AppendSeq_int_int #[(.slice x1 l2 c3), v4] s R :=
  does_of_vfun Pg W an_84 Try.func84 rfl (by kernel_rfl) (by rw [T_slices_AppendSeq_int_int_eq]; exact h)
def an_87 : Nat → Ann := fun b => match b with
  | _ => {}
abbrev rv_87 : List ResultVar := []
abbrev rs_87 : List Nat := [10]
def T_slices_rotateRight_int (W : World) (x1 : Option Addr) (l2 : Nat) (c3 : Nat) (n4 : Int) (R : Ending → Hp → Prop) : Hp → Prop :=
  CALL Pg W F_slices_rotateLeft_int [(.slice x1 l2 c3), (.int .i64 (IntKind.wrap .i64 ((↑l2 : Int) - n4)))]
    (fun v5 => TUP v5 fun q7 => NL q7 <|
      R (.returned (.tuple #[])))
      (fun e6 => R (.panicked e6))
theorem T_slices_rotateRight_int_eq (W : World) (x1 : Option Addr) (l2 : Nat) (c3 : Nat) (n4 : Int) (R : Ending → Hp → Prop) : vfun Pg W an_87 Try.f87 [(.slice x1 l2 c3), (.int .i64 n4)] R = T_slices_rotateRight_int W x1 l2 c3 n4 R := by kernel_rfl
theorem does_slices_rotateRight_int (W : World) (x1 : Option Addr) (l2 : Nat) (c3 : Nat) (n4 : Int) (R : Ending → Hp → Prop) (s : Hp) (h : T_slices_rotateRight_int W x1 l2 c3 n4 R s) : Does Pg W F_slices_rotateRight_int #[(.slice x1 l2 c3), (.int .i64 n4)] s R :=
  does_of_vfun Pg W an_87 Try.func87 rfl (by kernel_rfl) (by rw [T_slices_rotateRight_int_eq]; exact h)
def an_88 : Nat → Ann := fun b => match b with
  | 0 => { ms := [8], ks := [.i .i64], us := [0, 1, 7, 19], rt := false, ex := [] }
  | _ => {}
abbrev rv_88 : List ResultVar := [.tmp 4]
abbrev rs_88 : List Nat := [19, 4]
def L_slices_Index_int_int_0 (W : World) (R : Ending → Hp → Prop) (zp0 : Option Addr) (zl1 : Nat) (zl2 : Nat) (zn3 : Int) (zn4 : Int) (n5 : Int) : Hp → Prop :=
  LOOPN [.i .i64] (fun ys next s => ∀ j : Tm, vc Pg W 19 rs_88 an_88 false (sub (bodyOf Try.f88) [1, 0, 1, 0, 0]) 0 (KLoop [8] [0, 1, 7, 19] [(.slice zp0 zl1 zl2), (.int .i64 zn3), (.int .i64 zn4), (.tuple #[])] next (KBlk 0 (KS Pg W 19 rs_88 an_88 false (sub (bodyOf Try.f88) [1, 1]) 0 (fin Pg W 19 rv_88 R)))) (known [8] ys (known [0, 1, 7, 19] [(.slice zp0 zl1 zl2), (.int .i64 zn3), (.int .i64 zn4), (.tuple #[])] j)) s) [(.int .i64 n5)]
def B_slices_Index_int_int_0 (W : World) (R : Ending → Hp → Prop) (zp0 : Option Addr) (zl1 : Nat) (zl2 : Nat) (zn3 : Int) (zn4 : Int) (n5 : Int) (nx0 : List Value → Hp → Prop) : Hp → Prop :=
  BR (decide (n5 < zn4))
    (IXS zp0 zl1 n5 1 fun a6 =>
      RDI .i64 a6 fun n7 =>
        BR (zn3 == n7)
          (R (.returned (.int .i64 n5)))
          (NX [(.slice zp0 zl1 zl2), (.int .i64 zn3), (.int .i64 zn4), (.tuple #[])] [(.slice zp0 zl1 zl2), (.int .i64 zn3), (.int .i64 zn4), (.tuple #[])] (nx0 [(.int .i64 (IntKind.wrap .i64 (n5 + 1)))])))
    (R (.returned (.int .i64 (-1))))
theorem B_slices_Index_int_int_0_eq (W : World) (R : Ending → Hp → Prop) (zp0 : Option Addr) (zl1 : Nat) (zl2 : Nat) (zn3 : Int) (zn4 : Int) (n5 : Int) (nx0 : List Value → Hp → Prop) (j : Tm) : vc Pg W 19 rs_88 an_88 false (sub (bodyOf Try.f88) [1, 0, 1, 0, 0]) 0 (KLoop [8] [0, 1, 7, 19] [(.slice zp0 zl1 zl2), (.int .i64 zn3), (.int .i64 zn4), (.tuple #[])] nx0 (KBlk 0 (KS Pg W 19 rs_88 an_88 false (sub (bodyOf Try.f88) [1, 1]) 0 (fin Pg W 19 rv_88 R)))) (known [8] [(.int .i64 n5)] (known [0, 1, 7, 19] [(.slice zp0 zl1 zl2), (.int .i64 zn3), (.int .i64 zn4), (.tuple #[])] j)) = B_slices_Index_int_int_0 W R zp0 zl1 zl2 zn3 zn4 n5 nx0 := by kernel_rfl
def N_slices_Index_int_int_0 (I : Int → Hp → Prop) (μ : Int → Hp → Nat) (n50 : Int) (s : Hp) (vs : List Value) : Hp → Prop := fun s' => ∃ n5, vs = [(.int .i64 n5)] ∧ I n5 s' ∧ μ n5 s' < μ n50 s
theorem L_slices_Index_int_int_0_rule (W : World) (R : Ending → Hp → Prop) (zp0 : Option Addr) (zl1 : Nat) (zl2 : Nat) (zn3 : Int) (zn4 : Int) (I : Int → Hp → Prop) (μ : Int → Hp → Nat) (n50 : Int) (s : Hp) (h0 : I n50 s)
    (hr : ∀ (n5 : Int) (s : Hp), I n5 s → B_slices_Index_int_int_0 W R zp0 zl1 zl2 zn3 zn4 n5 (fun vs => N_slices_Index_int_int_0 I μ n5 s vs) s) : L_slices_Index_int_int_0 W R zp0 zl1 zl2 zn3 zn4 n50 s := by
  refine ⟨fun vs s => ∃ n5, vs = [(.int .i64 n5)] ∧ I n5 s, fun vs s => (match vs with | [.int _ n5] => μ n5 s | _ => 0), ⟨⟨⟨_, rfl⟩, trivial⟩, ⟨_, rfl, h0⟩⟩, ?_⟩
  intro n5 s hI j
  obtain ⟨n5', hy, hI⟩ := hI
  have hI' : I n5 s := by cases hy; exact hI
  have hh := hr n5 s hI'
  rw [← B_slices_Index_int_int_0_eq W R zp0 zl1 zl2 zn3 zn4 n5 _ j] at hh
  refine vc_mono ?_ _ _ hh
  exact KLoop_mono (fun vs s' h => by obtain ⟨n51, rfl, h1, h2⟩ := h; exact ⟨⟨⟨_, rfl⟩, trivial⟩, ⟨_, rfl, h1⟩, h2⟩)
def T_slices_Index_int_int (W : World) (x1 : Option Addr) (l2 : Nat) (c3 : Nat) (n4 : Int) (R : Ending → Hp → Prop) : Hp → Prop :=
  L_slices_Index_int_int_0 W R x1 l2 c3 n4 (↑l2 : Int) 0
theorem T_slices_Index_int_int_eq (W : World) (x1 : Option Addr) (l2 : Nat) (c3 : Nat) (n4 : Int) (R : Ending → Hp → Prop) : vfun Pg W an_88 Try.f88 [(.slice x1 l2 c3), (.int .i64 n4)] R = T_slices_Index_int_int W x1 l2 c3 n4 R := by kernel_rfl
theorem does_slices_Index_int_int (W : World) (x1 : Option Addr) (l2 : Nat) (c3 : Nat) (n4 : Int) (R : Ending → Hp → Prop) (s : Hp) (h : T_slices_Index_int_int W x1 l2 c3 n4 R s) : Does Pg W F_slices_Index_int_int #[(.slice x1 l2 c3), (.int .i64 n4)] s R :=
  does_of_vfun Pg W an_88 Try.func88 rfl (by kernel_rfl) (by rw [T_slices_Index_int_int_eq]; exact h)
def an_94 : Nat → Ann := fun b => match b with
  | _ => {}
abbrev rv_94 : List ResultVar := []
abbrev rs_94 : List Nat := [14]
def T_slices_rotateLeft_int (W : World) (x1 : Option Addr) (l2 : Nat) (c3 : Nat) (n4 : Int) (R : Ending → Hp → Prop) : Hp → Prop :=
  SLS x1 c3 0 n4 1 fun x5 l6 c7 =>
    CALL Pg W F_slices_Reverse_int_int [(.slice x5 l6 c7)]
      (fun v8 => TUP v8 fun q10 => NL q10 <|
        SLS x1 c3 n4 ↑l2 1 fun x11 l12 c13 =>
          CALL Pg W F_slices_Reverse_int_int [(.slice x11 l12 c13)]
            (fun v14 => TUP v14 fun q16 => NL q16 <|
              CALL Pg W F_slices_Reverse_int_int [(.slice x1 l2 c3)]
                (fun v17 => TUP v17 fun q19 => NL q19 <|
                  R (.returned (.tuple #[])))
                  (fun e18 => R (.panicked e18)))
              (fun e15 => R (.panicked e15)))
        (fun e9 => R (.panicked e9))
theorem T_slices_rotateLeft_int_eq (W : World) (x1 : Option Addr) (l2 : Nat) (c3 : Nat) (n4 : Int) (R : Ending → Hp → Prop) : vfun Pg W an_94 Try.f94 [(.slice x1 l2 c3), (.int .i64 n4)] R = T_slices_rotateLeft_int W x1 l2 c3 n4 R := by kernel_rfl
theorem does_slices_rotateLeft_int (W : World) (x1 : Option Addr) (l2 : Nat) (c3 : Nat) (n4 : Int) (R : Ending → Hp → Prop) (s : Hp) (h : T_slices_rotateLeft_int W x1 l2 c3 n4 R s) : Does Pg W F_slices_rotateLeft_int #[(.slice x1 l2 c3), (.int .i64 n4)] s R :=
  does_of_vfun Pg W an_94 Try.func94 rfl (by kernel_rfl) (by rw [T_slices_rotateLeft_int_eq]; exact h)
def an_95 : Nat → Ann := fun b => match b with
  | 0 => { ms := [2, 3], ks := [.i .i64, .i .i64], us := [0, 28], rt := false, ex := [] }
  | _ => {}
abbrev rv_95 : List ResultVar := []
abbrev rs_95 : List Nat := [28]
def L_slices_Reverse_int_int_0 (W : World) (R : Ending → Hp → Prop) (zp0 : Option Addr) (zl1 : Nat) (zl2 : Nat) (n4 : Int) (n5 : Int) : Hp → Prop :=
  LOOPN [.i .i64, .i .i64] (fun ys next s => ∀ j : Tm, vc Pg W 28 rs_95 an_95 false (sub (bodyOf Try.f95) [1, 0, 0]) 0 (KLoop [2, 3] [0, 28] [(.slice zp0 zl1 zl2), (.tuple #[])] next (KBlk 0 (fin Pg W 28 rv_95 R))) (known [2, 3] ys (known [0, 28] [(.slice zp0 zl1 zl2), (.tuple #[])] j)) s) [(.int .i64 n4), (.int .i64 n5)]
def B_slices_Reverse_int_int_0 (W : World) (R : Ending → Hp → Prop) (zp0 : Option Addr) (zl1 : Nat) (zl2 : Nat) (n4 : Int) (n5 : Int) (nx0 : List Value → Hp → Prop) : Hp → Prop :=
  BR (decide (n4 < n5))
    (IXS zp0 zl1 n5 1 fun a6 =>
      RDI .i64 a6 fun n7 =>
        IXS zp0 zl1 n4 1 fun a8 =>
          RDI .i64 a8 fun n9 =>
            IXS zp0 zl1 n4 1 fun a10 =>
              WR (Addr.add a10 0) (.int .i64 n7) <|
                IXS zp0 zl1 n5 1 fun a11 =>
                  WR (Addr.add a11 0) (.int .i64 n9) <|
                    NX [(.slice zp0 zl1 zl2), (.tuple #[])] [(.slice zp0 zl1 zl2), (.tuple #[])] (nx0 [(.int .i64 (IntKind.wrap .i64 (n4 + 1))), (.int .i64 (IntKind.wrap .i64 (n5 - 1)))]))
    (R (.returned (.tuple #[])))
theorem B_slices_Reverse_int_int_0_eq (W : World) (R : Ending → Hp → Prop) (zp0 : Option Addr) (zl1 : Nat) (zl2 : Nat) (n4 : Int) (n5 : Int) (nx0 : List Value → Hp → Prop) (j : Tm) : vc Pg W 28 rs_95 an_95 false (sub (bodyOf Try.f95) [1, 0, 0]) 0 (KLoop [2, 3] [0, 28] [(.slice zp0 zl1 zl2), (.tuple #[])] nx0 (KBlk 0 (fin Pg W 28 rv_95 R))) (known [2, 3] [(.int .i64 n4), (.int .i64 n5)] (known [0, 28] [(.slice zp0 zl1 zl2), (.tuple #[])] j)) = B_slices_Reverse_int_int_0 W R zp0 zl1 zl2 n4 n5 nx0 := by kernel_rfl
def N_slices_Reverse_int_int_0 (I : Int → Int → Hp → Prop) (μ : Int → Int → Hp → Nat) (n40 : Int) (n50 : Int) (s : Hp) (vs : List Value) : Hp → Prop := fun s' => ∃ n4 n5, vs = [(.int .i64 n4), (.int .i64 n5)] ∧ I n4 n5 s' ∧ μ n4 n5 s' < μ n40 n50 s
theorem L_slices_Reverse_int_int_0_rule (W : World) (R : Ending → Hp → Prop) (zp0 : Option Addr) (zl1 : Nat) (zl2 : Nat) (I : Int → Int → Hp → Prop) (μ : Int → Int → Hp → Nat) (n40 : Int) (n50 : Int) (s : Hp) (h0 : I n40 n50 s)
    (hr : ∀ (n4 : Int) (n5 : Int) (s : Hp), I n4 n5 s → B_slices_Reverse_int_int_0 W R zp0 zl1 zl2 n4 n5 (fun vs => N_slices_Reverse_int_int_0 I μ n4 n5 s vs) s) : L_slices_Reverse_int_int_0 W R zp0 zl1 zl2 n40 n50 s := by
  refine ⟨fun vs s => ∃ n4 n5, vs = [(.int .i64 n4), (.int .i64 n5)] ∧ I n4 n5 s, fun vs s => (match vs with | [.int _ n4, .int _ n5] => μ n4 n5 s | _ => 0), ⟨⟨⟨_, rfl⟩, ⟨⟨_, rfl⟩, trivial⟩⟩, ⟨_, _, rfl, h0⟩⟩, ?_⟩
  intro n4 n5 s hI j
  obtain ⟨n4', n5', hy, hI⟩ := hI
  have hI' : I n4 n5 s := by cases hy; exact hI
  have hh := hr n4 n5 s hI'
  rw [← B_slices_Reverse_int_int_0_eq W R zp0 zl1 zl2 n4 n5 _ j] at hh
  refine vc_mono ?_ _ _ hh
  exact KLoop_mono (fun vs s' h => by obtain ⟨n41, n51, rfl, h1, h2⟩ := h; exact ⟨⟨⟨_, rfl⟩, ⟨⟨_, rfl⟩, trivial⟩⟩, ⟨_, _, rfl, h1⟩, h2⟩)
def T_slices_Reverse_int_int (W : World) (x1 : Option Addr) (l2 : Nat) (c3 : Nat) (R : Ending → Hp → Prop) : Hp → Prop :=
  L_slices_Reverse_int_int_0 W R x1 l2 c3 0 (IntKind.wrap .i64 ((↑l2 : Int) - 1))
theorem T_slices_Reverse_int_int_eq (W : World) (x1 : Option Addr) (l2 : Nat) (c3 : Nat) (R : Ending → Hp → Prop) : vfun Pg W an_95 Try.f95 [(.slice x1 l2 c3)] R = T_slices_Reverse_int_int W x1 l2 c3 R := by kernel_rfl
theorem does_slices_Reverse_int_int (W : World) (x1 : Option Addr) (l2 : Nat) (c3 : Nat) (R : Ending → Hp → Prop) (s : Hp) (h : T_slices_Reverse_int_int W x1 l2 c3 R s) : Does Pg W F_slices_Reverse_int_int #[(.slice x1 l2 c3)] s R :=
  does_of_vfun Pg W an_95 Try.func95 rfl (by kernel_rfl) (by rw [T_slices_Reverse_int_int_eq]; exact h)
end Go.Proofs.Ytfaeokcbfnlgbaa.G

/- Prize: copies of rows, without one. -/
set_option linter.unusedSimpArgs false
set_option linter.unusedVariables false
set_option maxRecDepth 20000
namespace Go.Proofs.Ytfaeokcbfnlgbaa.G
open Go.V
def mn4 (m : Mn) : List Value := [.int .i64 m.place, .int .i64 m.club, .bool m.nov, .bool m.hor]
def mnV (l : List Mn) : List Value := l.flatMap mn4
theorem mnV_len (l : List Mn) : (mnV l).length = l.length * 4 := by
  induction l with
  | nil => rfl
  | cons x l ih => show (_ :: _ :: _ :: _ :: mnV l).length = _; simp only [List.length_cons, ih]; omega
theorem mnV_get : ∀ (l : List Mn) (k : Nat) (h : k < l.length), (mnV l)[k * 4]? = some (.int .i64 l[k].place) ∧ (mnV l)[k * 4 + 1]? = some (.int .i64 l[k].club) ∧ (mnV l)[k * 4 + 2]? = some (.bool l[k].nov) ∧ (mnV l)[k * 4 + 3]? = some (.bool l[k].hor)
  | [], k, h => by simp at h
  | x :: l, 0, h => ⟨rfl, rfl, rfl, rfl⟩
  | x :: l, k + 1, h => by
    have ih := mnV_get l k (by simpa using h)
    have e1 : (k + 1) * 4 = k * 4 + 4 := by omega
    rw [e1]
    exact ih
theorem mnV_one (l : List Mn) : ∀ v ∈ mnV l, oneCell v = true := by
  intro v hv
  obtain ⟨c, _, hc⟩ := List.mem_flatMap.1 hv
  simp [mn4] at hc
  rcases hc with rfl | rfl | rfl | rfl <;> rfl
theorem mnV_take : ∀ (l : List Mn) (k : Nat), mnV (l.take k) = (mnV l).take (k * 4)
  | [], k => by simp [mnV]
  | x :: l, 0 => by simp [mnV]
  | x :: l, k + 1 => by
    show mn4 x ++ mnV (l.take k) = (mn4 x ++ mnV l).take ((k + 1) * 4)
    rw [mnV_take l k, show (k + 1) * 4 = 4 + k * 4 by omega, List.take_append]
    have e1 : (mn4 x).length = 4 := rfl
    have e2 : (mn4 x).take (4 + k * 4) = mn4 x := List.take_of_length_le (by rw [e1]; omega)
    rw [e1, Nat.add_sub_cancel_left, e2]
theorem mnV_drop : ∀ (l : List Mn) (k : Nat), mnV (l.drop k) = (mnV l).drop (k * 4)
  | [], k => by simp [mnV]
  | x :: l, 0 => by simp [mnV]
  | x :: l, k + 1 => by
    show mnV (l.drop k) = (mn4 x ++ mnV l).drop ((k + 1) * 4)
    rw [mnV_drop l k, show (k + 1) * 4 = 4 + k * 4 by omega, List.drop_append]
    have e1 : (mn4 x).length = 4 := rfl
    have e2 : (mn4 x).drop (4 + k * 4) = [] := List.drop_eq_nil_of_le (by rw [e1]; omega)
    rw [e1, Nat.add_sub_cancel_left, e2]
    rfl
theorem mn_row {s : Hp} {x : Option Addr} {l : List Mn} (h : MnAt s x l) : RowAt s x (mnV l) := fun i hi => by
  rw [mnV_len] at hi
  obtain ⟨a, h0, h1, h2, h3, h4⟩ := h (i / 4) (by omega)
  obtain ⟨g1, g2, g3, g4⟩ := mnV_get l (i / 4) (by omega)
  refine ⟨a, h0, ?_⟩
  rw [Nat.mul_one]
  have key : ∀ j v, j < 4 → i = i / 4 * 4 + j → (mnV l)[i / 4 * 4 + j]? = some v → cellAt s ((a.add (i / 4 * 4)).add j) = some v → cellAt s (a.add i) = some (mnV l)[i] := by
    intro j v hj hij hv hc
    rw [addr_add, ← hij] at hc
    rw [← hij] at hv
    rw [hc]
    have := (List.getElem?_eq_some_iff.1 hv).2
    rw [this]
  have hmod : i % 4 = 0 ∨ i % 4 = 1 ∨ i % 4 = 2 ∨ i % 4 = 3 := by omega
  rcases hmod with h | h | h | h
  · exact key 0 _ (by omega) (by omega) g1 h1
  · exact key 1 _ (by omega) (by omega) g2 h2
  · exact key 2 _ (by omega) (by omega) g3 h3
  · exact key 3 _ (by omega) (by omega) g4 h4
theorem row_mn {s : Hp} {x : Option Addr} {l : List Mn} (h : RowAt s x (mnV l)) : MnAt s x l := fun i hi => by
  obtain ⟨g1, g2, g3, g4⟩ := mnV_get l i hi
  obtain ⟨a, h0, h1⟩ := row_get h g1
  obtain ⟨a2, k2, h2⟩ := row_get h g2
  obtain ⟨a3, k3, h3⟩ := row_get h g3
  obtain ⟨a4, k4, h4⟩ := row_get h g4
  rw [h0] at k2 k3 k4
  cases k2; cases k3; cases k4
  refine ⟨a, h0, ?_, ?_, ?_, ?_⟩
  · rw [addr_add]; exact h1
  · rw [addr_add]; exact h2
  · rw [addr_add]; exact h3
  · rw [addr_add]; exact h4
theorem und_22 : Pg.underlying 22 = some (.slice 48) := by kernel_rfl
theorem inf_48 : ∃ i v, Pg.info? 48 = some i ∧ i.size = 4 ∧ i.zero = some v ∧ v.cells.toList = [.int .i64 0, .int .i64 0, .bool false, .bool false] := by
  obtain ⟨i, v, h1, h2, h3⟩ := zero_of (P := Pg) (t := 48) (by kernel_rfl)
  have hs : (Pg.info? 48).map (·.size) = some 4 := by kernel_rfl
  rw [h1] at hs
  refine ⟨i, v, h1, ?_, h2, ?_⟩
  · simpa using hs
  · rw [← h3]; kernel_rfl
section
variable {W : World} {K : VK} {E : List PanicEntry → Hp → Prop} {s : Hp}
theorem c_CloneW {x : Option Addr} {c : Nat} {l : List Mn} (hx : MnAt s x l) (h0 : 0 < l.length) (h8 : l.length ≤ 1000) (h : ∀ s' a c', Ext s s' → Fr s.size s' (some a) l.length c' 4 (mnV l) → K (.slice (some a) l.length c') s') : CALL Pg W F_slices_Clone_api_Winner_api_Winner [.slice x l.length c] K E s := by
  refine does_slices_Clone_api_Winner_api_Winner W x l.length c _ s ?_
  unfold T_slices_Clone_api_Winner_api_Winner
  obtain ⟨a, ha, _⟩ := hx 0 h0
  subst ha
  refine BR_ff rfl ?_
  refine NEW_rule fun s1 e1 z1 n1 _ => ?_
  have hf : Fr s.size s1 (some ⟨s.size, 0, none⟩) 0 0 4 [] := ⟨⟨Nat.le_refl _, fun i hi => by omega⟩, rfl, fun a ha => by cases ha; exact Nat.le_refl _, by omega⟩
  refine APP_fr (lo := s.size) hf e1.1 (ws := mnV l) (mn_row (hx.ext e1)) (mnV_len l) zc_48 rfl (by omega) (mnV_one l) (by omega) fun s2 x2 c2 k2 hx2 g2 => ?_
  rw [Nat.zero_add, List.nil_append] at g2
  rw [Nat.zero_add]
  have e2 : Ext s s2 := kp_nil e1 (fun b hb => by obtain ⟨y, hy, rfl⟩ := hb; cases hy; exact Nat.le_refl _) k2
  have hpos : 0 < (mnV l).length := by rw [mnV_len]; omega
  obtain ⟨a2, ha2, _⟩ := g2.row 0 hpos
  subst ha2
  exact h s2 a2 c2 e2 g2
end
theorem sb_spq {P : Program} {s : Hp} {y : Nat} {i : Nat} {code : BoundsCode} {K : Nat → Prop} (h1 : i ≤ y) (h : K i) : spq P (Instr.sliceBound (.int .i64 (i : Nat)) y code) K s := by
  unfold Instr.sliceBound asIntOf
  rw [spq_bind]
  show spq P (if 0 ≤ ((i : Nat) : Int) ∧ ((i : Nat) : Int) ≤ (y : Nat) then pure ((i : Nat) : Int).toNat else _) K s
  rw [if_pos (by omega), spq_pure, Int.toNat_natCast]
  exact h
theorem sbs_spq {P : Program} {s : Hp} {l c i j : Nat} {K : Nat × Nat × Nat → Prop} (h1 : i ≤ j) (h2 : j ≤ l) (h3 : l ≤ c) (h : K (i, j, l)) : spq P (Instr.sliceBounds true l c (some (.int .i64 (i : Nat))) (some (.int .i64 (j : Nat))) (some (.int .i64 (l : Nat)))) K s := by
  unfold Instr.sliceBounds
  rw [spq_bind]
  refine sb_spq h3 ?_
  rw [spq_bind]
  refine sb_spq h2 ?_
  rw [spq_bind]
  refine sb_spq h1 ?_
  rw [spq_pure]
  exact h
theorem SL3_gen {P : Program} {t e : TypeId} {d : TypeInfo} {s : Hp} {a : Option Addr} {l c i j : Nat} {K : Option Addr → Nat → Nat → Hp → Prop} (hu : P.underlying t = some (.slice e)) (hi : P.info? e = some d) (h1 : i ≤ j) (h2 : j ≤ l) (h3 : l ≤ c) (h : ∀ x l c, K x l c s) : SL3 P t (.slice a l c) (some (.int .i64 (i : Nat))) (some (.int .i64 (j : Nat))) (.int .i64 (l : Nat)) K s := by
  unfold SL3 SLV
  refine sp_of_spq P _ _ _ _ ?_
  unfold Instr.sliceAt
  rw [spq_bind, spq_und hu]
  unfold Instr.slice
  simp only []
  rw [spq_bind, spq_und hu]
  simp only []
  rw [spq_bind]
  refine sbs_spq h1 h2 h3 ?_
  simp only []
  rw [spq_bind, spq_size hi, spq_pure]
  exact ⟨_, _, _, rfl, h _ _ _⟩
theorem CLR_gen {P : Program} {t e : TypeId} {d : TypeInfo} {v : Value} {s : Hp} {a : Addr} {l c : Nat} {K : Hp → Prop} (hu : P.underlying t = some (.slice e)) (hi : P.info? e = some d) (hv : d.zero = some v) (hl : 0 < l) (h : wrN (Builtin.zeroCells v.cells l).toList a 0 K s) : CLR P [t] (.slice (some a) l c) K s := by
  unfold CLR Builtin.clear_
  simp only [List.getElem?_toArray, List.getElem?_cons_zero]
  show sp P (do let x ← underlying t; _) _ _ s
  rw [sp_bind, sp_und hu]
  cases l with
  | zero => omega
  | succ l =>
    simp only [sp_bind, sp_zero hi hv]
    exact sp_mono P _ (fun _ s h => ⟨rfl, h⟩) (fun v s h => h) _ (wrN_sp _ _ _ _ (fun _ _ => False) _ h)
end Go.Proofs.Ytfaeokcbfnlgbaa.G

/- Prize: a row without one. -/
set_option linter.unusedSimpArgs false
set_option linter.unusedVariables false
set_option maxRecDepth 20000
namespace Go.Proofs.Ytfaeokcbfnlgbaa.G
open Go.V
theorem mnV_erase (l : List Mn) (m : Nat) : mnV (l.eraseIdx m) = (mnV l).take (m * 4) ++ (mnV l).drop ((m + 1) * 4) := by
  rw [List.eraseIdx_eq_take_drop_succ, ← mnV_take, ← mnV_drop]
  unfold mnV
  rw [List.flatMap_append]
theorem zc48_a : (Builtin.zeroCells #[.int .i64 0, .int .i64 0, .bool false, .bool false] 1).toList = [.int .i64 0, .int .i64 0, .bool false, .bool false] := by simp [Builtin.zeroCells, Array.toList_range, List.range_succ]
theorem zc48_cells {v : Value} (h : v.cells.toList = [.int .i64 0, .int .i64 0, .bool false, .bool false]) : (Builtin.zeroCells v.cells 1).toList = [.int .i64 0, .int .i64 0, .bool false, .bool false] := by
  have : v.cells = #[.int .i64 0, .int .i64 0, .bool false, .bool false] := Array.ext' h
  rw [this]
  exact zc48_a
section
variable {W : World} {K : VK} {E : List PanicEntry → Hp → Prop} {s : Hp}
theorem c_Delete {lo c m : Nat} {a : Addr} {l : List Mn} (hf : Fr lo s (some a) l.length c 4 (mnV l)) (hm : m < l.length) (h8 : l.length ≤ 1000) (h : ∀ s', Kp (· = a.block) s s' → Fr lo s' (some a) (l.length - 1) c 4 (mnV (l.eraseIdx m)) → K (.slice (some a) (l.length - 1) c) s') :
    CALL Pg W F_slices_Delete_api_Winner_api_Winner [.slice (some a) l.length c, .int .i64 (m : Nat), .int .i64 ((m + 1 : Nat) : Int)] K E s := by
  refine does_slices_Delete_api_Winner_api_Winner W (some a) l.length c m ((m + 1 : Nat) : Int) _ s ?_
  unfold T_slices_Delete_api_Winner_api_Winner
  obtain ⟨d, v, hi, hsz, hv, hvc⟩ := inf_48
  have hcap : l.length ≤ c := by have := hf.buf.le; rw [mnV_len] at this; omega
  have hc63 := hf.cap
  refine SL3_gen und_22 hi (by omega) (by omega) (by omega) fun _ _ _ => ?_
  refine BR_eq (fun hh => by omega) (fun _ => ?_)
  generalize hvs : (mnV l).drop ((m + 1) * 4) = vs
  have hvl : vs.length = (l.length - (m + 1)) * 4 := by rw [← hvs, List.length_drop, mnV_len]; omega
  have hv1 : ∀ v ∈ vs, oneCell v = true := fun v hv => mnV_one l v (List.mem_of_mem_drop (by rw [hvs]; exact hv))
  have hrow := hf.row
  have hlen := mnV_len l
  have hrow2 : RowAt s (if c = (((m + 1 : Nat) : Int)).toNat then some a else (some a).map (·.add ((((m + 1 : Nat) : Int)).toNat * 4))) vs := fun i hi => by
    have hne : ¬ c = (((m + 1 : Nat) : Int)).toNat := by rw [toNat_nat]; omega
    rw [if_neg hne]
    have hg : (mnV l)[(m + 1) * 4 + i]? = some vs[i] := by
      have h1 : ((mnV l).drop ((m + 1) * 4))[i]? = some vs[i] := by rw [hvs]; exact List.getElem?_eq_getElem hi
      rw [List.getElem?_drop] at h1; exact h1
    obtain ⟨b, hb, hc⟩ := row_get hrow hg
    cases hb
    refine ⟨_, rfl, ?_⟩
    rw [Nat.mul_one, addr_add, toNat_nat]; exact hc
  have own : ∀ i, i < c * 4 → ∃ y, Own s (a.add i) y ∧ ∀ h : i < (mnV l).length, y = (mnV l)[i] := fun i hi => by
    obtain ⟨a', h1, y, h2, h3⟩ := hf.buf.own i hi
    cases h1; exact ⟨y, h2, h3⟩
  -- the cells are put in their places
  have fin : (APP Pg 48 4 (some (a.add 0)) m c (if c = (((m + 1 : Nat) : Int)).toNat then some a else (some a).map (·.add ((((m + 1 : Nat) : Int)).toNat * 4))) (l.length - (m + 1)) fun x15 l16 c17 =>
       SLS x15 c17 (↑l16 : Int) (↑l.length : Int) 4 fun x18 l19 c20 =>
        CLR Pg [22] (.slice x18 l19 c20) <|
         (endK K E) (.returned (.slice x15 l16 c17))) s := by
    refine ⟨⟨by omega, hc63⟩, vs, by rw [← hvl]; exact hrow2.cells, ?_⟩
    rw [if_pos (by omega)]
    show wrN vs (((a.add 0)).add (m * 4)) 0 _ s
    rw [add_0]
    refine wrN_rule vs _ 0 _ s (fun i hi => ?_) hv1 fun s1 k1 z1 o1 u1 => ?_
    · rw [Nat.zero_add, addr_add]
      obtain ⟨y, hy, _⟩ := own (m * 4 + i) (by omega)
      exact ⟨y, hy⟩
    have hmn : m + (l.length - (m + 1)) = l.length - 1 := by omega
    rw [hmn]
    refine ⟨⟨by omega, by omega, by omega⟩, ?_⟩
    rw [toNat_nat, toNat_nat, if_neg (by omega), show l.length - (l.length - 1) = 1 by omega]
    show CLR Pg [22] (.slice (some (a.add ((l.length - 1) * 4))) 1 _) _ s1
    refine CLR_gen und_22 hi hv (by omega) ?_
    rw [zc48_cells hvc]
    -- every cell of the row, after the first writes
    have own1 : ∀ i, i < c * 4 → ∃ y, Own s1 (a.add i) y ∧ (i < (l.length - 1) * 4 → (mnV (l.eraseIdx m))[i]? = some y) := by
      intro i hic
      by_cases hin : m * 4 ≤ i ∧ i < m * 4 + vs.length
      · refine ⟨vs[i - m * 4]'(by omega), ?_, fun hlt => ?_⟩
        · have := o1 (i - m * 4) (by omega)
          rw [Nat.zero_add, addr_add, show m * 4 + (i - m * 4) = i by omega] at this
          exact this
        · rw [mnV_erase, List.getElem?_append_right (by rw [List.length_take]; omega), hvs, List.length_take, Nat.min_eq_left (by omega)]
          exact List.getElem?_eq_getElem _
      · obtain ⟨y, hy, hyv⟩ := own i hic
        refine ⟨y, u1 _ y (by rw [add_of, add_of]; omega) hy, fun hlt => ?_⟩
        rw [mnV_erase, List.getElem?_append_left (by rw [List.length_take]; omega), List.getElem?_take_of_lt (by omega)]
        rw [hyv (by omega)]
        exact List.getElem?_eq_getElem _
    refine wrN_rule _ _ 0 _ s1 (fun i hi => ?_) (by simp [oneCell]) fun s2 k2 z2 o2 u2 => ?_
    · rw [Nat.zero_add, addr_add]
      have hi4 : i < 4 := hi
      obtain ⟨y, hy, _⟩ := own1 ((l.length - 1) * 4 + i) (by omega)
      exact ⟨y, hy⟩
    · have kk : Kp (· = a.block) s s2 := by
        have k2' : Kp (· = a.block) s1 s2 := k2.mono fun b hb => by rw [add_blk] at hb; exact hb
        exact (k1.mono fun b hb => by rw [add_blk] at hb; exact hb).trans k2'
      refine h s2 kk ⟨⟨?_, fun i hi => ⟨a, rfl, ?_⟩⟩, ?_, hf.fr, hc63⟩
      · rw [mnV_len, List.length_eraseIdx_of_lt hm]; omega
      · by_cases hin : (l.length - 1) * 4 ≤ i ∧ i < (l.length - 1) * 4 + 4
        · have hi4 : i - (l.length - 1) * 4 < 4 := by omega
          have := o2 (i - (l.length - 1) * 4) hi4
          rw [Nat.zero_add, addr_add, show (l.length - 1) * 4 + (i - (l.length - 1) * 4) = i by omega] at this
          refine ⟨_, this, fun hh => ?_⟩
          rw [mnV_len, List.length_eraseIdx_of_lt hm] at hh; omega
        · obtain ⟨y, hy, hyv⟩ := own1 i hi
          refine ⟨y, u2 _ y (by rw [add_of, add_of]; simp only [List.length_cons, List.length_nil]; omega) hy, fun hh => ?_⟩
          have hh2 := hh
          rw [mnV_len, List.length_eraseIdx_of_lt hm] at hh2
          have := hyv hh2
          rw [List.getElem?_eq_getElem hh] at this
          exact (Option.some.inj this).symm
      · rw [mnV_len, List.length_eraseIdx_of_lt hm]
  have e0 : (if c = ((0 : Int)).toNat then some a else (some a).map (·.add ((0 : Int).toNat * 4))) = some (a.add 0) := by
    have : ¬ c = ((0 : Int)).toNat := by show ¬ c = 0; omega
    rw [if_neg this]; rfl
  refine CONJ_two ?_ ?_
  · refine ⟨⟨by omega, by omega, by omega⟩, ?_⟩
    rw [e0]
    refine ⟨⟨by omega, by omega, by omega⟩, ?_⟩
    rw [toNat_nat, toNat_nat]
    rw [toNat_nat] at fin
    exact fin
  · refine ⟨⟨by omega, by omega, by omega⟩, ?_⟩
    refine ⟨⟨by omega, by omega, by omega⟩, ?_⟩
    rw [e0, toNat_nat, toNat_nat]
    rw [toNat_nat] at fin
    exact fin
end
end Go.Proofs.Ytfaeokcbfnlgbaa.G

/- Prize: plain: without somebody. -/
set_option linter.unusedSimpArgs false
set_option linter.unusedVariables false
set_option maxRecDepth 20000
namespace Go.Proofs.Ytfaeokcbfnlgbaa.G
open Go.V
theorem okMs_iff {n : Nat} : ∀ (r seen : List Mn), okMs n seen r = true ↔ (∀ m ∈ r, (1 ≤ m.place ∧ m.place ≤ n) ∧ (0 ≤ m.club ∧ m.club ≤ 5)) ∧ r.Pairwise (fun a b => a.place ≠ b.place) ∧ ∀ m ∈ r, ∀ x ∈ seen, x.place ≠ m.place
  | [], seen => by simp [okMs]
  | m :: r, seen => by
    unfold okMs okMn
    simp only [Bool.and_eq_true, decide_eq_true_eq, List.all_eq_true, okMs_iff r (seen ++ [m]), List.pairwise_cons, List.mem_cons, forall_eq_or_imp, List.mem_append]
    constructor
    · rintro ⟨⟨h1, h2, h3⟩, h4, h5, h6⟩
      exact ⟨⟨⟨h1, h3⟩, h4⟩, ⟨fun a ha => h6 a ha m (.inr (by simp)), h5⟩, h2, fun a ha x hx => h6 a ha x (.inl hx)⟩
    · rintro ⟨⟨⟨h1, h3⟩, h4⟩, ⟨h7, h5⟩, h2, h6⟩
      refine ⟨⟨h1, h2, h3⟩, h4, h5, fun a ha x hx => ?_⟩
      rcases hx with hx | hx
      · exact h6 a ha x hx
      · simp at hx; subst hx; exact h7 a ha
def decP (p : Int) (w : Mn) : Mn := if w.place > p then { w with place := w.place - 1 } else w
/-- Prizes without somebody. -/
def withoutP (T : PT) (m : Nat) : PT := ⟨(T.men.eraseIdx m).map (decP (T.man m).place), T.list⟩
theorem without_n {T : PT} {m : Nat} (h : m < T.n) : (withoutP T m).n = T.n - 1 := by
  unfold withoutP PT.n
  simp only [List.length_map]
  exact List.length_eraseIdx_of_lt h
theorem erase_ne {T : PT} (hv : VdP T) {m : Nat} (hm : m < T.n) {w : Mn} (hw : w ∈ T.men.eraseIdx m) : w.place ≠ (T.man m).place ∧ (1 ≤ w.place ∧ w.place ≤ T.n) ∧ (0 ≤ w.club ∧ w.club ≤ 5) := by
  obtain ⟨i, hi, e⟩ := List.mem_eraseIdx_iff_getElem.1 hw
  obtain ⟨hi2, e⟩ := e
  have hT : T.man i = w := by unfold PT.man; rw [getD_lt hi]; exact e
  subst hT
  exact ⟨fun h => hi2 (hv.inj i m hi hm h), hv.pl i hi, hv.cl i hi⟩
theorem ok_without {T : PT} (hok : okP T = true) {m : Nat} (hm : m < T.n) (h2 : 2 ≤ T.n) : okP (withoutP T m) = true := by
  have hv := okP_vd hok
  obtain ⟨h1, h6, h3, h4⟩ := okP_iff.1 hok
  have hp := ((okMs_iff _ _).1 h3).2.1
  rw [okP_iff, without_n hm]
  refine ⟨by omega, h6, ?_, h4⟩
  rw [okMs_iff]
  have hpm := hv.pl m hm
  refine ⟨fun w hw => ?_, ?_, fun _ _ x hx => by cases hx⟩
  · obtain ⟨u, hu, rfl⟩ := List.mem_map.1 hw
    obtain ⟨g1, g2, g3⟩ := erase_ne hv hm hu
    unfold decP
    split
    · exact ⟨⟨by show 1 ≤ u.place - 1; omega, by show u.place - 1 ≤ _; omega⟩, g3⟩
    · exact ⟨⟨g2.1, by omega⟩, g3⟩
  · unfold withoutP
    rw [List.pairwise_map]
    have hsub := hp.sublist (List.eraseIdx_sublist T.men m)
    refine hsub.imp_of_mem fun {a b} ha hb hab => ?_
    have ga := (erase_ne hv hm ha).1
    have gb := (erase_ne hv hm hb).1
    unfold decP
    split <;> split <;> (try simp only) <;> omega
/-- Who is who: a number without somebody, as one with him. -/
def upK (m k : Nat) : Nat := if k ≥ m then k + 1 else k
def gainB (T : PT) (m i : Nat) : Bool := !decide (i = m) && decide ((worP (withoutP T m) (manL (dueP (withoutP T m)))).getD (if i > m then i - 1 else i) 0 > (worP T (manL (dueP T))).getD i 0)
def setK (B : Nat → Bool) : Nat → Nat
  | 0 => 0
  | k + 1 => setK B k + if B k then 2 ^ k else 0
theorem setK_lt (B : Nat → Bool) : ∀ k, setK B k < 2 ^ k
  | 0 => Nat.one_pos
  | k + 1 => by
    have := setK_lt B k
    unfold setK
    rw [Nat.pow_succ]
    split <;> omega
theorem or_bit : ∀ x : Nat, x < 256 → ∀ i : Nat, i < 8 → x < 2 ^ i → orv .i64 (x : Int) (shlv .i64 1 (i : Int)) = ((x + 2 ^ i : Nat) : Int) := by
  have h : ((List.range 256).all fun (x : Nat) => (List.range 8).all fun (i : Nat) => !decide (x < 2 ^ i) || decide (orv .i64 (x : Int) (shlv .i64 1 (i : Int)) = ((x + 2 ^ i : Nat) : Int))) = true := by decide +kernel
  intro x hx i hi hb
  have h1 := List.all_eq_true.1 h x (by simpa using hx)
  have h2 := List.all_eq_true.1 h1 i (by simpa using hi)
  rw [decide_eq_true hb] at h2
  simpa using h2
def stayR (T : PT) (m : Int) : Int × Int := if okP T then (if isM T m then (if T.n = 1 then (0, 0) else ((setK (gainB T m.toNat) T.n : Nat), 0)) else (0, 2)) else (0, 1)
theorem giv_lt {T : PT} (hv : VdP T) {b : Int × Int} {f : Nat → Bool} {z m : Nat} (h : givB T b f z = some m) : m < T.n ∧ canP T m z = true := by
  have key : ∀ g : Nat → Bool, givF T g z = some m → m < T.n ∧ canP T m z = true := fun g hg => by
    unfold givF ordF at hg
    have h1 := List.mem_of_find?_eq_some hg
    exact ⟨(ord_mem hv).1 (List.mem_filter.1 h1).1, List.find?_some (p := fun m => canP T m z) hg⟩
  unfold givB at h
  split at h
  · split at h
    · cases h
    · exact key _ h
  · exact key _ h
theorem due_range {T : PT} (hv : VdP T) : ∀ k, ∀ d ∈ manL (dueL T k), d = -1 ∨ (0 ≤ d ∧ d < T.n)
  | 0, d, h => by cases h
  | k + 1, d, h => by
    have e : dueL T (k + 1) = dueL T k ++ [givB T (bestP T) (fun m => !tkF (dueL T k) m) k] := rfl
    rw [e, manL_app] at h
    rcases List.mem_append.1 h with h | h
    · exact due_range hv k d h
    · have hd : d = manI (givB T (bestP T) (fun m => !tkF (dueL T k) m) k) := by simpa [manL] using h
      cases hg : givB T (bestP T) (fun m => !tkF (dueL T k) m) k with
      | none => rw [hg] at hd; exact .inl hd
      | some m =>
        rw [hg] at hd
        have := (giv_lt hv hg).1
        have hd' : d = (m : Nat) := hd
        exact .inr ⟨by omega, by omega⟩
end Go.Proofs.Ytfaeokcbfnlgbaa.G

/- Prize: Stay. -/
set_option linter.unusedSimpArgs false
set_option linter.unusedVariables false
set_option maxRecDepth 20000
namespace Go.Proofs.Ytfaeokcbfnlgbaa.G
open Go.V
theorem zc_25 : zc Pg 25 = [.slice none 0 0, .slice none 0 0] := by kernel_rfl
def mixL (p : Int) (E : List Mn) (k : Nat) : List Mn := (E.take k).map (decP p) ++ E.drop k
theorem mixL_len (p : Int) (E : List Mn) (k : Nat) : (mixL p E k).length = E.length := by
  unfold mixL
  rw [List.length_append, List.length_map, List.length_take, List.length_drop]; omega
theorem mixL_at {p : Int} {E : List Mn} {k : Nat} (h : k < E.length) : (mixL p E k)[k]? = some E[k] := by
  unfold mixL
  rw [List.getElem?_append_right (by rw [List.length_map, List.length_take]; omega), List.length_map, List.length_take, Nat.min_eq_left (by omega), Nat.sub_self, List.getElem?_drop, Nat.add_zero, List.getElem?_eq_getElem h]
theorem mixL_succ {p : Int} {E : List Mn} {k : Nat} (h : k < E.length) : mixL p E (k + 1) = (mixL p E k).set k (decP p E[k]) := by
  unfold mixL
  rw [List.set_append_right _ _ (by rw [List.length_map, List.length_take]; omega), List.length_map, List.length_take, Nat.min_eq_left (by omega), Nat.sub_self, List.take_add_one, List.getElem?_eq_getElem h, List.map_append, List.append_assoc]
  congr 1
  rw [List.drop_eq_getElem_cons h]
  rfl
theorem mixL_same {p : Int} {E : List Mn} {k : Nat} (h : k < E.length) (hd : decP p E[k] = E[k]) : mixL p E (k + 1) = mixL p E k := by
  rw [mixL_succ h, hd]
  have h1 := mixL_at (p := p) h
  obtain ⟨h2, h3⟩ := List.getElem?_eq_some_iff.1 h1
  rw [← h3]
  exact List.set_getElem_self h2
theorem mnV_set : ∀ (l : List Mn) (k : Nat) (q : Int) (h : k < l.length), (mnV l).set (k * 4) (.int .i64 q) = mnV (l.set k { l[k] with place := q })
  | [], k, q, h => by simp at h
  | x :: l, 0, q, h => rfl
  | x :: l, k + 1, q, h => by
    have ih := mnV_set l k q (by simpa using h)
    show (mn4 x ++ mnV l).set ((k + 1) * 4) _ = mn4 x ++ mnV (l.set k { l[k]'(by simpa using h) with place := q })
    rw [← ih, show (k + 1) * 4 = 4 + k * 4 by omega, List.set_append_right _ _ (show (mn4 x).length ≤ 4 + k * 4 by show 4 ≤ _; omega)]
    congr 2
    show 4 + k * 4 - 4 = k * 4
    omega
def upT (m k : Nat) : Nat := if k ≤ m then k else k + 1
section
variable {W : World} {K : VK} {E : List PanicEntry → Hp → Prop} {s : Hp} {T : PT}
theorem c_Stay {x y : Option Addr} {c c' : Nat} {m : Int} (hx : MnAt s x T.men) (hy : PzAt s y T.list) (h : ∀ s', Ext s s' → K (.tuple #[.int .i64 (stayR T m).1, .int .i64 (stayR T m).2]) s') :
    CALL Pg W F_prize_Stay [.agg #[.slice x T.n c, .slice y T.z c'], .int .i64 m] K E s := by
  refine does_prize_Stay W x T.n c y T.z c' m _ s ?_
  unfold T_prize_Stay
  refine ne2 fun s1 e1 z1 o1 o2 => ?_
  refine nz1 zc_29 fun s2 e2 z2 o3 => ?_
  have e02 := e1.trans e2
  refine ⟨_, _, _, e2.cell o1.cell, _, _, _, e2.cell o2.cell, ?_⟩
  have hs1 : s.size ≤ s1.size := e1.1
  refine c_open (hx.ext e02) (hy.ext e02) (fun hok s3 p e3 hp => ?_) (fun hok s3 e3 => ?_)
  · try simp only [TUP_mk, AGG_mk, HD_mk, NL_mk, TYI_mk, TYB_mk, TYP_mk, TYL_mk, TYS_mk, TYM_mk, SO_mk, NX_mk, endK_mk, endK_mk', add_0]
    have e03 := e02.trans e3
    have hs3 : s1.size < s3.size := by have := e3.1; omega
    have hv := okP_vd hok
    have h8 := hv.n8
    have h6 := hv.z6
    have hn1 := hv.n1
    refine c_isMan hp ?_
    try simp only [TUP_mk, AGG_mk, HD_mk, NL_mk, TYI_mk, TYB_mk, TYP_mk, TYL_mk, TYS_mk, TYM_mk, SO_mk, NX_mk, endK_mk, endK_mk', add_0]
    refine c_must (fun hm => ?_) (fun hm => ?_)
    · try simp only [TUP_mk, AGG_mk, HD_mk, NL_mk, TYI_mk, TYB_mk, TYP_mk, TYL_mk, TYS_mk, TYM_mk, SO_mk, NX_mk, endK_mk, endK_mk', add_0]
      have hM : isM T m = true := hm
      have hm' := of_decide_eq_true hm
      obtain ⟨j, rfl⟩ := Int.eq_ofNat_of_zero_le hm'.1
      have hj : j < T.n := by omega
      have hR : stayR T (j : Int) = if T.n = 1 then (0, 0) else (((setK (gainB T j) T.n : Nat) : Int), 0) := by unfold stayR; rw [if_pos hok, if_pos hM, toNat_nat]
      refine c_due hp fun s4 dx dc e4 f4 => ?_
      try simp only [TUP_mk, AGG_mk, HD_mk, NL_mk, TYI_mk, TYB_mk, TYP_mk, TYL_mk, TYS_mk, TYM_mk, SO_mk, NX_mk, endK_mk, endK_mk', add_0]
      have hdl : (manL (dueP T)).length = T.z := by unfold manL dueP; simp [dueL_len]
      have hdr := due_range hv T.z
      refine (fun hh => by rw [← hdl]; exact hh : CALL Pg W F_prize_prizes_worths [.pointer (some p), .slice dx (manL (dueP T)).length dc] _ _ s4 → CALL Pg W F_prize_prizes_worths [.pointer (some p), .slice dx T.z dc] _ _ s4) ?_
      refine c_worths (hp.ext e4) f4.row hdl hdr fun s5 wx wc e5 f5 => ?_
      try simp only [TUP_mk, AGG_mk, HD_mk, NL_mk, TYI_mk, TYB_mk, TYP_mk, TYL_mk, TYS_mk, TYM_mk, SO_mk, NX_mk, endK_mk, endK_mk', add_0]
      have e25 := e3.trans (e4.trans e5)
      have e15 := e2.trans e25
      have e05 := e1.trans e15
      have oB := e25.own o3
      have hs5 : s3.size ≤ s5.size := (e4.trans e5).1
      refine ⟨_, _, _, e15.cell o1.cell, ?_⟩
      refine BR_eq (fun h1 => ?_) (fun h1 => ?_)
      · have h1' : T.n = 1 := by omega
        refine ep_ok oB fun t k => ?_
        have := h t (ext_kp e05 hs1 k)
        rw [hR, if_pos h1'] at this
        exact this
      have hnn : ¬ T.n = 1 := fun e => h1 (by rw [e]; rfl)
      have h2 : 2 ≤ T.n := by omega
      have hne1 : ¬ T.n = 1 := by omega
      rw [if_neg hne1] at hR
      refine ⟨_, _, _, e15.cell o1.cell, _, _, _, e15.cell o2.cell, ?_⟩
      refine nw2 zc_25 rfl rfl fun s6 e6 z6 q1 q2 => ?_
      have e16 := e15.trans e6
      have e06 := e1.trans e16
      refine ⟨_, _, _, e16.cell o1.cell, ?_⟩
      refine c_CloneW (l := T.men) (hx.ext e06) (by show 0 < T.n; omega) (by show T.n ≤ 1000; omega) fun s7 a ac e7 f7 => ?_
      try simp only [TUP_mk, AGG_mk, HD_mk, NL_mk, TYI_mk, TYB_mk, TYP_mk, TYL_mk, TYS_mk, TYM_mk, SO_mk, NX_mk, endK_mk, endK_mk', add_0]
      rw [wrap_succ (by omega)]
      have hda : s6.size ≤ a.block := f7.fr a rfl
      refine c_Delete (lo := s6.size) (m := j) f7 hj (by show T.n ≤ 1000; omega) fun s8 k8 f8 => ?_
      try simp only [TUP_mk, AGG_mk, HD_mk, NL_mk, TYI_mk, TYB_mk, TYP_mk, TYL_mk, TYS_mk, TYM_mk, SO_mk, NX_mk, endK_mk, endK_mk', add_0]
      have e68 : Ext s6 s8 := ext_kp e7 hda k8
      have q1' := e68.own q1
      have q2' := e68.own q2
      refine WR_own q1' rfl ?_
      have q1w := own_set (v := .slice (some a) (T.men.length - 1) ac) q1'
      have q2w : Own (setC s8 ⟨s5.size, 0, none⟩ (.slice (some a) (T.men.length - 1) ac)) ⟨s5.size, 1, none⟩ (.slice y T.z c') := own_set_ne (.inr (by show (1 : Nat) ≠ 0; omega)) q2'
      have e58 : Ext s5 (setC s8 ⟨s5.size, 0, none⟩ (.slice (some a) (T.men.length - 1) ac)) := Ext.setC (e6.trans e68) (Nat.le_refl _)
      have f8w : Fr s6.size (setC s8 ⟨s5.size, 0, none⟩ (.slice (some a) (T.men.length - 1) ac)) (some a) (T.men.length - 1) ac 4 (mnV (T.men.eraseIdx j)) := f8.kp (D := (· = s5.size)) (Kp.setC (Kp.refl _) (.inl rfl)) (fun b hb he => by cases hb; have : a.block = s5.size := he; omega)
      generalize hs9 : setC s8 ⟨s5.size, 0, none⟩ (.slice (some a) (T.men.length - 1) ac) = s9 at *
      refine ⟨_, _, _, q1w.cell, ?_⟩
      have hEl : (T.men.eraseIdx j).length = T.n - 1 := List.length_eraseIdx_of_lt hj
      have hTl : T.men.length - 1 = T.n - 1 := rfl
      rw [hTl] at *
      generalize hE : T.men.eraseIdx j = EE at *
      generalize hpl : (T.man j).place = pl at *
      refine L_prize_Stay_0_rule W _ j ⟨s.size, 0, none⟩ ⟨s1.size, 0, none⟩ wx T.n wc ⟨s5.size, 0, none⟩ ((T.n - 1 : Nat) : Int) (fun n t => Ext s5 t ∧ Own t ⟨s5.size, 0, none⟩ (.slice (some a) (T.n - 1) ac) ∧ Own t ⟨s5.size, 1, none⟩ (.slice y T.z c') ∧ ∃ k : Nat, k ≤ T.n - 1 ∧ n = k ∧ Fr s6.size t (some a) (T.n - 1) ac 4 (mnV (mixL pl EE k))) (fun n _ => (((T.n - 1 : Nat) : Int) - n).toNat) 0 s9
        ⟨e58, q1w, q2w, 0, by omega, rfl, (show mnV EE = mnV (mixL pl EE 0) from rfl) ▸ f8w⟩ ?_
      rintro n t ⟨et, p1, p2, k, hk, rfl, hfr⟩
      unfold B_prize_Stay_0
      have e1t := e15.trans et
      refine BR_dec (fun hlt => ?_) (fun hlt => ?_)
      · have hkn : k < T.n - 1 := by omega
        have hkE : k < EE.length := by omega
        have hml := mixL_len pl EE k
        have hkm : k < (mixL pl EE k).length := by omega
        have hat := (List.getElem?_eq_some_iff.1 (mixL_at (p := pl) hkE)).2
        obtain ⟨b, hb, cb⟩ := row_get hfr.row (mnV_get (mixL pl EE k) k hkm).1
        cases hb
        have hEp := erase_ne hv hj (w := EE[k]) (by rw [hE]; exact List.getElem_mem hkE)
        rw [hat] at cb
        refine ⟨_, _, _, p1.cell, ?_⟩
        refine IXS_nat hkn ?_
        refine ⟨_, cb, ?_⟩
        refine ⟨_, _, _, e1t.cell o1.cell, ?_⟩
        obtain ⟨ax, w0, w1, w2, w3, w4⟩ := man_row (hx.ext (e1.trans e1t)) hj
        refine IXS_at w0 hj ?_
        refine ⟨_, w1, ?_⟩
        rw [hpl]
        refine BR_dec (fun h3 => ?_) (fun h3 => ?_)
        · refine ⟨_, _, _, p1.cell, ?_⟩
          refine IXS_nat hkn ?_
          refine ⟨_, cb, ?_⟩
          refine IXS_nat hkn ?_
          rw [wrap_i64 (by omega) (by omega)]
          have hi4 : k * 4 < (mnV (mixL pl EE k)).length := by rw [mnV_len]; omega
          have hown := hfr.buf.at hi4
          have hset := hfr.buf.set (v := .int .i64 (EE[k].place - 1)) hi4
          refine WR_own hown rfl ?_
          unfold J_prize_Stay_0
          have hb6 : s6.size ≤ (a.add (k * 4)).block := by rw [add_blk]; exact hda
          have hne6 : (⟨s5.size, 0, none⟩ : Addr).block ≠ (a.add (k * 4)).block := by show s5.size ≠ _; omega
          refine ⟨rfl, _, rfl, ⟨Ext.setC et (by show s5.size ≤ (a.add (k * 4)).block; omega), own_set_ne (.inl hne6) p1, own_set_ne (.inl hne6) p2, k + 1, hkn, wrap_succ (by omega), ?_⟩, ms_succ hkn (by omega)⟩
          have hmm : mnV (mixL pl EE (k + 1)) = (mnV (mixL pl EE k)).set (k * 4) (.int .i64 (EE[k].place - 1)) := by
            rw [mnV_set _ _ _ hkm, mixL_succ hkE, hat]
            unfold decP
            rw [if_pos h3]
          rw [hmm]
          exact ⟨hset, by rw [List.length_set]; exact hfr.len, hfr.fr, hfr.cap⟩
        · unfold J_prize_Stay_0
          refine ⟨rfl, _, rfl, ⟨et, p1, p2, k + 1, hkn, wrap_succ (by omega), ?_⟩, ms_succ hkn (by omega)⟩
          rw [mixL_same hkE (by unfold decP; rw [if_neg h3])]
          exact hfr
      · have hkn : k = T.n - 1 := by omega
        subst hkn
        have hmix : mixL pl EE (T.n - 1) = (withoutP T j).men := by
          unfold mixL withoutP
          rw [hE, hpl, ← hEl, List.take_length, List.drop_length, List.append_nil]
        rw [hmix] at hfr
        have hokW := ok_without hok hj h2
        have hvW := okP_vd hokW
        have hnW : (withoutP T j).n = T.n - 1 := without_n hj
        have h6W := hvW.z6
        have h8W := hvW.n8
        have e0t := e1.trans e1t
        refine ⟨_, _, _, p1.cell, _, _, _, p2.cell, ?_⟩
        dsimp only
        rw [← hnW]
        refine c_open (T := withoutP T j) (row_mn hfr.row) (hy.ext e0t) (fun _ t1 p' f1 hp' => ?_) (fun hbad => by rw [hokW] at hbad; cases hbad)
        try simp only [TUP_mk, AGG_mk, HD_mk, NL_mk, TYI_mk, TYB_mk, TYP_mk, TYL_mk, TYS_mk, TYM_mk, SO_mk, NX_mk, endK_mk, endK_mk', add_0]
        refine c_due hp' fun t2 dx' dc' f2 g2 => ?_
        try simp only [TUP_mk, AGG_mk, HD_mk, NL_mk, TYI_mk, TYB_mk, TYP_mk, TYL_mk, TYS_mk, TYM_mk, SO_mk, NX_mk, endK_mk, endK_mk', add_0]
        have hdl' : (manL (dueP (withoutP T j))).length = (withoutP T j).z := by unfold manL dueP; simp [dueL_len]
        have hdr' := due_range hvW (withoutP T j).z
        refine (fun hh => by rw [← hdl']; exact hh : CALL Pg W F_prize_prizes_worths [.pointer (some p'), .slice dx' (manL (dueP (withoutP T j))).length dc'] _ _ t2 → CALL Pg W F_prize_prizes_worths [.pointer (some p'), .slice dx' (withoutP T j).z dc'] _ _ t2) ?_
        refine c_worths (hp'.ext f2) g2.row hdl' hdr' fun t3 wx' wc' f3 g3 => ?_
        try simp only [TUP_mk, AGG_mk, HD_mk, NL_mk, TYI_mk, TYB_mk, TYP_mk, TYL_mk, TYS_mk, TYM_mk, SO_mk, NX_mk, endK_mk, endK_mk', add_0]
        have ft := f1.trans (f2.trans f3)
        have e5t3 := et.trans ft
        have f5t := f5.ext e5t3
        have oB3 := e5t3.own oB
        have hwl : (worP T (manL (dueP T))).length = T.n := worP_len
        have hwl' : (worP (withoutP T j) (manL (dueP (withoutP T j)))).length = T.n - 1 := by rw [worP_len, hnW]
        rw [hnW]
        rw [hnW] at g3
        generalize hB : gainB T j = B at *
        have hBj : B j = false := by rw [← hB]; unfold gainB; simp
        refine L_prize_Stay_1_rule W _ j ⟨s1.size, 0, none⟩ wx T.n wc wx' (T.n - 1) wc' ((T.n - 1 : Nat) : Int) (fun n8 n9 t => t = t3 ∧ ∃ k : Nat, k ≤ T.n - 1 ∧ n9 = k ∧ n8 = (setK B (upT j k) : Nat)) (fun _ n9 _ => (((T.n - 1 : Nat) : Int) - n9).toNat) 0 0 t3 ⟨rfl, 0, by omega, rfl, by unfold upT; rw [if_pos (by omega)]; rfl⟩ ?_
        rintro n8 n9 t4 ⟨rfl, k, hk, rfl, rfl⟩
        unfold B_prize_Stay_1
        refine BR_dec (fun hlt2 => ?_) (fun hlt2 => ?_)
        · have hkn : k < T.n - 1 := by omega
          obtain ⟨b1, hb1, g1⟩ := row_int g3.row (by omega : k < (worP (withoutP T j) (manL (dueP (withoutP T j)))).length)
          refine IXS_at hb1 hkn ?_
          refine ⟨_, g1, ?_⟩
          generalize hnx : (fun vs : List Value => _) = nx
          have step : ∀ i : Nat, i = upK j k → J_prize_Stay_2 W (endK K E) wx T.n i ((worP (withoutP T j) (manL (dueP (withoutP T j)))).getD k 0) j ⟨s1.size, 0, none⟩ wc wx' (T.n - 1) wc' ((T.n - 1 : Nat) : Int) nx (setK B (upT j k) : Nat) k t4 := by
            intro i hi
            have hin : i < T.n := by rw [hi]; unfold upK; split <;> omega
            have hij : ¬ i = j := by rw [hi]; unfold upK; split <;> omega
            have hidx : (if i > j then i - 1 else i) = k := by rw [hi]; unfold upK; split <;> split <;> omega
            have hgain : B i = decide ((worP (withoutP T j) (manL (dueP (withoutP T j)))).getD k 0 > (worP T (manL (dueP T))).getD i 0) := by
              rw [← hB]; unfold gainB
              rw [decide_eq_false hij, hidx]; rfl
            have hset : setK B (upT j (k + 1)) = setK B (upT j k) + if B i then 2 ^ i else 0 := by
              rw [hi]
              unfold upT upK
              rcases Nat.lt_trichotomy k j with hl | hl | hl
              · have a1 : k + 1 ≤ j := hl
                have a2 : k ≤ j := by omega
                have a3 : ¬ k ≥ j := by omega
                simp only [a1, a2, a3, if_true, if_false]
                rfl
              · subst hl
                have a1 : ¬ k + 1 ≤ k := by omega
                have a2 : k ≥ k := Nat.le_refl _
                simp only [a1, a2, Nat.le_refl, if_true, if_false]
                show setK B (k + 1) + _ = _
                have : setK B (k + 1) = setK B k := by show setK B k + _ = _; rw [hBj]; simp
                rw [this]
              · have a1 : ¬ k + 1 ≤ j := by omega
                have a2 : ¬ k ≤ j := by omega
                have a3 : k ≥ j := by omega
                simp only [a1, a2, a3, if_true, if_false]
                rfl
            have hup : upT j k ≤ i := by rw [hi]; unfold upT upK; split <;> split <;> omega
            have hlt3 : setK B (upT j k) < 2 ^ i := Nat.lt_of_lt_of_le (setK_lt B _) (Nat.pow_le_pow_right (by omega) hup)
            have h256 : (2 : Nat) ^ i ≤ 2 ^ 8 := Nat.pow_le_pow_right (by omega) (by omega)
            unfold J_prize_Stay_2
            obtain ⟨b2, hb2, g2'⟩ := row_int f5t.row (by omega : i < (worP T (manL (dueP T))).length)
            refine IXS_at hb2 hin ?_
            refine ⟨_, g2', ?_⟩
            refine BR_dec (fun h4 => ?_) (fun h4 => ?_)
            · rw [decide_eq_true h4] at hgain
              refine NNI_of (by omega) ?_
              unfold J_prize_Stay_1
              rw [or_bit _ (by omega) i (by omega) hlt3, ← hnx]
              refine ⟨rfl, _, _, rfl, ⟨rfl, k + 1, hkn, wrap_succ (by omega), ?_⟩, ms_succ hkn (by omega)⟩
              rw [hset, hgain]; rfl
            · rw [decide_eq_false h4] at hgain
              unfold J_prize_Stay_1
              rw [← hnx]
              refine ⟨rfl, _, _, rfl, ⟨rfl, k + 1, hkn, wrap_succ (by omega), ?_⟩, ms_succ hkn (by omega)⟩
              rw [hset, hgain]; rfl
          refine BR_dec (fun h4 => ?_) (fun h4 => ?_)
          · rw [wrap_succ (by omega)]
            exact step (k + 1) (by unfold upK; rw [if_pos (by omega)])
          · exact step k (by unfold upK; rw [if_neg (by omega)])
        · have hkn : k = T.n - 1 := by omega
          subst hkn
          have hfin : setK B (upT j (T.n - 1)) = setK B T.n := by
            unfold upT
            by_cases hl : T.n - 1 ≤ j
            · rw [if_pos hl]
              have hjn : j = T.n - 1 := by omega
              have : setK B (T.n - 1 + 1) = setK B (T.n - 1) := by
                show setK B (T.n - 1) + _ = _
                rw [← hjn, hBj]; simp
              rw [← this, show T.n - 1 + 1 = T.n by omega]
            · rw [if_neg hl, show T.n - 1 + 1 = T.n by omega]
          rw [hfin]
          refine ep_ok oB3 fun t5 k5 => ?_
          have := h t5 (ext_kp (e05.trans e5t3) hs1 k5)
          rw [hR] at this
          exact this
    · try simp only [TUP_mk, AGG_mk, HD_mk, NL_mk, TYI_mk, TYB_mk, TYP_mk, TYL_mk, TYS_mk, TYM_mk, SO_mk, NX_mk, endK_mk, endK_mk', add_0]
      refine ep_err (e3.own o3) fun s5 k5 => ?_
      have := h s5 (ext_kp e03 hs1 k5)
      unfold stayR at this
      have hM : isM T m = false := hm
      rw [if_pos hok, hM] at this
      exact this
  · try simp only [TUP_mk, AGG_mk, HD_mk, NL_mk, TYI_mk, TYB_mk, TYP_mk, TYL_mk, TYS_mk, TYM_mk, SO_mk, NX_mk, endK_mk, endK_mk', add_0]
    refine ep_err (e3.own o3) fun s5 k5 => ?_
    have := h s5 (ext_kp (e02.trans e3) hs1 k5)
    unfold stayR at this
    rw [hok] at this
    exact this
end
end Go.Proofs.Ytfaeokcbfnlgbaa.G

/- Prize: rows of numbers: copies, what is in them, what an iterator yields. -/
set_option linter.unusedSimpArgs false
set_option linter.unusedVariables false
set_option maxRecDepth 20000
namespace Go.Proofs.Ytfaeokcbfnlgbaa.G
open Go.V
def nats (l : List Nat) : List Int := l.map fun (m : Nat) => (m : Int)
section
variable {W : World} {K : VK} {E : List PanicEntry → Hp → Prop} {s : Hp} {p : Addr} {T : PT} {R : Hp → Prop} {f : Nat → Bool} {v : Value}
theorem c_Contains {x : Option Addr} {c l : Nat} {ds : List Int} {n : Int} (hx : RowAt s x (ints ds)) (hl : l = ds.length) (h8 : ds.length ≤ 100000) (h : K (.bool (decide (n ∈ ds))) s) : CALL Pg W F_slices_Contains_int_int [.slice x l c, .int .i64 n] K E s := by
  subst hl
  refine does_slices_Contains_int_int W x _ c n _ s ?_
  unfold T_slices_Contains_int_int
  refine does_slices_Index_int_int W x _ c n _ s ?_
  unfold T_slices_Index_int_int
  refine L_slices_Index_int_int_0_rule W _ x ds.length c n ds.length (fun i t => t = s ∧ ∃ k : Nat, k ≤ ds.length ∧ i = k ∧ ∀ j, j < k → ds.getD j 0 ≠ n) (fun i _ => (ds.length - i).toNat) 0 s ⟨rfl, 0, by omega, rfl, fun j hj => by omega⟩ ?_
  rintro i t ⟨rfl, k, hk, rfl, hno⟩
  unfold B_slices_Index_int_int_0
  refine BR_dec (fun h1 => ?_) (fun h1 => ?_)
  · have hkl : k < ds.length := by omega
    obtain ⟨a, ha, g⟩ := row_int hx hkl
    refine IXS_at ha hkl ?_
    refine ⟨_, g, ?_⟩
    refine BR_eq (fun h2 => ?_) (fun h2 => ?_)
    · have hm : n ∈ ds := by rw [h2, getD_lt hkl]; exact List.getElem_mem hkl
      try simp only [TUP_mk, AGG_mk, HD_mk, NL_mk, TYI_mk, TYB_mk, TYP_mk, TYL_mk, TYS_mk, TYM_mk, SO_mk, NX_mk, endK_mk, endK_mk', add_0]
      rw [decide_eq_true hm] at h
      have : decide ((k : Int) ≥ 0) = true := decide_eq_true (by omega)
      rw [this]; exact h
    · refine ⟨rfl, _, rfl, ⟨rfl, k + 1, hkl, wrap_succ (by omega), fun j hj => ?_⟩, ms_succ hkl (by omega)⟩
      by_cases e : j = k
      · subst e; exact fun hh => h2 hh.symm
      · exact hno j (by omega)
  · have hm : ¬ n ∈ ds := fun hm => by
      obtain ⟨j, hj, e⟩ := List.mem_iff_getElem.1 hm
      exact hno j (by omega) (by rw [getD_lt hj]; exact e)
    try simp only [TUP_mk, AGG_mk, HD_mk, NL_mk, TYI_mk, TYB_mk, TYP_mk, TYL_mk, TYS_mk, TYM_mk, SO_mk, NX_mk, endK_mk, endK_mk', add_0]
    rw [decide_eq_false hm] at h
    exact h
theorem c_CloneI {x : Option Addr} {c l : Nat} {ds : List Int} (hx : RowAt s x (ints ds)) (hl : l = ds.length) (h8 : ds.length ≤ 1000) (h : ∀ s' x' c', Ext s s' → Fr s.size s' x' ds.length c' 1 (ints ds) → K (.slice x' ds.length c') s') : CALL Pg W F_slices_Clone_int_int [.slice x l c] K E s := by
  subst hl
  refine does_slices_Clone_int_int W x ds.length c _ s ?_
  unfold T_slices_Clone_int_int
  cases x with
  | none =>
    have hd : ds = [] := by
      cases hq : ds with
      | nil => rfl
      | cons d r =>
        obtain ⟨a, ha, _⟩ := hx 0 (by rw [ints_len, hq]; simp)
        cases ha
    subst hd
    refine BR_tt rfl ?_
    exact h s none 0 (Ext.refl _) (Fr.nil _ _ _)
  | some a =>
    refine BR_ff rfl ?_
    refine NEW_rule fun s1 e1 z1 n1 _ => ?_
    have hf : Fr s.size s1 (some ⟨s.size, 0, none⟩) 0 0 1 [] := ⟨⟨Nat.le_refl _, fun i hi => by omega⟩, rfl, fun a ha => by cases ha; exact Nat.le_refl _, by omega⟩
    refine APP_fr (lo := s.size) hf e1.1 (ws := ints ds) (hx.ext e1) (by rw [ints_len, Nat.mul_one]) zc_3 rfl (by omega) (ints_one ds) (by omega) fun s2 x2 c2 k2 hx2 g2 => ?_
    rw [Nat.zero_add, List.nil_append] at g2
    rw [Nat.zero_add]
    have e2 : Ext s s2 := kp_nil e1 (fun b hb => by obtain ⟨y, hy, rfl⟩ := hb; cases hy; exact Nat.le_refl _) k2
    exact h s2 x2 c2 e2 g2
/-- All who are wanted, as a row. -/
theorem c_Collect {a b : Addr} (hp : PrO s p T) (hf : IsFn W v T.n R f) (hR : R s) (ca : cellAt s a = some (.pointer (some p))) (cb : cellAt s b = some v) (h : ∀ s' x c, Ext s s' → Fr s.size s' x (ordF T f).length c 1 (ints (nats (ordF T f))) → K (.slice x (ordF T f).length c) s') :
    CALL Pg W F_slices_Collect_int [.func (.func 85) #[] #[.pointer (some a), .pointer (some b)]] K E s := by
  have hvd := okP_vd hp.ok
  have h8 := hvd.n8
  refine does_slices_Collect_int W _ _ s ?_
  unfold T_slices_Collect_int
  refine does_slices_AppendSeq_int_int W none 0 0 _ _ s ?_
  unfold T_slices_AppendSeq_int_int
  refine ne1 fun s1 e1 z1 o1 => ?_
  have hlen : (ordF T f).length ≤ 8 := by unfold ordF; exact Nat.le_trans (List.length_filter_le _ _) (by rw [ord_len]; exact h8)
  refine rng_order (W := W) (p := p) hf (fun k t => Ext s t ∧ ∃ x l c, Own t ⟨s.size, 0, none⟩ (.slice x l c) ∧ Fr (s.size + 1) t x l c 1 (ints (nats ((ordF T f).take k))) ∧ s.size + 1 ≤ t.size) (fun _ _ => False)
    (fun k t ht => ⟨hp.ext ht.1, ht.1.cell ca, ht.1.cell cb, hf.ext _ _ hR ht.1⟩) (fun k t t' ht e => ⟨ht.1.trans e, by obtain ⟨x, l, c, g1, g2, g3⟩ := ht.2; exact ⟨x, l, c, e.own g1, g2.ext e, Nat.le_trans g3 e.1⟩⟩)
    ⟨e1, none, 0, 0, o1, Fr.nil _ _ _, by omega⟩ ?_ ?_ (fun _ _ h => h.elim)
  · rintro k m hkm hmn t ⟨et, x, l, c, g1, g2, g3⟩
    try simp only [TUP_mk, AGG_mk, HD_mk, NL_mk, TYI_mk, TYB_mk, TYP_mk, TYL_mk, TYS_mk, TYM_mk, SO_mk, NX_mk, endK_mk, endK_mk', add_0]
    refine ⟨_, _, _, g1.cell, ?_⟩
    refine ne1 fun t2 f2 y2 q2 => ?_
    have hkl := (List.getElem?_eq_some_iff.1 hkm).1
    have hl : l = k := by have := g2.len; unfold nats at this; rw [ints_len, List.length_map, List.length_take] at this; omega
    refine APP_fr (lo := s.size + 1) (g2.ext f2) (by have := f2.1; omega) (ws := [.int .i64 (m : Nat)]) (fun i hi => ⟨⟨t.size, 0, none⟩, rfl, ?_⟩) rfl zc_3 rfl (by omega) (by simp [oneCell]) (by omega) fun t3 x3 c3 k3 hx3 g4 => ?_
    · have hi0 : i = 0 := by simp at hi; omega
      subst hi0; exact q2.cell
    have o3 : Own t3 ⟨s.size, 0, none⟩ (.slice x l c) := k3.own (fun hb => by obtain ⟨y, hy, hyb⟩ := hb; have := g2.fr y hy; have : y.block = s.size := hyb; omega) (f2.own g1)
    refine WR_own o3 rfl ?_
    have e3 : Ext s t3 := kp_nil (et.trans f2) (fun b hb => by obtain ⟨y, hy, rfl⟩ := hb; have := g2.fr y hy; omega) k3
    refine ⟨Ext.setC e3 (Nat.le_refl _), x3, l + 1, c3, own_set o3, ?_, by have h1 := f2.1; have h2 := k3.1; rw [setC_size]; omega⟩
    have ht : nats ((ordF T f).take (k + 1)) = nats ((ordF T f).take k) ++ [(m : Int)] := by
      unfold nats
      rw [List.take_add_one, hkm, List.map_append]; rfl
    rw [ht, ints_app]
    refine g4.kp (D := (· = s.size)) (Kp.setC (Kp.refl _) (.inl rfl)) (fun y hy hb => ?_)
    have := g4.fr y hy
    have : y.block = s.size := hb
    omega
  · rintro t ⟨et, x, l, c, g1, g2, g3⟩
    rw [List.take_length] at g2
    have hl : l = (ordF T f).length := by have := g2.len; unfold nats at this; rw [ints_len, List.length_map] at this; omega
    subst hl
    refine ⟨_, _, _, g1.cell, ?_⟩
    try simp only [TUP_mk, AGG_mk, HD_mk, NL_mk, TYI_mk, TYB_mk, TYP_mk, TYL_mk, TYS_mk, TYM_mk, SO_mk, NX_mk, endK_mk, endK_mk', add_0]
    exact h t x c et (g2.le (by omega))
end
end Go.Proofs.Ytfaeokcbfnlgbaa.G

/- Prize: a row that grows by zeros; rows that do not overlap. -/
set_option linter.unusedSimpArgs false
set_option linter.unusedVariables false
set_option maxRecDepth 20000
namespace Go.Proofs.Ytfaeokcbfnlgbaa.G
open Go.V
theorem APPZ_gen {P : Program} {t0 t1 e : TypeId} {k1 : IntKind} {i : TypeInfo} {v : Value} {x : Option Addr} {l c m : Nat} {ws : List Value} {s : Hp} {K : Option Addr → Nat → Nat → Hp → Prop} (hu : P.underlying t0 = some (.slice e)) (hu1 : P.underlying t1 = some (.int k1)) (hi : P.info? e = some i) (hv : i.zero = some v) (hz : zc P e = v.cells.toList) (hs1 : i.size = 1) (hby : i.bytes ≤ 1000) (hby1 : 1 ≤ i.bytes)
    (hm : 0 < m) (hgt : c < l + m) (hlm : l + m ≤ 1000000) (hws : cellsOpt s x l = some ws) (h : ∀ c', l + m ≤ c' → c' < 9223372036854775808 → K (some ⟨s.size, 0, none⟩) (l + m) c' (s.push (.cells (ws ++ repL m (zc P e) ++ repL (c' - (l + m)) (zc P e)).toArray e (0, 0)))) :
    APPZ P [t0, t1] (.slice x l c) (.int .i64 (m : Nat)) K s := by
  unfold APPZ SLV
  simp only [Builtin.append_, List.getElem?_toArray, List.getElem?_cons_zero, List.getElem?_cons_succ]
  rw [sp_bind, sp_und hu]
  simp only []
  rw [sp_bind, sp_size hi, sp_bind, sp_und hu1, sp_bind]
  simp only [sp_pure, if_true, asInt, sp_bind]
  have hw : IntKind.i64.wrap ((m : Nat) : Int) = (m : Int) := wrap_i64 (by omega) (by omega)
  simp only [asIntOf, sp_pure]
  rw [hw, if_neg (by omega)]
  have hmbN : m * i.bytes ≤ 1000000 * 1000 := Nat.mul_le_mul (by omega) hby
  have hmb : ¬ ((m : Int) * (i.bytes : Int) > 2 ^ 48) := by
    have : ((m * i.bytes : Nat) : Int) ≤ 1000000000 := by omega
    rw [Int.natCast_mul] at this
    omega
  simp only [sp_pure, sp_bind, sp_info hi]
  rw [if_neg hmb]
  simp only [sp_pure, sp_bind, Int.toNat_natCast]
  have hcap := nextcap_le (l + m) c (by omega)
  have hmul : Builtin.nextslicecap (l + m) c * i.bytes ≤ (1000 + 2 * (l + m)) * 1000 := Nat.mul_le_mul hcap hby
  rw [if_neg (by omega)]
  have hg : ¬ (((l + m : Nat) : Int) > IntKind.i64.max ∧ (True ∨ i.bytes = 0)) := by
    rintro ⟨hh, _⟩
    have e : IntKind.i64.max = 9223372036854775807 := rfl
    omega
  simp only [sp_bind, sp_info hi]
  rw [if_neg hg]
  simp only [sp_pure, sp_bind, sp_info hi]
  rw [if_neg (by omega)]
  simp only [sp_pure, sp_bind, sp_info hi]
  show sp P (choose (.appendCap (l + m) c e)) _ _ s
  simp only [choose, sp, Question.forced]
  intro q
  have hq : ∃ c', c' = (Question.appendCap (l + m) c e).cut q ∧ l + m ≤ c' ∧ c' < 9223372036854775808 := by
    refine ⟨_, rfl, ?_, ?_⟩
    · simp only [Question.cut]; omega
    · simp only [Question.cut]
      have := Nat.mod_lt q (show 0 < 2 ^ 63 - (l + m) by omega)
      omega
  obtain ⟨c', hc', hc1, hc2⟩ := hq
  rw [← hc']
  simp only [sp_bind, sp_askRoom]
  rw [hs1]
  refine firstCells_sp (by rw [Nat.mul_one]; exact hws) ?_
  simp only [Bool.not_true, Bool.false_eq_true, if_false]
  rw [if_neg (by omega)]
  simp only [sp_bind, sp_zero hi hv, newRow, sp_new, sp_pure]
  have hrow : ∀ n, Builtin.zeroCells v.cells n = (repL n (zc P e)).toArray := fun n => by rw [hz]; exact rowOf v.cells n
  rw [hrow, hrow]
  have := h c' hc1 hc2
  refine ⟨_, _, _, rfl, ?_⟩
  simpa using this
end Go.Proofs.Ytfaeokcbfnlgbaa.G

/- Prize: rows that do not overlap. -/
set_option linter.unusedSimpArgs false
set_option linter.unusedVariables false
set_option maxRecDepth 20000
namespace Go.Proofs.Ytfaeokcbfnlgbaa.G
open Go.V
theorem ov_gen {P : Program} {tS tR e : TypeId} {i : TypeInfo} {a b : Addr} {la ca lb cb : Nat} {s : Hp} {K : Value → Hp → Prop} {E : Value → Hp → Prop} {tA tB : TypeId} {kA kB : Nat} (ht : P.underlying tS = some (.slice e)) (hi : P.info? e = some i) (hne : a.block ≠ b.block)
    (hsa : shapeAt s a.block = some (tA, kA)) (hsb : shapeAt s b.block = some (tB, kB)) (hkB : kB ≠ 0) (hfa : frozenAt s a = false) (hfe : frozenAt s { block := a.block, off := kA } = false) (h : K (.bool false) s) :
    sp P (Extern.SlicesOverlaps.overlaps #[tS, tS] #[tR] #[.slice (some a) la ca, .slice (some b) lb cb]) K E s := by
  refine (id ?_ : sp P (underlying tS >>= _) K E s)
  rw [sp_bind, sp_und ht]
  refine (id ?_ : sp P (sizeOf e >>= _) K E s)
  rw [sp_bind, sp_size hi]
  have hnb : (a.block != b.block) = true := by simpa using hne
  by_cases h0 : la = 0 ∨ lb = 0 ∨ i.size = 0
  · refine (id ?_ : sp P (if la = 0 ∨ lb = 0 ∨ i.size = 0 then _ else _) K E s)
    rw [if_pos h0]; exact h
  · refine (id ?_ : sp P (if la = 0 ∨ lb = 0 ∨ i.size = 0 then _ else _) K E s)
    rw [if_neg h0]
    cases kB with
    | zero => exact absurd rfl hkB
    | succ kB =>
      have hnb' : (a.block == b.block) = false := by simpa using hne
      simp only [hnb, hnb', Bool.false_and, Bool.true_and, if_true]
      simp only [sp_bind, frozen, sp, hfa, Bool.and_false, Bool.false_and, Bool.false_eq_true, if_false, noView, viewAt, shape, hsa, hsb, Option.isSome_some, if_true, sp_pure, Option.isSome_none, mayBeOne, stringish, hfe]
      by_cases hb : frozenAt s b = true
      · rw [if_pos hb]
        simp only [sp_pure, hsb, Bool.and_false, Bool.or_false, Bool.false_eq_true, if_false]
        exact h
      · rw [if_neg hb]
        simp only [sp_bind, sp, hsb, sp_pure, Bool.and_false, Bool.or_false, Bool.false_eq_true, if_false]
        exact h
theorem fn_86 : Pg.funcs[86]? = some Try.f86 := Try.func86
theorem nm_86 : (Try.f86.name == "runtime.NumGoroutine") = false := by kernel_rfl
theorem bd_86 : Try.f86.body.isNone = true := by kernel_rfl
theorem fx_86 : (Extern.findNext Try.f86).isNone = true := by kernel_rfl
theorem fd_86 : Extern.find Try.f86 = some (Extern.SlicesOverlaps.overlaps #[26, 26] #[4]) := by kernel_rfl
theorem und_26 : Pg.underlying 26 = some (.slice 3) := by kernel_rfl
theorem inf_3 : ∃ i v, Pg.info? 3 = some i ∧ i.size = 1 ∧ (1 ≤ i.bytes ∧ i.bytes ≤ 1000) ∧ i.zero = some v ∧ v.cells.toList = [.int .i64 0] := by
  obtain ⟨i, v, h1, h2, h3⟩ := zero_of (P := Pg) (t := 3) (by kernel_rfl)
  have hs : (Pg.info? 3).map (·.size) = some 1 := by kernel_rfl
  have hb : (Pg.info? 3).map (·.bytes) = some 8 := by kernel_rfl
  rw [h1] at hs hb
  have hb' : i.bytes = 8 := by simpa using hb
  exact ⟨i, v, h1, by simpa using hs, by omega, h2, by rw [← h3]; exact zc_3⟩
theorem ext_gen {P : Program} {f : FuncId} {fn : Func} {e : Array Value → Sem Value} {args : List Value} {s : Hp} {K : VK} (hf : P.funcs[f]? = some fn) (hn : (fn.name == "runtime.NumGoroutine") = false) (hb : fn.body.isNone = true) (hx : Extern.findNext fn = none) (hd : Extern.find fn = some e) (h : sp P (e args.toArray) K (fun _ _ => False) s) : EXT P f args K s := by
  unfold EXT callFunc
  simp only [sp_bind, sp_program, hf, hn, hb, Bool.false_eq_true, if_false, if_true, hx, hd]
  refine (id ?_ : sp P (.mark _ _) _ _ s)
  simp only [sp, sp_bind, sp_pure]
  exact sp_mono P _ (fun v s h => ⟨v, rfl, h⟩) (fun v s h => h) _ h
/-- Two rows in two blocks do not overlap. -/
theorem c_overlaps {a b : Addr} {la ca lb cb : Nat} {s : Hp} {K : VK} {tA tB : TypeId} {kA kB : Nat} (hne : a.block ≠ b.block) (hsa : shapeAt s a.block = some (tA, kA)) (hsb : shapeAt s b.block = some (tB, kB)) (hkB : kB ≠ 0) (hfa : frozenAt s a = false) (hfe : frozenAt s { block := a.block, off := kA } = false) (h : K (.bool false) s) :
    EXT Pg 86 [.slice (some a) la ca, .slice (some b) lb cb] K s := by
  obtain ⟨i, v, hi, _⟩ := inf_3
  have hx : Extern.findNext Try.f86 = none := by
    cases h : Extern.findNext Try.f86 with
    | none => rfl
    | some e => have := fx_86; rw [h] at this; cases this
  exact ext_gen fn_86 nm_86 bd_86 hx fd_86 (ov_gen und_26 hi hne hsa hsb hkB hfa hfe h)
end Go.Proofs.Ytfaeokcbfnlgbaa.G

/- Prize: somebody is put into a row. -/
set_option linter.unusedSimpArgs false
set_option linter.unusedVariables false
set_option maxRecDepth 20000
namespace Go.Proofs.Ytfaeokcbfnlgbaa.G
open Go.V
def insL (os : List Int) (i : Nat) (m : Int) : List Int := os.take i ++ m :: os.drop i
theorem insL_len {os : List Int} {i : Nat} {m : Int} (h : i ≤ os.length) : (insL os i m).length = os.length + 1 := by
  unfold insL; simp; omega
theorem insL_at {os : List Int} {i : Nat} {m : Int} (h : i ≤ os.length) (j : Nat) : (insL os i m)[j]? = if j < i then os[j]? else if j = i then some m else os[j - 1]? := by
  unfold insL
  by_cases h1 : j < i
  · rw [if_pos h1, List.getElem?_append_left (by rw [List.length_take]; omega), List.getElem?_take_of_lt h1]
  · rw [if_neg h1, List.getElem?_append_right (by rw [List.length_take]; omega), List.length_take, Nat.min_eq_left h]
    by_cases h2 : j = i
    · rw [if_pos h2, h2, Nat.sub_self]; rfl
    · rw [if_neg h2]
      obtain ⟨q, hq⟩ : ∃ q, j - i = q + 1 := ⟨j - i - 1, by omega⟩
      rw [hq, List.getElem?_cons_succ, List.getElem?_drop]
      congr 1; omega
section
variable {s : Hp} {K : Hp → Prop}
/-- The cells behind are moved by one, and one is put before them. -/
theorem ins_row {a : Addr} {os : List Int} {i : Nat} {m : Int} (hi : i ≤ os.length) (h1 : ∀ j, j < i → ∃ v, os[j]? = some v ∧ cellAt s (a.add j) = some (.int .i64 v)) (h2 : cellAt s (a.add i) = some (.int .i64 m)) (h3 : ∀ j, j < os.length - i → ∃ v, os[i + j]? = some v ∧ cellAt s (a.add (i + 1 + j)) = some (.int .i64 v)) : RowAt s (some a) (ints (insL os i m)) := fun j hj => by
  rw [ints_len, insL_len hi] at hj
  refine ⟨a, rfl, ?_⟩
  rw [Nat.mul_one]
  have hj' : j < (insL os i m).length := by rw [insL_len hi]; exact hj
  have hg : ∀ v, (insL os i m)[j]? = some v → (ints (insL os i m))[j]'(by rw [ints_len]; exact hj') = .int .i64 v := fun v hv => by
    rw [ints_get]
    congr 1
    exact (List.getElem?_eq_some_iff.1 hv).2
  have hat := insL_at (m := m) hi j
  by_cases q1 : j < i
  · obtain ⟨v, hv, hc⟩ := h1 j q1
    rw [if_pos q1, hv] at hat
    rw [hg v hat]; exact hc
  · rw [if_neg q1] at hat
    by_cases q2 : j = i
    · rw [if_pos q2] at hat
      rw [hg m hat, q2]; exact h2
    · rw [if_neg q2] at hat
      obtain ⟨v, hv, hc⟩ := h3 (j - 1 - i) (by omega)
      rw [show i + (j - 1 - i) = j - 1 by omega] at hv
      rw [show i + 1 + (j - 1 - i) = j by omega] at hc
      rw [hv] at hat
      rw [hg v hat]; exact hc
theorem COPY_rule {x : Addr} {y : Option Addr} {l m n : Nat} {vs : List Value} {K : Int → Hp → Prop} (hn : min m l = n) (hy : RowAt s y vs) (hv : vs.length = n) (h1 : ∀ v ∈ vs, oneCell v = true) (ho : ∀ i, i < n → ∃ v, Own s (x.add i) v)
    (h : ∀ s', Kp (· = x.block) s s' → s'.size = s.size → (∀ i (h : i < vs.length), Own s' (x.add i) vs[i]) → (∀ b y, (b.off < x.off ∨ x.off + n ≤ b.off) → Own s b y → Own s' b y) → K (n : Nat) s') : COPY 1 (some x) l y m K s := by
  refine ⟨vs, by rw [hn, Nat.mul_one, ← hv]; exact hy.cells, ?_⟩
  show wrN vs x 0 (K (min m l : Nat)) s
  rw [hn]
  refine wrN_rule vs x 0 _ s (fun i hi => ?_) h1 fun s1 k1 z1 o1 u1 => ?_
  · rw [Nat.zero_add]; exact ho i (by omega)
  · refine h s1 k1 z1 (fun i hi => ?_) (fun b y hb hy => u1 b y (by omega) hy)
    have := o1 i hi
    rwa [Nat.zero_add] at this
end
end Go.Proofs.Ytfaeokcbfnlgbaa.G

/- Prize: somebody is put into a row. -/
set_option linter.unusedSimpArgs false
set_option linter.unusedVariables false
set_option maxRecDepth 20000
namespace Go.Proofs.Ytfaeokcbfnlgbaa.G
open Go.V
section
variable {W : World} {K : VK} {E : List PanicEntry → Hp → Prop} {s : Hp}
theorem c_Insert {lo l c i : Nat} {x : Option Addr} {os : List Int} {m : Int} {B : Nat} {t : TypeId} (hf : Fr lo s x l c 1 (ints os)) (hlo : lo ≤ s.size) (hi : i ≤ l) (h8 : l ≤ 1000) (hvb : s[B]? = some (.cells #[.int .i64 m] t (0, 0))) (hxB : ∀ a, x = some a → 0 < l → a.block ≠ B)
    (h : ∀ s' x' c', Kp (fun b => lo ≤ b) s s' → (∀ a, x' = some a → lo ≤ a.block) → RowAt s' x' (ints (insL os i m)) → K (.slice x' (l + 1) c') s') :
    CALL Pg W F_slices_Insert_int_int [.slice x l c, .int .i64 (i : Nat), .slice (some ⟨B, 0, none⟩) 1 1] K E s := by
  refine does_slices_Insert_int_int W x l c i (some ⟨B, 0, none⟩) 1 1 _ s ?_
  unfold T_slices_Insert_int_int
  have hol : os.length = l := by have := hf.len; rw [ints_len] at this; omega
  have hcap : l ≤ c := by have := hf.buf.le; rw [ints_len] at this; omega
  have cv : ∀ {s' : Hp}, s'[B]? = s[B]? → cellAt s' ⟨B, 0, none⟩ = some (.int .i64 m) := fun {s'} e => by
    unfold cellAt; rw [e, hvb]; rfl
  have rv : ∀ {s' : Hp}, s'[B]? = s[B]? → RowAt s' (some ⟨B, 0, none⟩) [.int .i64 m] := fun {s'} e j hj => by
    have hj0 : j = 0 := by simp at hj; omega
    subst hj0
    exact ⟨_, rfl, cv e⟩
  have hBlt : B < s.size := (Array.getElem?_eq_some_iff.1 hvb).1
  have hw : IntKind.i64.wrap ((l : Int) + ((1 : Nat) : Int)) = ((l + 1 : Nat) : Int) := by rw [wrap_i64 (by omega) (by omega)]; rfl
  have hwi : IntKind.i64.wrap ((i : Int) + ((1 : Nat) : Int)) = ((i + 1 : Nat) : Int) := by rw [wrap_i64 (by omega) (by omega)]; rfl
  refine ⟨⟨by omega, by omega, by omega⟩, ?_⟩
  refine BR_ff rfl ?_
  refine BR_eq (fun h1 => ?_) (fun h1 => ?_)
  · have hil : i = l := by omega
    refine APP_fr (lo := lo) hf hlo (ws := [.int .i64 m]) (rv rfl) rfl zc_3 rfl (by omega) (by simp [oneCell]) (by omega) fun s2 x2 c2 k2 hx2 g2 => ?_
    refine h s2 x2 c2 (k2.mono fun b hb => by obtain ⟨y, hy, rfl⟩ := hb; exact hf.fr y hy) g2.fr ?_
    have e : ints (insL os i m) = ints os ++ [.int .i64 m] := by
      unfold insL
      rw [hil, ← hol, List.take_length, List.drop_length, ints_app]; rfl
    rw [e]; exact g2.row
  have hil : i < l := by omega
  obtain ⟨a, ha, _⟩ := hf.row 0 (by rw [ints_len]; omega)
  subst ha
  have own : ∀ j, j < c → ∃ y, Own s (a.add j) y ∧ ∀ h : j < os.length, y = .int .i64 os[j] := fun j hj => by
    obtain ⟨a', h1, y, h2, h3⟩ := hf.buf.own j (by omega)
    cases h1
    refine ⟨y, h2, fun hh => ?_⟩
    rw [h3 (by rw [ints_len]; exact hh), ints_get]
  have hla := hf.fr a rfl
  have haB := hxB a rfl (by omega)
  have e0 : (if c = ((0 : Int)).toNat then some a else (some a).map (·.add ((0 : Int).toNat * 1))) = some (a.add 0) := by
    have : ¬ c = ((0 : Int)).toNat := by show ¬ c = 0; omega
    rw [if_neg this]; rfl
  rw [hw]
  refine BR_dec (fun h2 => ?_) (fun h2 => ?_)
  · have hgt : c < l + 1 := by omega
    obtain ⟨d3, v3, hi3, hs3, hb3, hv3, hvc3⟩ := inf_3
    refine ⟨⟨by omega, by omega, by omega⟩, ?_⟩
    rw [e0, hwi]
    have hw2 : IntKind.i64.wrap (((l + 1 : Nat) : Int) - ((i : Nat) : Int)) = ((l + 1 - i : Nat) : Int) := by rw [wrap_i64 (by omega) (by omega)]; omega
    rw [hw2, toNat_nat]
    have ho : ∀ j, j < l → ∃ v, os[j]? = some v ∧ cellAt s (a.add j) = some (.int .i64 v) := fun j hj => by
      obtain ⟨y, hy, hyv⟩ := own j (by omega)
      have hj' : j < os.length := by omega
      rw [hyv hj'] at hy
      exact ⟨os[j], List.getElem?_eq_getElem hj', hy.cell⟩
    have hrow : RowAt s (some (a.add (i * 1))) (ints (os.drop i)) := fun j hj => by
      rw [ints_len, List.length_drop] at hj
      obtain ⟨v, hv, hc⟩ := ho (i + j) (by omega)
      refine ⟨_, rfl, ?_⟩
      rw [ints_get, Nat.mul_one, Nat.mul_one, addr_add, hc, List.getElem_drop]
      rw [List.getElem?_eq_getElem (by omega)] at hv
      rw [Option.some.inj hv]
    have hpre : RowAt s (some (a.add 0)) (ints (os.take i)) := fun j hj => by
      rw [ints_len, List.length_take] at hj
      obtain ⟨v, hv, hc⟩ := ho j (by omega)
      refine ⟨_, rfl, ?_⟩
      rw [ints_get, Nat.mul_one, add_0, hc, List.getElem_take]
      rw [List.getElem?_eq_getElem (by omega)] at hv
      rw [Option.some.inj hv]
    have hpl : (ints (os.take i)).length = i := by rw [ints_len, List.length_take]; omega
    refine APPZ_gen (l := i) (m := l + 1 - i) und_26 und_3 hi3 hv3 (by rw [zc_3, hvc3]) hs3 hb3.2 hb3.1 (by omega) (by show c - 0 < _; omega) (by omega) (by have := hpre.cells; rw [hpl] at this; exact this) fun c' hc1 hc2 => ?_
    rw [zc_3]
    generalize hcs : (ints (os.take i) ++ repL (l + 1 - i) [Value.int .i64 0] ++ repL (c' - (i + (l + 1 - i))) [Value.int .i64 0]) = cs
    have hcl : cs.length = c' := by rw [← hcs, List.length_append, List.length_append, hpl, repL_length, repL_length]; omega
    have hcj : ∀ j, j < i → cs[j]? = some (.int .i64 (os.getD j 0)) := fun j hj => by
      have hj' : j < os.length := by omega
      rw [← hcs, List.append_assoc, List.getElem?_append_left (by omega), List.getElem?_eq_getElem (by omega), ints_get, List.getElem_take, getD_lt hj']
    have e1 : Ext s (s.push (.cells cs.toArray 3 (0, 0))) := Ext.push (Ext.refl s)
    have n1 : ∀ j, j < c' → ∃ y, Own (s.push (.cells cs.toArray 3 (0, 0))) ⟨s.size, j, none⟩ y ∧ (j < i → y = .int .i64 (os.getD j 0)) := fun j hj => by
      refine ⟨cs[j]'(by omega), own_new (List.getElem?_eq_getElem (by omega)), fun hji => ?_⟩
      have := hcj j hji
      rw [List.getElem?_eq_getElem (by omega)] at this
      exact Option.some.inj this
    generalize s.push (.cells cs.toArray 3 (0, 0)) = s1 at *
    have hil1 : i + (l + 1 - i) = l + 1 := by omega
    rw [hil1] at hc1 ⊢
    have hni : ¬ c' = ((i : Nat) : Int).toNat := by rw [toNat_nat]; omega
    have hni1 : ¬ c' = ((i + 1 : Nat) : Int).toNat := by rw [toNat_nat]; omega
    have hnc : ¬ c = ((i : Nat) : Int).toNat := by rw [toNat_nat]; omega
    refine ⟨⟨by omega, by omega, by omega⟩, ?_⟩
    rw [if_neg hni, toNat_nat, toNat_nat]
    show COPY 1 (some ((⟨s.size, 0, none⟩ : Addr).add (i * 1))) _ _ 1 _ s1
    rw [Nat.mul_one, add_nil, Nat.zero_add]
    have hB1 : s1[B]? = s[B]? := e1.2 B hBlt
    refine COPY_rule (n := 1) (by omega) (rv hB1) rfl (by simp [oneCell]) (fun j hj => ?_) fun s2 k2 z2 o2 u2 => ?_
    · have hj0 : j = 0 := by omega
      subst hj0
      obtain ⟨y, hy, _⟩ := n1 i (by omega)
      exact ⟨y, hy⟩
    have k2' : Kp (· = s.size) s1 s2 := k2
    have e2 : Ext s s2 := ext_kp e1 (Nat.le_refl _) k2'
    have fin : (COPY 1 (some ⟨s.size, i + 1, none⟩) (l + 1 - (i + 1)) (some (a.add (i * 1))) (l - i) fun n52 => K (.slice (some ⟨s.size, 0, none⟩) (l + 1) c')) s2 := by
      refine COPY_rule (n := l - i) (by omega) (hrow.ext e2) (by rw [ints_len, List.length_drop]; omega) (ints_one _) (fun j hj => ?_) fun s3 k3 z3 o3 u3 => ?_
      · obtain ⟨y, hy, _⟩ := n1 (i + 1 + j) (by omega)
        rw [add_nil]
        exact ⟨y, u2 _ y (.inr (by show i + 1 ≤ i + 1 + j; omega)) hy⟩
      · have e3 : Ext s s3 := ext_kp e2 (Nat.le_refl _) (k3 : Kp (· = s.size) s2 s3)
        refine h s3 _ _ e3.kp (fun a' h' => by cases h'; exact hlo) ?_
        refine ins_row (by omega) (fun j hj => ?_) ?_ (fun j hj => ?_)
        · obtain ⟨y, hy, hyv⟩ := n1 j (by omega)
          have hj' : j < os.length := by omega
          rw [hyv hj, getD_lt hj'] at hy
          refine ⟨os[j], List.getElem?_eq_getElem hj', ?_⟩
          rw [add_nil, Nat.zero_add]
          exact (u3 _ _ (.inl (by show j < i + 1; omega)) (u2 _ _ (.inl (by show j < i; omega)) hy)).cell
        · have := o2 0 (by simp)
          rw [add_nil, Nat.add_zero] at this
          rw [add_nil, Nat.zero_add]
          exact (u3 _ _ (.inl (by show i < i + 1; omega)) this).cell
        · have hj2 : j < (ints (os.drop i)).length := by rw [ints_len, List.length_drop]; omega
          have := o3 j hj2
          rw [add_nil, ints_get, List.getElem_drop] at this
          refine ⟨os[i + j]'(by omega), List.getElem?_eq_getElem _, ?_⟩
          rw [add_nil, Nat.zero_add]
          exact this.cell
    have e4 : ((some (⟨s.size, 0, none⟩ : Addr)).map (·.add ((i + 1) * 1))) = some ⟨s.size, i + 1, none⟩ := by
      show some ((⟨s.size, 0, none⟩ : Addr).add ((i + 1) * 1)) = _
      rw [Nat.mul_one, add_nil, Nat.zero_add]
    refine CONJ_two ?_ ?_
    · refine ⟨⟨by omega, by omega, by omega⟩, ?_⟩
      refine ⟨⟨by omega, by omega, by omega⟩, ?_⟩
      rw [if_neg hni1, if_neg hnc, toNat_nat, toNat_nat, toNat_nat, toNat_nat, e4]
      exact fin
    · refine ⟨⟨by omega, by omega, by omega⟩, ?_⟩
      refine ⟨⟨by omega, by omega, by omega⟩, ?_⟩
      rw [if_neg hni1, if_neg hnc, toNat_nat, toNat_nat, toNat_nat, toNat_nat, e4]
      exact fin
  · -- in place
    have hfit : l + 1 ≤ c := by omega
    refine ⟨⟨by omega, by omega, by omega⟩, ?_⟩
    rw [e0, hwi]
    refine ⟨⟨by omega, by omega, by omega⟩, ?_⟩
    have hc0 : c - ((0 : Int)).toNat = c := rfl
    have hl0 : ((l + 1 : Nat) : Int).toNat - ((0 : Int)).toNat = l + 1 := rfl
    rw [hc0, hl0]
    have hne1 : ¬ c = ((i + 1 : Nat) : Int).toNat := by rw [toNat_nat]; omega
    have hnei : ¬ c = ((i : Nat) : Int).toNat := by rw [toNat_nat]; omega
    rw [if_neg hne1]
    obtain ⟨y0, hy0, _⟩ := own 0 (by omega)
    obtain ⟨cc, tt, ff, hblk⟩ := block_of_cell hy0.cell
    have hblk' : s[a.block]? = some (.cells cc tt ff) := by rw [add_blk] at hblk; exact hblk
    refine c_overlaps (tA := t) (kA := 1) (tB := tt) (kB := cc.size) (by show B ≠ ((a.add 0).add _).block; rw [add_blk, add_blk]; exact fun e => haB e.symm) (by unfold shapeAt; rw [hvb]; rfl) (by show shapeAt s ((a.add 0).add _).block = _; rw [add_blk, add_blk]; unfold shapeAt; rw [hblk']) (fun hz => ?_) (by unfold frozenAt; rw [hvb]; rfl) (by unfold frozenAt; rw [hvb]; rfl) ?_
    · have hcell := hy0.cell
      unfold cellAt at hcell
      rw [hblk] at hcell
      simp only at hcell
      split at hcell
      · cases hcell
      · have := (Array.getElem?_eq_some_iff.1 hcell).1; omega
    try simp only [TUP_mk, AGG_mk, HD_mk, NL_mk, TYI_mk, TYB_mk, TYP_mk, TYL_mk, TYS_mk, TYM_mk, SO_mk, NX_mk, endK_mk, endK_mk', add_0]
    refine BR_tt rfl ?_
    have ho : ∀ j, j < l → ∃ v, os[j]? = some v ∧ cellAt s (a.add j) = some (.int .i64 v) := fun j hj => by
      obtain ⟨y, hy, hyv⟩ := own j (by omega)
      have hj' : j < os.length := by omega
      rw [hyv hj'] at hy
      exact ⟨os[j], List.getElem?_eq_getElem hj', hy.cell⟩
    have hrow : RowAt s (some ((a.add 0).add (i * 1))) (ints (os.drop i)) := fun j hj => by
      rw [ints_len, List.length_drop] at hj
      obtain ⟨v, hv, hc⟩ := ho (i + j) (by omega)
      refine ⟨_, rfl, ?_⟩
      rw [ints_get, Nat.mul_one, Nat.mul_one, add_0, addr_add, hc, List.getElem_drop]
      rw [List.getElem?_eq_getElem (by omega)] at hv
      rw [Option.some.inj hv]
    have fin : (COPY 1 (some ((a.add 0).add ((i + 1) * 1))) (l + 1 - (i + 1)) (some ((a.add 0).add (i * 1))) (l + 1 - i) fun n52 =>
              SLS (some (a.add 0)) c (i : Nat) ((l + 1 : Nat) : Int) 1 fun x53 l54 c55 =>
               COPY 1 x53 l54 (some ⟨B, 0, none⟩) 1 fun n56 =>
                K (.slice (some (a.add 0)) (l + 1) c)) s := by
      refine COPY_rule (n := l - i) (by omega) hrow (by rw [ints_len, List.length_drop]; omega) (ints_one _) (fun j hj => ?_) fun s1 k1 z1 o1 u1 => ?_
      · rw [add_0, addr_add]
        obtain ⟨y, hy, _⟩ := own ((i + 1) * 1 + j) (by omega)
        exact ⟨y, hy⟩
      · have kb1 : Kp (· = a.block) s s1 := k1.mono fun b hb => by rw [add_blk, add_blk] at hb; exact hb
        refine ⟨⟨by omega, by omega, by omega⟩, ?_⟩
        rw [if_neg hnei, toNat_nat, toNat_nat]
        show COPY 1 (some ((a.add 0).add (i * 1))) _ _ 1 _ s1
        refine COPY_rule (n := 1) (by omega) (rv (kb1.2 B hBlt (fun e => haB e.symm))) rfl (by simp [oneCell]) (fun j hj => ?_) fun s2 k2 z2 o2 u2 => ?_
        · have hj0 : j = 0 := by omega
          subst hj0
          rw [add_0, add_0, Nat.mul_one]
          obtain ⟨y, hy, _⟩ := own i (by omega)
          exact ⟨y, u1 _ y (by rw [add_of, add_of, add_of]; omega) hy⟩
        · have kb2 : Kp (· = a.block) s s2 := kb1.trans (k2.mono fun b hb => by rw [add_blk, add_blk] at hb; exact hb)
          refine h s2 _ _ (kb2.mono fun b hb => by have hb' : b = a.block := hb; omega) (fun a' h' => by cases h'; rw [add_blk]; exact hla) ?_
          rw [add_0]
          refine ins_row (by omega) (fun j hj => ?_) ?_ (fun j hj => ?_)
          · obtain ⟨y, hy, hyv⟩ := own j (by omega)
            have hj' : j < os.length := by omega
            rw [hyv hj'] at hy
            refine ⟨os[j], List.getElem?_eq_getElem hj', ?_⟩
            exact (u2 _ _ (by rw [add_of, add_of, add_of]; omega) (u1 _ _ (by rw [add_of, add_of, add_of]; omega) hy)).cell
          · have := o2 0 (by simp)
            rw [add_0, add_0, Nat.mul_one] at this
            exact this.cell
          · have hj2 : j < (ints (os.drop i)).length := by rw [ints_len, List.length_drop]; omega
            have := o1 j hj2
            rw [add_0, Nat.mul_one, addr_add, ints_get, List.getElem_drop] at this
            refine ⟨os[i + j]'(by omega), List.getElem?_eq_getElem _, ?_⟩
            exact (u2 _ _ (by rw [add_of, add_of, add_of]; omega) this).cell
    refine CONJ_two ?_ ?_
    · refine ⟨⟨by omega, by omega, by omega⟩, ?_⟩
      refine ⟨⟨by omega, by omega, by omega⟩, ?_⟩
      rw [if_neg hne1, if_neg hnei]
      exact fin
    · refine ⟨⟨by omega, by omega, by omega⟩, ?_⟩
      refine ⟨⟨by omega, by omega, by omega⟩, ?_⟩
      rw [if_neg hne1, if_neg hnei]
      exact fin
end
end Go.Proofs.Ytfaeokcbfnlgbaa.G
