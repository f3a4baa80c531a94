import Derived.Test.YtocnkdkgajdejaaC4
/- The statement LotLawful holds of the given program: whatever the lots and the remainders, LotLawful returns true and leaves its arguments as they were; no condition. -/
/- The statement LotLawful: a draw is lawful just if nothing is broken by the words of the chapter. -/
set_option linter.unusedSimpArgs false
set_option linter.unusedVariables false
set_option maxRecDepth 20000
namespace Go.Proofs.Ytocnkdkgajdejaa.G
open Go.V Go.Lot
section
variable {W : World} {K : VK} {E : List PanicEntry → Hp → Prop} {s : Hp} {L : Lts}
theorem c_Check' {x y : Option Addr} {c c' l : Nat} {ds : List Int} (hm : MenAt s x L.men) (hy : RowAt s y (ints ds)) (hlen : ds.length ≤ 100000) (hl : l = ds.length)
    (h : ∀ s', Ext s s' → K (.tuple #[.int .i64 (checkP L ds).1, .int .i64 (checkP L ds).2.1, .int .i64 (checkP L ds).2.2]) s') :
    CALL Pg W F_lot_Check [.agg #[.slice x L.n c, .int .i64 L.worst], .slice y l c'] K E s := by subst hl; exact c_Check hm hy hlen h
theorem c_Place' {x y : Option Addr} {c c' l : Nat} {ds : List Int} (hm : MenAt s x L.men) (hy : RowAt s y (ints ds)) (hlen : ds.length ≤ 100000) (hl : l = ds.length)
    (h : ∀ s', Ext s s' → K (.tuple #[.int .i64 (placeP L ds).1, .int .i64 (placeP L ds).2]) s') :
    CALL Pg W F_lot_Place [.agg #[.slice x L.n c, .int .i64 L.worst], .slice y l c'] K E s := by subst hl; exact c_Place hm hy hlen h
theorem c_Swaps' {x y : Option Addr} {c c' l : Nat} {ds : List Int} (hm : MenAt s x L.men) (hy : RowAt s y (ints ds)) (hlen : ds.length ≤ 100000) (hl : l = ds.length)
    (h1 : ∀ s' v, Ext s s' → valid L = true → okDraw L ds → wrong L (ds.map Int.toNat) = none → OutP s' (swapsP L (ds.map Int.toNat)) v → K (.tuple #[v, .int .i64 0]) s')
    (h2 : ∀ s', Ext s s' → errP L ds ≠ 0 → K (.tuple #[.slice none 0 0, .int .i64 (errP L ds)]) s') :
    CALL Pg W F_lot_Swaps [.agg #[.slice x L.n c, .int .i64 L.worst], .slice y l c'] K E s := by subst hl; exact c_Swaps hm hy hlen h1 h2
/-- 'awake' at the end. -/
theorem c_awake' {s0 : Hp} (e : Ext s0 s) (h : ∀ s', Ext s0 s' → K (.bool true) s') : CALL Pg W F_law03_awake [] K E s := c_awake fun s' e' => h s' (e.trans e')
theorem row_nil : RowAt s none (ints []) := fun i hi => by simp [ints] at hi

theorem w_LotLawful {x y : Option Addr} {l c c' : Nat} (hm : MenAt s x L.men) (hy : U8At s y l) (h : ∀ s', Ext s s' → K (.bool true) s') :
    CALL Pg W F_law03_LotLawful [.agg #[.slice x L.n c, .int .i64 L.worst], .slice y l c'] K E s := by
  refine does_law03_LotLawful W x L.n c L.worst y l c' _ s ?_
  unfold T_law03_LotLawful
  refine NEW_rule fun s1 e1 z1 n1 _ => ?_
  have c0 := (n1 0 _ rfl).cell
  have c1 := (n1 1 _ rfl).cell
  -- how it ends
  have aw : ∀ t, Ext s1 t → CALL Pg W F_law03_awake [] (fun v16 => TYB v16 fun b18 => (endK K E) (.returned (.bool b18))) (fun c17 => (endK K E) (.panicked c17)) t := fun t et => c_awake fun t' et' => h t' (e1.trans (et.trans et'))
  refine ⟨_, _, _, c0, _, c1, ?_⟩
  refine c_far (n := 8) (hm.ext e1) fun s2 b e2 hb1 hb2 => ?_
  try simp only [TUP_mk, AGG_mk, HD_mk, NL_mk, TYI_mk, TYB_mk, TYP_mk, TYL_mk, TYS_mk, TYM_mk, SO_mk, NX_mk, endK_mk, endK_mk', add_0]
  refine BR_bool (fun hb => aw s2 e2) (fun hb => ?_)
  obtain ⟨hn30, _, hn8'⟩ := hb2 hb
  refine ⟨_, _, _, e2.cell c0, _, e2.cell c1, ?_⟩
  have e02 := e1.trans e2
  refine f_Lots (hm.ext e02) (by omega) fun s3 e3 => ?_
  try simp only [TUP_mk, AGG_mk, HD_mk, NL_mk, TYI_mk, TYB_mk, TYP_mk, TYL_mk, TYS_mk, TYM_mk, SO_mk, NX_mk, endK_mk, endK_mk', add_0]
  have e13 := e2.trans e3
  have e03 := e1.trans e13
  refine BR_not (fun hv => ?_) (fun hv => ?_)
  · refine ⟨_, _, _, e13.cell c0, _, e13.cell c1, ?_⟩
    refine c_Check' (ds := []) (hm.ext e03) row_nil (by simp) rfl fun s4 e4 => ?_
    try simp only [TUP_mk, AGG_mk, HD_mk, NL_mk, TYI_mk, TYB_mk, TYP_mk, TYL_mk, TYS_mk, TYM_mk, SO_mk, NX_mk, endK_mk, endK_mk', add_0]
    have hc : checkP L [] = (0, 0, 1) := by unfold checkP; rw [hv]; rfl
    rw [hc]
    have e14 := e13.trans e4
    refine ⟨_, _, _, e14.cell c0, _, e14.cell c1, ?_⟩
    refine c_Place' (ds := []) (hm.ext (e1.trans e14)) row_nil (by simp) rfl fun s5 e5 => ?_
    try simp only [TUP_mk, AGG_mk, HD_mk, NL_mk, TYI_mk, TYB_mk, TYP_mk, TYL_mk, TYS_mk, TYM_mk, SO_mk, NX_mk, endK_mk, endK_mk', add_0]
    have hp : placeP L [] = (0, 1) := by unfold placeP; rw [hv]; rfl
    rw [hp]
    refine BR_eq (fun _ => ?_) (fun hh => absurd rfl hh)
    refine BR_eq (fun _ => ?_) (fun hh => absurd rfl hh)
    exact aw s5 (e14.trans e5)
  · have v := vd_iff.1 hv
    have hn8 := v.hi
    have hlo := v.lo
    refine ⟨_, _, _, e13.cell c0, ?_⟩
    refine c_made (hy.ext e03) (by omega) fun s4 a d e4 fr pd bd => ?_
    try simp only [TUP_mk, AGG_mk, HD_mk, NL_mk, TYI_mk, TYB_mk, TYP_mk, TYL_mk, TYS_mk, TYM_mk, SO_mk, NX_mk, endK_mk, endK_mk', add_0]
    have e14 := e13.trans e4
    have e04 := e1.trans e14
    have hok := Perm0.ok pd
    have hback := map_back d
    have hdl : (d.map fun (n : Nat) => (n : Int)).length = L.n := by rw [List.length_map]; exact pd.len
    have hrow : RowAt s4 (some a) (vals d) := bd.row
    have hrowi : RowAt s4 (some a) (ints (d.map fun (n : Nat) => (n : Int))) := by rw [ints_vals]; exact hrow
    refine ⟨_, _, _, e14.cell c0, _, e14.cell c1, ?_⟩
    refine c_lawful (hm.ext e04) hrow hv pd.lt pd.len.symm pd.len fun s5 e5 => ?_
    try simp only [TUP_mk, AGG_mk, HD_mk, NL_mk, TYI_mk, TYB_mk, TYP_mk, TYL_mk, TYS_mk, TYM_mk, SO_mk, NX_mk, endK_mk, endK_mk', add_0]
    have e15 := e14.trans e5
    refine ⟨_, _, _, e15.cell c0, _, e15.cell c1, ?_⟩
    refine c_Check' (ds := d.map fun (n : Nat) => (n : Int)) (hm.ext (e1.trans e15)) (hrowi.ext e5) (by omega) hdl.symm fun s6 e6 => ?_
    try simp only [TUP_mk, AGG_mk, HD_mk, NL_mk, TYI_mk, TYB_mk, TYP_mk, TYL_mk, TYS_mk, TYM_mk, SO_mk, NX_mk, endK_mk, endK_mk', add_0]
    have e16 := e15.trans e6
    refine ⟨_, _, _, e16.cell c0, _, e16.cell c1, ?_⟩
    refine c_Place' (ds := d.map fun (n : Nat) => (n : Int)) (hm.ext (e1.trans e16)) (hrowi.ext (e5.trans e6)) (by omega) hdl.symm fun s7 e7 => ?_
    try simp only [TUP_mk, AGG_mk, HD_mk, NL_mk, TYI_mk, TYB_mk, TYP_mk, TYL_mk, TYS_mk, TYM_mk, SO_mk, NX_mk, endK_mk, endK_mk', add_0]
    have e17 := e16.trans e7
    refine ⟨_, _, _, e17.cell c0, _, e17.cell c1, ?_⟩
    refine c_Swaps' (ds := d.map fun (n : Nat) => (n : Int)) (hm.ext (e1.trans e17)) (hrowi.ext (e5.trans (e6.trans e7))) (by omega) hdl.symm (fun s8 vv e8 _ _ hw ho => ?_) (fun s8 e8 he => ?_)
    · rw [hback] at hw ho
      obtain ⟨xo, co, rfl, hro⟩ := ho
      try simp only [TUP_mk, AGG_mk, HD_mk, NL_mk, TYI_mk, TYB_mk, TYP_mk, TYL_mk, TYS_mk, TYM_mk, SO_mk, NX_mk, endK_mk, endK_mk', add_0]
      have hc : checkP L (d.map fun (n : Nat) => (n : Int)) = (0, 0, 4) := by unfold checkP; rw [hv, if_pos rfl, if_pos hok, hback, hw]
      have hp : placeP L (d.map fun (n : Nat) => (n : Int)) = (((placeN L d (full L.n) 8 : Nat) : Int), 0) := by unfold placeP; rw [hv, if_pos rfl, if_pos hok, hback, hw]
      rw [hc, hp]
      refine BR_bool (fun _ => ?_) (fun hh => by rw [decide_eq_true hw] at hh; cases hh)
      refine BR_eq (fun _ => ?_) (fun hh => absurd rfl hh)
      unfold J_law03_LotLawful_2
      refine BR_eq (fun _ => ?_) (fun hh => absurd rfl hh)
      unfold J_law03_LotLawful_1
      refine BR_eq (fun _ => ?_) (fun hh => absurd rfl hh)
      unfold J_law03_LotLawful_0
      refine BR_eq (fun _ => ?_) (fun hh => absurd rfl hh)
      refine BR_dec (fun _ => ?_) (fun hh => by dsimp only at hh; omega)
      refine BR_eq (fun _ => ?_) (fun hh => absurd rfl hh)
      exact aw s8 (e17.trans e8)
    · have hwne : wrong L d ≠ none := fun hw => by
        refine he ?_
        unfold errP
        rw [hv, if_pos rfl, if_pos hok, hback, hw]
      obtain ⟨⟨p, r⟩, hw⟩ := Option.ne_none_iff_exists'.1 hwne
      obtain ⟨hp1, hr, hr0, hall⟩ := wrong_some hw
      have hc : checkP L (d.map fun (n : Nat) => (n : Int)) = (((p : Nat) : Int), ((r : Nat) : Int), 0) := by unfold checkP; rw [hv, if_pos rfl, if_pos hok, hback, hw]
      have hp : placeP L (d.map fun (n : Nat) => (n : Int)) = (0, 4) := by unfold placeP; rw [hv, if_pos rfl, if_pos hok, hback, hw]
      have hs : errP L (d.map fun (n : Nat) => (n : Int)) = 4 := by unfold errP; rw [hv, if_pos rfl, if_pos hok, hback, hw]
      try simp only [TUP_mk, AGG_mk, HD_mk, NL_mk, TYI_mk, TYB_mk, TYP_mk, TYL_mk, TYS_mk, TYM_mk, SO_mk, NX_mk, endK_mk, endK_mk', add_0]
      rw [hc, hp, hs]
      have e18 := e17.trans e8
      have e48 := e5.trans (e6.trans (e7.trans e8))
      refine BR_bool (fun hh => by rw [decide_eq_false hwne] at hh; cases hh) (fun _ => ?_)
      refine BR_ne (fun hh => absurd rfl hh) (fun _ => ?_)
      unfold J_law03_LotLawful_13
      refine BR_ne (fun hh => absurd rfl hh) (fun _ => ?_)
      unfold J_law03_LotLawful_12
      refine BR_ne (fun hh => absurd rfl hh) (fun _ => ?_)
      unfold J_law03_LotLawful_11
      refine BR_ne (fun hh => absurd rfl hh) (fun _ => ?_)
      unfold J_law03_LotLawful_10
      refine BR_ne (fun hh => absurd rfl hh) (fun _ => ?_)
      unfold J_law03_LotLawful_9
      have hpl : p < L.n := by rw [← pd.len]; exact hp1
      refine BR_dec (fun hh => by dsimp only at hh; omega) (fun _ => ?_)
      unfold J_law03_LotLawful_8
      refine BR_dec (fun hh => by dsimp only at hh; omega) (fun _ => ?_)
      obtain ⟨a1, b1, ha1, hb1', g, hlt, g1, g2, g3⟩ := man_at ((hm.ext (e1.trans e18))) (hrow.ext e48) pd.lt hp1
      cases ha1
      have ti : ((p : Int)).toNat = p := by omega
      have tm : (((d.getD p 0 : Nat) : Int)).toNat = d.getD p 0 := by omega
      refine ⟨_, _, _, e18.cell c0, a, rfl, ⟨by omega, by omega⟩, _, by dsimp only; rw [ti]; exact g, b1, hb1', ⟨by omega, by omega⟩, ?_⟩
      dsimp only
      rw [ti, tm]
      refine ⟨_, g1, _, g2, _, g3, ?_⟩
      refine man_new3' (e18.cell c0) g g1 g2 g3 fun t2 e9 z9 o0 o1 o2 => ?_
      have e19 := e18.trans e9
      have e49 := e48.trans e9
      have dlen := pd.len
      rw [← dlen]
      have j3 : J_law03_LotLawful_3 W (endK K E) s.size (some a) d.length d.length r (r1 L (d.getD p 0) (prev d p)) (r2 L p (d.getD p 0)) (r3 L p (d.getD p 0)) p t2 := by
        unfold J_law03_LotLawful_3
        refine lawful_loop (x := x) (c := c) ((hm.ext (e1.trans e19))) (hrow.ext e49) hv pd.lt pd.len (e19.cell c0) (e19.cell c1) hp1 hall fun t3 nx e10 => ?_
        unfold B_law03_LotLawful_0
        refine BR_dec (fun hh => by omega) (fun _ => ?_)
        have fin := aw t3 (e19.trans e10)
        have h18 : ∀ b q1 q2 q3, (b = true ∨ (r = 3 ∧ q1 = false ∧ q2 = false ∧ q3 = true)) → J_law03_LotLawful_18 W (endK K E) b r q1 q2 q3 t3 := by
          rintro b q1 q2 q3 hb
          unfold J_law03_LotLawful_18
          refine BR_bool (fun _ => fin) (fun hf => ?_)
          rcases hb with hb | ⟨hb1, rfl, rfl, rfl⟩
          · rw [hb] at hf; cases hf
          · refine BR_eq (fun _ => ?_) (fun hh => absurd (by omega) hh)
            exact fin
        have h19 : ∀ b q1 q2 q3, (b = true ∨ (r = 2 ∧ q1 = false ∧ q2 = true) ∨ (r = 3 ∧ q1 = false ∧ q2 = false ∧ q3 = true)) → J_law03_LotLawful_19 W (endK K E) b r q1 q2 q3 t3 := by
          rintro b q1 q2 q3 hb
          unfold J_law03_LotLawful_19
          refine BR_bool (fun _ => h18 _ _ _ _ (.inl rfl)) (fun hf => ?_)
          rcases hb with hb | ⟨hb1, rfl, rfl⟩ | ⟨hb1, rfl, rfl, rfl⟩
          · rw [hb] at hf; cases hf
          · refine BR_eq (fun _ => ?_) (fun hh => absurd (by omega) hh)
            exact h18 _ _ _ _ (.inl rfl)
          · refine BR_eq (fun hh => by omega) (fun _ => ?_)
            exact h18 _ _ _ _ (.inr ⟨hb1, rfl, rfl, rfl⟩)
        unfold fst at hr
        refine BR_eq (fun hh => ?_) (fun hh => ?_)
        · refine h19 _ _ _ _ (.inl ?_)
          cases h1 : r1 L (d.getD p 0) (prev d p) with
          | true => rfl
          | false =>
            rw [h1] at hr
            cases h2 : r2 L p (d.getD p 0) <;> cases h3 : r3 L p (d.getD p 0) <;> rw [h2, h3] at hr <;> simp at hr <;> omega
        · refine h19 _ _ _ _ (.inr ?_)
          cases h1 : r1 L (d.getD p 0) (prev d p) with
          | true => rw [h1] at hr; simp at hr; omega
          | false =>
            rw [h1] at hr
            cases h2 : r2 L p (d.getD p 0) with
            | true => rw [h2] at hr; simp at hr; exact .inl ⟨hr, rfl, rfl⟩
            | false =>
              rw [h2] at hr
              cases h3 : r3 L p (d.getD p 0) with
              | true => rw [h3] at hr; simp at hr; exact .inr ⟨hr, rfl, rfl, rfl⟩
              | false => rw [h3] at hr; simp at hr; omega
      have j4 : ∀ b, b = r2 L p (d.getD p 0) → J_law03_LotLawful_4 W (endK K E) s8.size s.size p (some a) d.length d.length r (r1 L (d.getD p 0) (prev d p)) b t2 := by
        rintro b rfl
        unfold J_law03_LotLawful_4
        refine ⟨_, o2.cell, ?_⟩
        refine BR_bool (fun h3 => ?_) (fun h3 => ?_)
        · refine ⟨_, e19.cell c1, NNI_nat ?_⟩
          rw [bad_eq v (by omega)]
          have : bad L p = r3 L p (d.getD p 0) := by unfold r3; rw [h3]; simp
          rw [this]; exact j3
        · have : false = r3 L p (d.getD p 0) := by unfold r3; rw [h3]; simp
          rw [this]; exact j3
      have j5 : ∀ b, b = ((man L (d.getD p 0)).left && decide (p > 0)) → J_law03_LotLawful_5 W (endK K E) b s8.size s.size p (some a) d.length d.length r (r1 L (d.getD p 0) (prev d p)) t2 := by
        rintro b hb
        unfold J_law03_LotLawful_5
        refine BR_bool (fun h3 => ?_) (fun h3 => ?_)
        · refine j4 _ ?_
          rw [h3] at hb
          unfold r2
          rw [← hb, wrap_i64 (by omega) (by omega)]
          simp
          omega
        · refine j4 _ ?_
          rw [h3] at hb
          unfold r2
          rw [← hb]; simp
      have j6 : ∀ b, b = r1 L (d.getD p 0) (prev d p) → J_law03_LotLawful_6 W (endK K E) s8.size p s.size (some a) d.length d.length r b t2 := by
        rintro b rfl
        unfold J_law03_LotLawful_6
        refine ⟨_, o1.cell, ?_⟩
        refine BR_bool (fun h3 => ?_) (fun h3 => ?_)
        · refine j5 _ ?_
          rw [h3]; simp
        · refine j5 _ ?_
          rw [h3]; simp
      have j7 : ∀ bb : Bool, bb = (decide (p ≠ 0) && decide ((man L (d.getD p 0)).club ≠ 0)) → J_law03_LotLawful_7 W (endK K E) bb s8.size s.size (some a) d.length p d.length r t2 := by
        intro bb hbb
        unfold J_law03_LotLawful_7
        refine BR_bool (fun h2 => ?_) (fun h2 => j6 _ ?_)
        · rw [h2] at hbb
          obtain ⟨hk0, hc0⟩ : p ≠ 0 ∧ (man L (d.getD p 0)).club ≠ 0 := by simpa using hbb.symm
          obtain ⟨a', b', ha', hb', g', hlt', gg1, _, _⟩ := man_at (hm.ext (e1.trans e19)) (hrow.ext e49) pd.lt (show p - 1 < d.length by omega)
          have hp : prev d p = d.getD (p - 1) 0 := by unfold prev; rw [if_neg hk0]
          have hw' : IntKind.wrap .i64 ((p : Int) - 1) = ((p - 1 : Nat) : Int) := by rw [wrap_i64 (by omega) (by omega)]; omega
          refine ⟨_, o0.cell, _, _, _, e19.cell c0, ⟨_, _, _, e19.cell c0, rfl⟩, ⟨_, o0.cell, rfl⟩, ?_⟩
          rw [hw']
          have hmx : (if ((p - 1 : Nat) : Int) > 0 then ((p - 1 : Nat) : Int) else 0) = ((p - 1 : Nat) : Int) := by split <;> omega
          rw [hmx]
          have ti' : (((p - 1 : Nat) : Int)).toNat = p - 1 := by omega
          have tm' : (((d.getD (p - 1) 0 : Nat) : Int)).toNat = d.getD (p - 1) 0 := by omega
          refine ⟨a', ha', ⟨by omega, by omega⟩, _, by rw [ti']; exact g', b', hb', ⟨by omega, by omega⟩, _, by rw [tm']; exact gg1, ?_⟩
          refine j6 _ ?_
          unfold r1
          rw [hp]
          have h8 : d.getD (p - 1) 0 ≠ 8 := by omega
          simp only [h8, hc0, ne_eq, not_false_eq_true, decide_true, Bool.true_and, Bool.beq_eq_decide_eq]
        · rw [h2] at hbb
          unfold r1
          by_cases hk0 : p = 0
          · have : prev d p = 8 := by unfold prev; rw [if_pos hk0]
            rw [this]; simp
          · simp [hk0] at hbb
            simp [hbb]
      refine BR_dec (fun h2 => ?_) (fun h2 => ?_)
      · refine ⟨_, o0.cell, ?_⟩
        refine j7 _ ?_
        have : p ≠ 0 := by omega
        simp [this, bne, Bool.beq_eq_decide_eq]
      · refine j7 _ ?_
        have : p = 0 := by omega
        simp [this]
end
end Go.Proofs.Ytocnkdkgajdejaa.G

/- LotLawful, from any arguments. -/
namespace Go.Proofs.Ytocnkdkgajdejaa.G
open Go.V Go.Lot
theorem v_LotLawful {W : World} {s : Hp} {v0 v1 : Value} (k0 : RdV Pg s 24 v0) (k1 : RdV Pg s 46 v1) : CALL Pg W F_law03_LotLawful [v0, v1] (fun v s' => v = .bool true ∧ Ext s s') (fun _ _ => False) s := by
  obtain ⟨x, c, L, rfl, hm, _⟩ := lots_rd k0
  obtain ⟨y, l, c', rfl, hy⟩ := u8s_rd k1
  exact w_LotLawful hm hy fun s' e => ⟨rfl, e⟩
end Go.Proofs.Ytocnkdkgajdejaa.G

/- The row of the statement LotLawful. -/
namespace Go.Proofs.Ytocnkdkgajdejaa.lotLawful
open Go.ChangeShapes Go.WideShapes Go.ChangeAt Go.RowKit Go.V
set_option linter.unusedVariables false
theorem own : ownKnob Try.prog.godebug = none := by kernel_rfl
theorem laidOut : laidOutB Try.prog = true := by kernel_rfl
set_option maxRecDepth 100000 in
theorem lifted (os : Os) (started : os.Started) (H : Type) (enc : TypeId × Value → H) :
    ReturnsInHanded {} Try.checked os 5 .any (Rows.lotLawfulSpec.pre6 enc Try.prog Try.f5 Rows.lotLawfulRow.domain false) (Rows.lotLawfulSpec.post enc Try.prog Try.f5 false true false false) := by
  refine returnsInHanded_of_change_sized (C := Try.checked) own started (by kernel_rfl) Try.func5
    (ChangeSpec.witness6 (enc := enc) (C := Try.checked) false ⟨#[], #[(.agg #[(.slice none 0 0), (.int .i64 0)]), (.slice none 0 0)], []⟩ 8 (by kernel_rfl) (by kernel_rfl) (by kernel_rfl) (by kernel_rfl)) ?_
  intro W base args ds gs before hval0 hW hcnd hsz0 _
  have hsz : (DataW.weightsEach Try.prog (Try.f5.params.toList ++ Rows.lotLawfulSpec.plain.varTypes Try.prog) (ds ++ gs)).all (· ≤ reachBytes) = true := hsz0
  have hval : ∀ (j : Nat) t v, Try.f5.params[j]? = some t → args[j]? = some v → Value.okWide Try.prog W .any base t v := hval0
  have hW' := hW
  obtain ⟨p, q, hA0, hV, rfl, hfz, hnd⟩ := hW
  have hA : DataW.TrodAll enc Try.prog W 0 (fun _ => true) true Try.f5.params.toList args.toList ds p := hA0
  rw [Try.params5] at hA hval hsz
  obtain ⟨v0, vs0, d0, ds0, p0, q0, hargs, rfl, rfl, h0, r0⟩ := trodAll_cons hA
  obtain ⟨v1, vs1, d1, ds1, p1, q1, rfl, rfl, rfl, h1, r1⟩ := trodAll_cons r0
  obtain ⟨rfl, rfl, rfl⟩ := trodAll_nil r1
  obtain rfl : args = #[v0, v1] := by cases args; simp_all
  obtain ⟨rfl, rfl⟩ := trodVars_none hV
  have k0 := trod_rdV (hval 0 24 v0 rfl rfl) h0
  have lt0 : ∀ x ∈ p0, x.block < W.heap.size := by obtain ⟨m, hm⟩ := h0; exact DataW.trod_lt m _ _ _ hm
  have k1 := trod_rdV (hval 1 46 v1 rfl rfl) h1
  have lt1 : ∀ x ∈ p1, x.block < W.heap.size := by obtain ⟨m, hm⟩ := h1; exact DataW.trod_lt m _ _ _ hm
  refine (calls_of_does (does_of_call (G.v_LotLawful (W := W) (s := W.heap) k0 k1))).mono fun e W' ⟨he, bel⟩ => ?_
  subst he
  exact ⟨_, rfl, _, _, _, [], _, [], hW', trodAll_mk1 (shut_bool Try.underlying4 _), (trodAll_cons_mk (Below.trod laidOut (by kernel_rfl) (of_decide_eq_true (by kernel_rfl)) h0 bel lt0) (trodAll_cons_mk (Below.trod laidOut (by kernel_rfl) (of_decide_eq_true (by kernel_rfl)) h1 bel lt1) trodAll_mk0)), rfl, bel.frame _, fun h => by cases h⟩
theorem over : Rows.lotLawfulRow.holds Try.pinned (OpenSpec.ofChange Rows.lotLawfulSpec) :=
  OpenClaim.holds_of_wide 5 Try.f5 rfl rfl rfl rfl rfl rfl rfl ⟨rfl, rfl, rfl, rfl, rfl⟩ rfl rfl rfl rfl rfl (by kernel_rfl) Try.func5 (by kernel_rfl)
    (of_decide_eq_true (by kernel_rfl)) (by unfold Func.isWrapper; first | (rw [if_pos (by decide +kernel)]; kernel_rfl) | (rw [if_neg (by decide +kernel)]; exact ⟨rfl, rfl⟩))
    (fun os started H enc _ => lifted os started H enc)
theorem proved : Rows.LotLawfulSaid := over
end Go.Proofs.Ytocnkdkgajdejaa.lotLawful
namespace Go.Proofs.Ytocnkdkgajdejaa
/-- The row, under a short name. -/
theorem lotLawful_holds : Rows.LotLawfulSaid := lotLawful.proved
end Go.Proofs.Ytocnkdkgajdejaa
