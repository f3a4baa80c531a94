import Derived.Test.YtkgcbfbbcaajpaaC2
/- Lemmas: contracts over the visible heap, and that they are sound; no condition. -/
/- Rank: what the document fixes. -/
set_option linter.unusedSimpArgs false
set_option linter.unusedVariables false
set_option maxRecDepth 20000
namespace Go.Proofs.Ytkgcbfbbcaajpaa.G
open Go.V
def ST : Tb := ⟨3, 2, [0, 2, 0], [⟨0, 0, 20, 20⟩, ⟨0, 1, 15, 15⟩, ⟨1, 0, 22, 22⟩, ⟨1, 1, 10, 18⟩, ⟨2, 0, 18, 20⟩, ⟨2, 1, 17, 17⟩]⟩
theorem st_sum : sumP ST 1 = ((30, 38), 0) := by decide +kernel
theorem st_bef : befR ST 0 2 = (1, 0) := by decide +kernel
theorem st_plc : plcR ST 0 = ((1, 3), 0) := by decide +kernel
theorem st_win : winP ST = (0, 7, 0) := by decide +kernel
theorem st_eq : eqR ST 0 2 = (false, 0) := by decide +kernel
theorem st_could : couldR ST 2 1 = (8, 0) := by decide +kernel
theorem st_need : needR ST 1 1 1 = (17, 0) := by decide +kernel
theorem st_order : orderR ST = ([0, 1, 2], 0) := by decide +kernel
theorem zc_25 : zc Pg 25 = [.int .i64 0, .int .i64 0, .slice none 0 0, .slice none 0 0] := by kernel_rfl
section
variable {W : World} {K : VK} {E : List PanicEntry → Hp → Prop} {s : Hp}
theorem f_Ints {x y : Option Addr} {c c' : Nat} {a b : List Int} (ha : RowAt s x (ints a)) (hb : RowAt s y (ints b)) (hla : a.length ≤ 100000) (h : K (.bool (decide (a = b))) s) :
    CALL Pg W F_ref10_Ints [.slice x a.length c, .slice y b.length c'] K E s := by
  refine does_ref10_Ints W x a.length c y b.length c' _ s ?_
  unfold T_ref10_Ints
  refine BR_ne (fun h1 => ?_) (fun h1 => ?_)
  · have : ¬ a = b := fun e => h1 (by rw [e])
    rw [decide_eq_false this] at h
    exact h
  have hl : a.length = b.length := by omega
  refine L_ref10_Ints_0_rule W _ x a.length c y b.length c' (fun _ n8 t => t = s ∧ ∃ k : Nat, k ≤ a.length ∧ n8 = k ∧ ∀ j (h1 : j < a.length) (h2 : j < b.length), j < k → a[j] = b[j]) (fun _ n8 _ => (a.length - n8).toNat) false 0 s ⟨rfl, 0, by omega, rfl, fun j _ _ hj => by omega⟩ ?_
  rintro b7 n8 t ⟨rfl, k, hk, rfl, heq⟩
  unfold B_ref10_Ints_0
  refine BR_dec (fun h2 => ?_) (fun h2 => ?_)
  · have hka : k < a.length := by omega
    have hkb : k < b.length := by omega
    have hva : k < (ints a).length := by rw [ints_len]; exact hka
    have hvb : k < (ints b).length := by rw [ints_len]; exact hkb
    obtain ⟨p, hp, g⟩ := ha k hva
    obtain ⟨q, hq, g'⟩ := hb k hvb
    rw [ints_get hva] at g
    rw [ints_get hvb] at g'
    have tk : ((k : Int)).toNat = k := by omega
    refine ⟨p, hp, ⟨by omega, by omega⟩, _, by rw [tk]; exact g, q, hq, ⟨by omega, by omega⟩, _, by rw [tk]; exact g', ?_⟩
    refine BR_ne (fun h3 => ?_) (fun h3 => ?_)
    · have : ¬ a = b := fun e => by subst e; exact h3 rfl
      rw [decide_eq_false this] at h
      exact h
    · refine ⟨rfl, _, _, rfl, ⟨rfl, k + 1, hka, ?_, ?_⟩, ?_⟩
      · rw [wrap_i64 (by omega) (by omega)]; rfl
      · intro j h4 h5 hj
        by_cases hjk : j < k
        · exact heq j h4 h5 hjk
        · have : j = k := by omega
          subst this
          exact h3
      · show ((a.length : Int) - IntKind.i64.wrap ((k : Int) + 1)).toNat < ((a.length : Int) - k).toNat
        rw [wrap_i64 (by omega) (by omega)]; omega
  · have : a = b := List.ext_getElem hl (fun j h3 h4 => heq j h3 h4 (by omega))
    rw [decide_eq_true this] at h
    exact h

theorem f_IntsN {x y : Option Addr} {c c' l l' : Nat} {a b : List Int} (ha : RowAt s x (ints a)) (hb : RowAt s y (ints b)) (hla : a.length ≤ 100000) (hl : l = a.length) (hl' : l' = b.length) (h : K (.bool (decide (a = b))) s) : CALL Pg W F_ref10_Ints [.slice x l c, .slice y l' c'] K E s := by
  subst hl
  subst hl'
  exact f_Ints ha hb hla h
theorem c_span {a b : Int} (h : ∀ s', Ext s s' → K (spanV (a, b)) s') : CALL Pg W F_law10_span [.int .i64 a, .int .i64 b] K E s := by
  refine does_law10_span W a b _ s ?_
  unfold T_law10_span
  refine NEWZ_rule zc_29 fun s1 e1 z1 n1 => ?_
  refine fin_span (R := endK K E) (n1 0 _ rfl) (n1 1 _ rfl) fun s' k => h s' (kp_new e1 (Nat.le_refl _) k)
theorem rd4 {s : Hp} {a : Addr} {v0 v1 v2 v3 : Int} {KK : Int → Int → Int → Int → Hp → Prop} (h0 : Own s (a.add 0) (.int .i64 v0)) (h1 : Own s (a.add 1) (.int .i64 v1)) (h2 : Own s (a.add 2) (.int .i64 v2)) (h3 : Own s (a.add 3) (.int .i64 v3)) (h : KK v0 v1 v2 v3 s) :
    (RDI .i64 (a.add 0) fun n0 => RDI .i64 (a.add 1) fun n1 => RDI .i64 (a.add 2) fun n2 => RDI .i64 (a.add 3) fun n3 => KK n0 n1 n2 n3) s := ⟨_, h0.cell, _, h1.cell, _, h2.cell, _, h3.cell, h⟩
def scV (x : Sc) : Value := .agg #[.int .i64 x.man, .int .i64 x.sheet, .int .i64 x.lo, .int .i64 x.hi]
theorem c_sc {a b c d : Int} (h : ∀ s', Ext s s' → K (scV ⟨a, b, c, d⟩) s') : CALLV Pg W (.func (.func 71) #[] #[]) [.int .i64 a, .int .i64 b, .int .i64 c, .int .i64 d] K E s := by
  refine CALLV_func ?_
  refine does_law10_sample_c1 W a b c d _ s ?_
  unfold T_law10_sample_c1
  refine NEWZ_rule zc_55 fun s1 e1 z1 n1 => ?_
  refine c_span fun s2 e2 => ?_
  unfold spanV
  try simp only [TUP_mk, AGG_mk, HD_mk, NL_mk, TYI_mk, TYB_mk, TYP_mk, TYL_mk, TYS_mk, TYM_mk, SO_mk, NX_mk, endK_mk, endK_mk', add_0]
  refine wr4 rfl rfl rfl rfl (fun j hj => by obtain ⟨y, hy⟩ := new4 n1 j hj; exact ⟨y, e2.own hy⟩) fun s3 k3 z3 o0 o1 o2 o3 => ?_
  refine rd4 o0 o1 o2 o3 ?_
  exact h s3 (ext_own (e1.trans e2) (Nat.le_refl _) k3)
/-- The cells of scores. -/
def scs (l : List Sc) : List Value := l.flatMap fun x => [.int .i64 x.man, .int .i64 x.sheet, .int .i64 x.lo, .int .i64 x.hi]
theorem scs_get : ∀ (l : List Sc) (i : Nat) (h : i < l.length), (scs l)[i * 4]? = some (.int .i64 l[i].man) ∧ (scs l)[i * 4 + 1]? = some (.int .i64 l[i].sheet) ∧ (scs l)[i * 4 + 2]? = some (.int .i64 l[i].lo) ∧ (scs l)[i * 4 + 3]? = some (.int .i64 l[i].hi)
  | [], i, h => by simp at h
  | x :: l, 0, h => ⟨rfl, rfl, rfl, rfl⟩
  | x :: l, i + 1, h => by
    obtain ⟨h1, h2, h3, h4⟩ := scs_get l i (by simpa using h)
    have key : ∀ j, (scs (x :: l))[(i + 1) * 4 + j]? = (scs l)[i * 4 + j]? := fun j => by
      show ([Value.int .i64 x.man, .int .i64 x.sheet, .int .i64 x.lo, .int .i64 x.hi] ++ scs l)[(i + 1) * 4 + j]? = _
      rw [List.getElem?_append_right (by simp; omega)]
      congr 1
      simp; omega
    have k0 := key 0
    rw [Nat.add_zero, Nat.add_zero] at k0
    rw [k0, key 1, key 2, key 3]
    exact ⟨h1, h2, h3, h4⟩
theorem scAt_new {s : Hp} {b : Nat} {l : List Sc} (n1 : ∀ i v, (scs l)[i]? = some v → Own s ⟨b, i, none⟩ v) : ScAt s (some ⟨b, 0, none⟩) l := fun i hi => by
  obtain ⟨h1, h2, h3, h4⟩ := scs_get l i hi
  have key : ∀ j v, (scs l)[i * 4 + j]? = some v → cellAt s (((⟨b, 0, none⟩ : Addr).add (i * 4)).add j) = some v := fun j v hv => by
    rw [addr_add, add_nil, Nat.zero_add]
    exact (n1 _ _ hv).cell
  exact ⟨_, rfl, key 0 _ h1, key 1 _ h2, key 2 _ h3, key 3 _ h4⟩
theorem c_sample (h : ∀ s' x y, Ext s s' → RowAt s' x (ints ST.off) → ScAt s' y ST.sc → K (.agg #[.int .i64 3, .int .i64 2, .slice x 3 3, .slice y 6 6]) s') : CALL Pg W F_law10_sample [] K E s := by
  refine does_law10_sample W _ s ?_
  unfold T_law10_sample
  refine NEWZ_rule zc_25 fun s1 e1 z1 n1 => ?_
  refine NEW_rule fun s2 e2 z2 n2 _ => ?_
  refine c_sc fun s3 e3 => ?_
  unfold scV
  try simp only [TUP_mk, AGG_mk, HD_mk, NL_mk, TYI_mk, TYB_mk, TYP_mk, TYL_mk, TYS_mk, TYM_mk, SO_mk, NX_mk, endK_mk, endK_mk', add_0]
  refine c_sc fun s4 e4 => ?_
  unfold scV
  try simp only [TUP_mk, AGG_mk, HD_mk, NL_mk, TYI_mk, TYB_mk, TYP_mk, TYL_mk, TYS_mk, TYM_mk, SO_mk, NX_mk, endK_mk, endK_mk', add_0]
  refine c_sc fun s5 e5 => ?_
  unfold scV
  try simp only [TUP_mk, AGG_mk, HD_mk, NL_mk, TYI_mk, TYB_mk, TYP_mk, TYL_mk, TYS_mk, TYM_mk, SO_mk, NX_mk, endK_mk, endK_mk', add_0]
  refine c_sc fun s6 e6 => ?_
  unfold scV
  try simp only [TUP_mk, AGG_mk, HD_mk, NL_mk, TYI_mk, TYB_mk, TYP_mk, TYL_mk, TYS_mk, TYM_mk, SO_mk, NX_mk, endK_mk, endK_mk', add_0]
  refine c_sc fun s7 e7 => ?_
  unfold scV
  try simp only [TUP_mk, AGG_mk, HD_mk, NL_mk, TYI_mk, TYB_mk, TYP_mk, TYL_mk, TYS_mk, TYM_mk, SO_mk, NX_mk, endK_mk, endK_mk', add_0]
  refine c_sc fun s8 e8 => ?_
  unfold scV
  try simp only [TUP_mk, AGG_mk, HD_mk, NL_mk, TYI_mk, TYB_mk, TYP_mk, TYL_mk, TYS_mk, TYM_mk, SO_mk, NX_mk, endK_mk, endK_mk', add_0]
  have e28 := e3.trans (e4.trans (e5.trans (e6.trans (e7.trans e8))))
  refine NEW_rule fun s9 e9 z9 n9 _ => ?_
  have e29 := e28.trans e9
  have e19 := e2.trans e29
  refine wr4 rfl rfl rfl rfl (fun j hj => by obtain ⟨y, hy⟩ := new4 n1 j hj; exact ⟨y, e19.own hy⟩) fun t k z o0 o1 o2 o3 => ?_
  refine ⟨_, o0.cell, _, o1.cell, _, _, _, o2.cell, _, _, _, o3.cell, ?_⟩
  have hz1 := e2.1
  have hz2 := e28.1
  have hs2 : s2.size = s1.size + 1 := z2
  refine h t _ _ (ext_own (e1.trans e19) (Nat.le_refl _) k) ?_ ?_
  · exact ((row_new n2).ext e29).keep k (fun a ha => by cases ha; show ¬ s1.size = s.size; omega)
  · have hsc : ScAt s9 (some ⟨s8.size, 0, none⟩) ST.sc := scAt_new (l := ST.sc) n9
    intro i hi
    obtain ⟨a, ha, g0, g1, g2, g3⟩ := hsc i hi
    cases ha
    have kc : ∀ {j : Nat} {v : Value}, cellAt s9 (((⟨s8.size, 0, none⟩ : Addr).add (i * 4)).add j) = some v → cellAt t (((⟨s8.size, 0, none⟩ : Addr).add (i * 4)).add j) = some v := fun hc => k.cell (by rw [add_blk, add_blk]; show ¬ s8.size = s.size; omega) hc
    exact ⟨_, rfl, kc g0, kc g1, kc g2, kc g3⟩
end
end Go.Proofs.Ytkgcbfbbcaajpaa.G

/- Rank: what the document fixes holds. -/
set_option linter.unusedSimpArgs false
set_option linter.unusedVariables false
set_option maxRecDepth 20000
namespace Go.Proofs.Ytkgcbfbbcaajpaa.G
open Go.V
section
variable {W : World} {K : VK} {E : List PanicEntry → Hp → Prop} {s : Hp} {x y : Option Addr} {c c' : Nat}
theorem x_Sum (hx : RowAt s x (ints ST.off)) (hy : ScAt s y ST.sc) (h : ∀ s', Ext s s' → K (.tuple #[spanV (30, 38), .int .i64 0]) s') : CALL Pg W F_rank_Sum [.agg #[.int .i64 3, .int .i64 2, .slice x 3 c, .slice y 6 c'], .int .i64 1] K E s :=
  c_Sum (T := ST) (i := 1) hx hy (by decide) (by rw [st_sum]; exact h)
theorem x_Before (hx : RowAt s x (ints ST.off)) (hy : ScAt s y ST.sc) (h : ∀ s', Ext s s' → K (.tuple #[.int .i64 1, .int .i64 0]) s') : CALL Pg W F_rank_Before [.agg #[.int .i64 3, .int .i64 2, .slice x 3 c, .slice y 6 c'], .int .i64 0, .int .i64 2] K E s :=
  c_Before (T := ST) (a := 0) (b := 2) hx hy (by decide) (by rw [st_bef]; exact h)
theorem x_Place (hx : RowAt s x (ints ST.off)) (hy : ScAt s y ST.sc) (h : ∀ s', Ext s s' → K (.tuple #[spanV (1, 3), .int .i64 0]) s') : CALL Pg W F_rank_Place [.agg #[.int .i64 3, .int .i64 2, .slice x 3 c, .slice y 6 c'], .int .i64 0] K E s :=
  c_Place (T := ST) (i := 0) hx hy (by decide) (by rw [st_plc]; exact h)
theorem x_Winners (hx : RowAt s x (ints ST.off)) (hy : ScAt s y ST.sc) (h : ∀ s', Ext s s' → K (.tuple #[.int .i64 0, .int .i64 7, .int .i64 0]) s') : CALL Pg W F_rank_Winners [.agg #[.int .i64 3, .int .i64 2, .slice x 3 c, .slice y 6 c']] K E s :=
  c_Winners (T := ST) hx hy (by decide) (by rw [st_win]; exact h)
theorem x_Equal (hx : RowAt s x (ints ST.off)) (hy : ScAt s y ST.sc) (h : ∀ s', Ext s s' → K (.tuple #[.bool false, .int .i64 0]) s') : CALL Pg W F_rank_Equal [.agg #[.int .i64 3, .int .i64 2, .slice x 3 c, .slice y 6 c'], .int .i64 0, .int .i64 2] K E s :=
  c_Equal (T := ST) (a := 0) (b := 2) hx hy (by decide) (by rw [st_eq]; exact h)
theorem x_Could (hx : RowAt s x (ints ST.off)) (hy : ScAt s y ST.sc) (h : ∀ s', Ext s s' → K (.tuple #[.int .i64 8, .int .i64 0]) s') : CALL Pg W F_rank_Could [.agg #[.int .i64 3, .int .i64 2, .slice x 3 c, .slice y 6 c'], .int .i64 2, .int .i64 1] K E s :=
  c_Could (T := ST) (a := 2) (b := 1) hx hy (by decide) (by rw [st_could]; exact h)
theorem x_Need (hx : RowAt s x (ints ST.off)) (hy : ScAt s y ST.sc) (h : ∀ s', Ext s s' → K (.tuple #[.int .i64 17, .int .i64 0]) s') : CALL Pg W F_rank_Need [.agg #[.int .i64 3, .int .i64 2, .slice x 3 c, .slice y 6 c'], .int .i64 1, .int .i64 1, .int .i64 1] K E s :=
  c_Need (T := ST) (a := 1) (b := 1) (pl := 1) hx hy (by decide) (by rw [st_need]; exact h)
theorem x_Order (hx : RowAt s x (ints ST.off)) (hy : ScAt s y ST.sc) (h : ∀ s' z cz, Ext s s' → RowAt s' z (ints [0, 1, 2]) → K (.tuple #[.slice z 3 cz, .int .i64 0]) s') : CALL Pg W F_rank_Order [.agg #[.int .i64 3, .int .i64 2, .slice x 3 c, .slice y 6 c']] K E s :=
  c_Order (T := ST) hx hy (by decide) (by rw [st_order]; exact fun s' z cz e r _ => h s' z cz e r)
theorem c_awake (h : ∀ s', Ext s s' → K (.bool true) s') : CALL Pg W F_law10_awake [] K E s := by
  refine does_law10_awake W _ s ?_
  unfold T_law10_awake
  refine c_sample fun s1 x1 y1 e1 r1 q1 => ?_
  try simp only [TUP_mk, AGG_mk, HD_mk, NL_mk, TYI_mk, TYB_mk, TYP_mk, TYL_mk, TYS_mk, TYM_mk, SO_mk, NX_mk, endK_mk, endK_mk', add_0]
  refine x_Sum r1 q1 fun s2 e2 => ?_
  unfold spanV
  try simp only [TUP_mk, AGG_mk, HD_mk, NL_mk, TYI_mk, TYB_mk, TYP_mk, TYL_mk, TYS_mk, TYM_mk, SO_mk, NX_mk, endK_mk, endK_mk', add_0]
  refine NEWZ_rule zc_29 fun s3 e3 z3 n3 => ?_
  refine wr2 rfl rfl (new2 n3) fun s4 k4 z4 a0 a1 => ?_
  have e24 : Ext s2 s4 := ext_own e3 (Nat.le_refl _) k4
  have e04 := e1.trans (e2.trans e24)
  refine c_sample fun s5 x5 y5 e5 r5 q5 => ?_
  try simp only [TUP_mk, AGG_mk, HD_mk, NL_mk, TYI_mk, TYB_mk, TYP_mk, TYL_mk, TYS_mk, TYM_mk, SO_mk, NX_mk, endK_mk, endK_mk', add_0]
  refine x_Before r5 q5 fun s6 e6 => ?_
  try simp only [TUP_mk, AGG_mk, HD_mk, NL_mk, TYI_mk, TYB_mk, TYP_mk, TYL_mk, TYS_mk, TYM_mk, SO_mk, NX_mk, endK_mk, endK_mk', add_0]
  refine c_sample fun s7 x7 y7 e7 r7 q7 => ?_
  try simp only [TUP_mk, AGG_mk, HD_mk, NL_mk, TYI_mk, TYB_mk, TYP_mk, TYL_mk, TYS_mk, TYM_mk, SO_mk, NX_mk, endK_mk, endK_mk', add_0]
  refine x_Place r7 q7 fun s8 e8 => ?_
  unfold spanV
  try simp only [TUP_mk, AGG_mk, HD_mk, NL_mk, TYI_mk, TYB_mk, TYP_mk, TYL_mk, TYS_mk, TYM_mk, SO_mk, NX_mk, endK_mk, endK_mk', add_0]
  have e48 := e5.trans (e6.trans (e7.trans e8))
  refine NEWZ_rule zc_29 fun s9 e9 z9 n9 => ?_
  refine wr2 rfl rfl (new2 n9) fun t1 kt1 zt1 b0 b1 => ?_
  have e8t : Ext s8 t1 := ext_own e9 (Nat.le_refl _) kt1
  have e4t := e48.trans e8t
  refine c_sample fun t2 x2 y2 f2 r2 q2 => ?_
  try simp only [TUP_mk, AGG_mk, HD_mk, NL_mk, TYI_mk, TYB_mk, TYP_mk, TYL_mk, TYS_mk, TYM_mk, SO_mk, NX_mk, endK_mk, endK_mk', add_0]
  refine x_Winners r2 q2 fun t3 f3 => ?_
  try simp only [TUP_mk, AGG_mk, HD_mk, NL_mk, TYI_mk, TYB_mk, TYP_mk, TYL_mk, TYS_mk, TYM_mk, SO_mk, NX_mk, endK_mk, endK_mk', add_0]
  refine c_sample fun t4 x4 y4 f4 r4 q4 => ?_
  try simp only [TUP_mk, AGG_mk, HD_mk, NL_mk, TYI_mk, TYB_mk, TYP_mk, TYL_mk, TYS_mk, TYM_mk, SO_mk, NX_mk, endK_mk, endK_mk', add_0]
  refine x_Equal r4 q4 fun t5 f5 => ?_
  try simp only [TUP_mk, AGG_mk, HD_mk, NL_mk, TYI_mk, TYB_mk, TYP_mk, TYL_mk, TYS_mk, TYM_mk, SO_mk, NX_mk, endK_mk, endK_mk', add_0]
  refine c_sample fun t6 x6 y6 f6 r6 q6 => ?_
  try simp only [TUP_mk, AGG_mk, HD_mk, NL_mk, TYI_mk, TYB_mk, TYP_mk, TYL_mk, TYS_mk, TYM_mk, SO_mk, NX_mk, endK_mk, endK_mk', add_0]
  refine x_Could r6 q6 fun t7 f7 => ?_
  try simp only [TUP_mk, AGG_mk, HD_mk, NL_mk, TYI_mk, TYB_mk, TYP_mk, TYL_mk, TYS_mk, TYM_mk, SO_mk, NX_mk, endK_mk, endK_mk', add_0]
  refine c_sample fun t8 x8 y8 f8 r8 q8 => ?_
  try simp only [TUP_mk, AGG_mk, HD_mk, NL_mk, TYI_mk, TYB_mk, TYP_mk, TYL_mk, TYS_mk, TYM_mk, SO_mk, NX_mk, endK_mk, endK_mk', add_0]
  refine x_Need r8 q8 fun t9 f9 => ?_
  try simp only [TUP_mk, AGG_mk, HD_mk, NL_mk, TYI_mk, TYB_mk, TYP_mk, TYL_mk, TYS_mk, TYM_mk, SO_mk, NX_mk, endK_mk, endK_mk', add_0]
  refine c_sample fun u1 xu yu g1 ru qu => ?_
  try simp only [TUP_mk, AGG_mk, HD_mk, NL_mk, TYI_mk, TYB_mk, TYP_mk, TYL_mk, TYS_mk, TYM_mk, SO_mk, NX_mk, endK_mk, endK_mk', add_0]
  refine x_Order ru qu fun u2 z cz g2 rz => ?_
  try simp only [TUP_mk, AGG_mk, HD_mk, NL_mk, TYI_mk, TYB_mk, TYP_mk, TYL_mk, TYS_mk, TYM_mk, SO_mk, NX_mk, endK_mk, endK_mk', add_0]
  have f12 := f2.trans (f3.trans (f4.trans (f5.trans (f6.trans (f7.trans (f8.trans (f9.trans (g1.trans g2))))))))
  have a0' := (e4t.trans f12).own a0
  have a1' := (e4t.trans f12).own a1
  have b0' := f12.own b0
  have b1' := f12.own b1
  have e0u := e04.trans (e4t.trans f12)
  refine ⟨_, a0'.cell, _, a1'.cell, ?_⟩
  refine c_span fun u3 g3 => ?_
  unfold spanV
  try simp only [TUP_mk, AGG_mk, HD_mk, NL_mk, TYI_mk, TYB_mk, TYP_mk, TYL_mk, TYS_mk, TYM_mk, SO_mk, NX_mk, endK_mk, endK_mk', add_0]
  refine ⟨⟨_, (g3.own a0').cell, _, (g3.own a1').cell, rfl⟩, ?_⟩
  refine BR_bool (fun _ => ?_) (fun hh => absurd hh (by decide))
  unfold J_law10_awake_13
  refine BR_eq (fun _ => ?_) (fun hh => absurd rfl hh)
  unfold J_law10_awake_12
  refine BR_eq (fun _ => ?_) (fun hh => absurd rfl hh)
  unfold J_law10_awake_11
  refine BR_eq (fun _ => ?_) (fun hh => absurd rfl hh)
  refine ⟨_, (g3.own b0').cell, _, (g3.own b1').cell, ?_⟩
  refine c_span fun u4 g4 => ?_
  unfold spanV
  try simp only [TUP_mk, AGG_mk, HD_mk, NL_mk, TYI_mk, TYB_mk, TYP_mk, TYL_mk, TYS_mk, TYM_mk, SO_mk, NX_mk, endK_mk, endK_mk', add_0]
  refine ⟨⟨_, (g4.own (g3.own b0')).cell, _, (g4.own (g3.own b1')).cell, rfl⟩, ?_⟩
  unfold J_law10_awake_10
  refine BR_bool (fun _ => ?_) (fun hh => absurd hh (by decide))
  unfold J_law10_awake_9
  refine BR_eq (fun _ => ?_) (fun hh => absurd rfl hh)
  unfold J_law10_awake_8
  refine BR_eq (fun _ => ?_) (fun hh => absurd rfl hh)
  unfold J_law10_awake_7
  refine BR_eq (fun _ => ?_) (fun hh => absurd rfl hh)
  unfold J_law10_awake_6
  refine BR_eq (fun _ => ?_) (fun hh => absurd rfl hh)
  unfold J_law10_awake_5
  refine BR_bool (fun _ => ?_) (fun hh => absurd hh (by decide))
  unfold J_law10_awake_4
  refine BR_eq (fun _ => ?_) (fun hh => absurd rfl hh)
  unfold J_law10_awake_3
  refine BR_eq (fun _ => ?_) (fun hh => absurd rfl hh)
  unfold J_law10_awake_2
  refine BR_eq (fun _ => ?_) (fun hh => absurd rfl hh)
  unfold J_law10_awake_1
  refine BR_eq (fun _ => ?_) (fun hh => absurd rfl hh)
  unfold J_law10_awake_0
  refine BR_eq (fun _ => ?_) (fun hh => absurd rfl hh)
  refine NEW_rule fun u5 g5 z5 n5 _ => ?_
  refine f_IntsN (a := [0, 1, 2]) (b := [0, 1, 2]) (rz.ext (g3.trans (g4.trans g5))) (row_new (vs := ints [0, 1, 2]) n5) (by decide) rfl rfl ?_
  try simp only [TUP_mk, AGG_mk, HD_mk, NL_mk, TYI_mk, TYB_mk, TYP_mk, TYL_mk, TYS_mk, TYM_mk, SO_mk, NX_mk, endK_mk, endK_mk', add_0]
  refine BR_bool (fun _ => ?_) (fun hh => absurd hh (by decide))
  exact h u5 (e0u.trans (g3.trans (g4.trans g5)))
end
end Go.Proofs.Ytkgcbfbbcaajpaa.G

/- The document's functions of layer 10: is a table valid? -/
set_option linter.unusedSimpArgs false
set_option linter.unusedVariables false
set_option maxRecDepth 20000
namespace Go.Proofs.Ytkgcbfbbcaajpaa.G
open Go.V
/-- A table as an argument lies. -/
structure TbA (s : Hp) (za : Addr) (T : Tb) : Prop where
  men : cellAt s (za.add 0) = some (.int .i64 T.men)
  sheets : cellAt s (za.add 1) = some (.int .i64 T.sheets)
  off : ∃ x c, cellAt s (za.add 2) = some (.slice x T.off.length c) ∧ RowAt s x (ints T.off)
  sc : ∃ y c, cellAt s (za.add 3) = some (.slice y T.sc.length c) ∧ ScAt s y T.sc
theorem TbA.ext {s s' : Hp} {za : Addr} {T : Tb} (e : Ext s s') (h : TbA s za T) : TbA s' za T where
  men := e.cell h.men
  sheets := e.cell h.sheets
  off := by obtain ⟨x, c, h1, h2⟩ := h.off; exact ⟨x, c, e.cell h1, h2.ext e⟩
  sc := by obtain ⟨x, c, h1, h2⟩ := h.sc; exact ⟨x, c, e.cell h1, h2.ext e⟩
theorem tbA_new {s s1 : Hp} {b : Nat} {T : Tb} {x y : Option Addr} {c c' : Nat} (e : Ext s s1) (hx : RowAt s x (ints T.off)) (hy : ScAt s y T.sc) (n1 : ∀ i v, [Value.int .i64 T.men, .int .i64 T.sheets, .slice x T.off.length c, .slice y T.sc.length c'][i]? = some v → Own s1 ⟨b, i, none⟩ v) : TbA s1 ⟨b, 0, none⟩ T :=
  ⟨(n1 0 _ rfl).cell, (n1 1 _ rfl).cell, ⟨x, c, (n1 2 _ rfl).cell, hx.ext e⟩, ⟨y, c', (n1 3 _ rfl).cell, hy.ext e⟩⟩
section
variable {W : World} {K : VK} {E : List PanicEntry → Hp → Prop} {s : Hp} {T : Tb}
theorem f_in {a b c : Int} (h : K (.bool (decide (b ≤ a ∧ a ≤ c))) s) : CALL Pg W F_ref10_in [.int .i64 a, .int .i64 b, .int .i64 c] K E s := by
  refine does_ref10_in W a b c _ s ?_
  unfold T_ref10_in
  refine BR_dec (fun h1 => ?_) (fun h1 => ?_)
  · have : decide (b ≤ a ∧ a ≤ c) = decide (a ≤ c) := by simp [h1]
    rw [← this]; exact h
  · have : decide (b ≤ a ∧ a ≤ c) = false := by simp [h1]
    rw [← this]; exact h
theorem f_Table {x y : Option Addr} {c c' : Nat} (hx : RowAt s x (ints T.off)) (hy : ScAt s y T.sc) (hlo : T.off.length ≤ 100000) (h : ∀ s', Ext s s' → K (.bool (okT T)) s') :
    CALL Pg W F_ref10_Table [.agg #[.int .i64 T.men, .int .i64 T.sheets, .slice x T.off.length c, .slice y T.sc.length c']] K E s := by
  refine does_ref10_Table W T.men T.sheets x T.off.length c y T.sc.length c' _ s ?_
  unfold T_ref10_Table
  refine NEW_rule fun s1 e1 z1 n1 _ => ?_
  have ta := tbA_new e1 hx hy n1
  have no : okT T = false → ∀ t, Ext s1 t → (endK K E) (.returned (.bool false)) t := fun hf t et => by
    have := h t (e1.trans et)
    rw [hf] at this; exact this
  have hokT : okT T = (decide (1 ≤ T.men ∧ T.men ≤ 6) && (decide (1 ≤ T.sheets ∧ T.sheets ≤ 5) && (decide ((T.off.length : Int) = T.men) && (!T.off.any badO && (decide (T.sc.length ≤ 30) && okS T [] T.sc))))) := rfl
  -- the loops
  have loops : ((1 ≤ T.men ∧ T.men ≤ 6) ∧ (1 ≤ T.sheets ∧ T.sheets ≤ 5)) → okT T = (!T.off.any badO && okS T [] T.sc) → T.sc.length ≤ 30 → L_ref10_Table_0 W (endK K E) ⟨s.size, 0, none⟩ false 0 s1 := by
    intro hms hok h30
    refine L_ref10_Table_0_rule W _ ⟨s.size, 0, none⟩ (fun _ n t => Ext s1 t ∧ ∃ k : Nat, k ≤ T.off.length ∧ n = k ∧ ∀ j, j < k → badO (T.off.getD j 0) = false) (fun _ n _ => (T.off.length - n).toNat) false 0 s1 ⟨Ext.refl _, 0, by omega, rfl, fun j hj => by omega⟩ ?_
    rintro b28 n29 t ⟨et, k, hk, rfl, hz⟩
    obtain ⟨x1, c1, g1, g2⟩ := (ta.ext et).off
    unfold B_ref10_Table_0
    refine ⟨_, _, _, g1, ?_⟩
    refine BR_dec (fun h1 => ?_) (fun h1 => ?_)
    · have hkl : k < T.off.length := by omega
      obtain ⟨a, ha, g⟩ := row_int g2 hkl
      have tk : ((k : Int)).toNat = k := by omega
      refine ⟨_, _, _, g1, a, ha, ⟨by omega, by omega⟩, _, by rw [tk]; exact g, ?_⟩
      refine f_in ?_
      try simp only [TUP_mk, AGG_mk, HD_mk, NL_mk, TYI_mk, TYB_mk, TYP_mk, TYL_mk, TYS_mk, TYM_mk, SO_mk, NX_mk, endK_mk, endK_mk', add_0]
      have hb : (!decide (0 ≤ T.off.getD k 0 ∧ T.off.getD k 0 ≤ 100)) = badO (T.off.getD k 0) := rfl
      refine BR_bool (fun h2 => ?_) (fun h2 => ?_)
      · have hany : T.off.any badO = true := List.any_eq_true.2 ⟨T.off[k], List.getElem_mem hkl, by rw [show T.off[k] = T.off.getD k 0 by simp [List.getD, hkl]]; exact h2⟩
        exact no (by rw [hok, hany]; rfl) t et
      · have hw : IntKind.i64.wrap ((k : Int) + 1) = ((k + 1 : Nat) : Int) := by rw [wrap_i64 (by omega) (by omega)]; rfl
        refine ⟨_, _, rfl, ⟨et, k + 1, by omega, hw, fun j hj => ?_⟩, ?_⟩
        · by_cases e : j = k
          · subst e; exact h2
          · exact hz j (by omega)
        · show ((T.off.length : Int) - IntKind.i64.wrap ((k : Int) + 1)).toNat < ((T.off.length : Int) - k).toNat
          rw [hw]; omega
    · have hany : T.off.any badO = false := List.any_eq_false.2 fun y hy => by
        obtain ⟨j, hj, rfl⟩ := List.mem_iff_getElem.1 hy
        have := hz j (by omega)
        rw [show T.off.getD j 0 = T.off[j] by simp [List.getD, hj]] at this
        rw [this]; simp
      rw [hany] at hok
      have hok2 : okT T = okS T [] T.sc := by rw [hok]; rfl
      refine L_ref10_Table_1_rule W _ ⟨s.size, 0, none⟩ (fun _ n t' => Ext s1 t' ∧ ∃ i : Nat, i ≤ T.sc.length ∧ n = i ∧ okS T ((T.sc.take i).map Sc.pr) (T.sc.drop i) = okS T [] T.sc) (fun _ n _ => (T.sc.length - n).toNat) b28 0 t ⟨et, 0, by omega, rfl, rfl⟩ ?_
      rintro b41 n42 u ⟨eu, i, hi, rfl, hoki⟩
      obtain ⟨y1, cy, q1, q2⟩ := (ta.ext eu).sc
      unfold B_ref10_Table_1
      refine ⟨_, _, _, q1, ?_⟩
      refine BR_dec (fun h2 => ?_) (fun h2 => ?_)
      · have hil : i < T.sc.length := by omega
        have hdrop : T.sc.drop i = T.sc[i] :: T.sc.drop (i + 1) := List.drop_eq_getElem_cons hil
        have hcons : okS T ((T.sc.take i).map Sc.pr) (T.sc.drop i) = (okSc T ((T.sc.take i).map Sc.pr) T.sc[i] && okS T ((T.sc.take (i + 1)).map Sc.pr) (T.sc.drop (i + 1))) := by
          rw [hdrop, List.take_add_one, List.getElem?_eq_getElem hil, List.map_append]
          rfl
        have bad : okSc T ((T.sc.take i).map Sc.pr) T.sc[i] = false → okT T = false := fun hb => by rw [hok2, ← hoki, hcons, hb, Bool.false_and]
        obtain ⟨a, ha, g0, g1', g2', g3⟩ := q2 i hil
        have ti : ((i : Int)).toNat = i := by omega
        refine ⟨_, _, _, q1, a, ha, ⟨by omega, by omega⟩, ?_⟩
        rw [ti]
        refine ⟨_, g0, _, g1', _, g2', _, g3, ?_⟩
        refine NEWZ_rule zc_55 fun u1 f1 y1 m1 => ?_
        refine wr4 rfl rfl rfl rfl (new4 m1) fun u2 k2 z2 o0 o1 o2 o3 => ?_
        have e2 : Ext u u2 := ext_own f1 (Nat.le_refl _) k2
        have eu2 := eu.trans e2
        have ta2 := ta.ext eu2
        have hokc : okSc T ((T.sc.take i).map Sc.pr) T.sc[i] = (decide (0 ≤ T.sc[i].man ∧ T.sc[i].man ≤ T.men - 1) && (decide (0 ≤ T.sc[i].sheet ∧ T.sc[i].sheet ≤ T.sheets - 1) && ((findA (T.sc[i].man, T.sc[i].sheet) ((T.sc.take i).map Sc.pr) 0).isNone && (decide (0 ≤ T.sc[i].lo) && (decide (T.sc[i].lo ≤ T.sc[i].hi) && decide (T.sc[i].hi ≤ 40)))))) := rfl
        have hw : IntKind.i64.wrap ((i : Int) + 1) = ((i + 1 : Nat) : Int) := by rw [wrap_i64 (by omega) (by omega)]; rfl
        have hms' : ((T.sc.length : Int) - IntKind.i64.wrap ((i : Int) + 1)).toNat < ((T.sc.length : Int) - i).toNat := by rw [hw]; omega
        generalize hnx : (fun vs => N_ref10_Table_1 (fun _ n t' => Ext s1 t' ∧ ∃ i : Nat, i ≤ T.sc.length ∧ n = i ∧ okS T ((T.sc.take i).map Sc.pr) (T.sc.drop i) = okS T [] T.sc) (fun _ n _ => (T.sc.length - n).toNat) b41 i u vs) = nx1
        have hgo : okSc T ((T.sc.take i).map Sc.pr) T.sc[i] = true → nx1 [.bool b41, .int .i64 (IntKind.wrap .i64 ((i : Int) + 1))] u2 := fun hT => by
          rw [← hnx]
          exact ⟨_, _, rfl, ⟨eu2, i + 1, by omega, hw, by rw [← hoki, hcons, hT, Bool.true_and]⟩, hms'⟩
        -- the scores before
        have inner : okSc T ((T.sc.take i).map Sc.pr) T.sc[i] = (findA (T.sc[i].man, T.sc[i].sheet) ((T.sc.take i).map Sc.pr) 0).isNone → L_ref10_Table_2 W (endK K E) nx1 ⟨s.size, 0, none⟩ i ⟨u.size, 0, none⟩ b41 0 u2 := by
          intro hF
          obtain ⟨yy, cyy, p1, p2⟩ := ta2.sc
          refine L_ref10_Table_2_rule W _ nx1 ⟨s.size, 0, none⟩ i ⟨u.size, 0, none⟩ (fun b n t' => t' = u2 ∧ b = b41 ∧ ∃ j : Nat, j ≤ i ∧ n = j ∧ ∀ q, (hq : q < T.sc.length) → q < j → (T.sc[q].man, T.sc[q].sheet) ≠ (T.sc[i].man, T.sc[i].sheet)) (fun _ n _ => (i - n).toNat) b41 0 u2 ⟨rfl, rfl, 0, by omega, rfl, fun q _ hq => by omega⟩ ?_
          rintro b73 n74 u3 ⟨rfl, rfl, j, hj, rfl, hne⟩
          unfold B_ref10_Table_2
          refine BR_dec (fun h3 => ?_) (fun h3 => ?_)
          · have hjl : j < T.sc.length := by omega
            obtain ⟨a', ha', r0, r1, _, _⟩ := p2 j hjl
            have tj : ((j : Int)).toNat = j := by omega
            have hwj : IntKind.i64.wrap ((j : Int) + 1) = ((j + 1 : Nat) : Int) := by rw [wrap_i64 (by omega) (by omega)]; rfl
            have j7 : ∀ q : Bool, (q = true → (T.sc[j].man, T.sc[j].sheet) = (T.sc[i].man, T.sc[i].sheet)) → (q = false → (T.sc[j].man, T.sc[j].sheet) ≠ (T.sc[i].man, T.sc[i].sheet)) → J_ref10_Table_7 W (endK K E) q ⟨s.size, 0, none⟩ i ⟨u.size, 0, none⟩ (fun vs => N_ref10_Table_2 (fun b n t' => t' = u3 ∧ b = b73 ∧ ∃ j : Nat, j ≤ i ∧ n = j ∧ ∀ q, (hq : q < T.sc.length) → q < j → (T.sc[q].man, T.sc[q].sheet) ≠ (T.sc[i].man, T.sc[i].sheet)) (fun _ n _ => (i - n).toNat) b73 j u3 vs) b73 j u3 := by
              intro q hq1 hq2
              unfold J_ref10_Table_7
              refine BR_bool (fun hh => ?_) (fun hh => ?_)
              · have hsome : (findA (T.sc[i].man, T.sc[i].sheet) ((T.sc.take i).map Sc.pr) 0).isNone = false := by
                  cases hf : findA (T.sc[i].man, T.sc[i].sheet) ((T.sc.take i).map Sc.pr) 0 with
                  | some v => rfl
                  | none =>
                    have := (findA_none _ _).1 hf T.sc[j].pr (List.mem_map.2 ⟨T.sc[j], by
                      have : T.sc[j] = (T.sc.take i)[j]'(by rw [List.length_take]; omega) := by rw [List.getElem_take]
                      rw [this]; exact List.getElem_mem _, rfl⟩)
                    exact absurd (hq1 hh) this
                exact no (bad (by rw [hF, hsome])) _ eu2
              · refine ⟨rfl, _, _, rfl, ⟨rfl, rfl, j + 1, by omega, hwj, fun q' hq' hqj => ?_⟩, ?_⟩
                · by_cases e : q' = j
                  · subst e; exact hq2 hh
                  · exact hne q' hq' (by omega)
                · show ((i : Int) - IntKind.i64.wrap ((j : Int) + 1)).toNat < ((i : Int) - j).toNat
                  rw [hwj]; omega
            refine ⟨_, _, _, p1, a', ha', ⟨by omega, by omega⟩, _, by rw [tj]; exact r0, _, o0.cell, ?_⟩
            refine BR_eq (fun hm => ?_) (fun hm => j7 _ (fun hh => by cases hh) (fun _ hc => hm (by injection hc)))
            refine ⟨_, _, _, p1, a', ha', ⟨by omega, by omega⟩, _, by rw [tj]; exact r1, _, o1.cell, ?_⟩
            refine j7 _ (fun hh => by rw [hm, beq_iff_eq.1 hh]) (fun hh hc => ?_)
            injection hc with _ hc
            have := beq_eq_false_iff_ne.1 hh
            exact this hc
          · have hji : j = i := by omega
            subst hji
            have hnone : (findA (T.sc[j].man, T.sc[j].sheet) ((T.sc.take j).map Sc.pr) 0).isNone = true := by
              have : findA (T.sc[j].man, T.sc[j].sheet) ((T.sc.take j).map Sc.pr) 0 = none := (findA_none _ _).2 fun v hv => by
                obtain ⟨w, hw', rfl⟩ := List.mem_map.1 hv
                obtain ⟨q, hq, rfl⟩ := List.mem_iff_getElem.1 hw'
                rw [List.length_take] at hq
                rw [List.getElem_take]
                exact hne q (by omega) (by omega)
              rw [this]; rfl
            exact ⟨rfl, hgo (by rw [hF, hnone])⟩
        have j3 : ∀ q : Bool, (q = false → okSc T ((T.sc.take i).map Sc.pr) T.sc[i] = (findA (T.sc[i].man, T.sc[i].sheet) ((T.sc.take i).map Sc.pr) 0).isNone) → (q = true → okSc T ((T.sc.take i).map Sc.pr) T.sc[i] = false) → J_ref10_Table_3 W (endK K E) q nx1 ⟨s.size, 0, none⟩ i u.size b41 u2 := by
          intro q hq1 hq2
          unfold J_ref10_Table_3
          exact BR_bool (fun hh => no (bad (hq2 hh)) _ eu2) (fun hh => inner (hq1 hh))
        generalize hS : okSc T ((T.sc.take i).map Sc.pr) T.sc[i] = S at *
        generalize hN : (findA (T.sc[i].man, T.sc[i].sheet) ((T.sc.take i).map Sc.pr) 0).isNone = N at *
        have j4 : ∀ q : Bool, (q = false → S = (N && decide (T.sc[i].hi ≤ 40))) → (q = true → S = false) → J_ref10_Table_4 W (endK K E) q nx1 ⟨s.size, 0, none⟩ i u.size b41 u2 := by
          intro q hq1 hq2
          unfold J_ref10_Table_4
          refine BR_bool (fun hh => j3 _ (fun hf => by cases hf) (fun _ => hq2 hh)) (fun hh => ?_)
          refine ⟨_, o3.cell, j3 _ (fun hf => ?_) (fun hf => ?_)⟩
          · have := of_decide_eq_false hf
            rw [hq1 hh, decide_eq_true (show T.sc[i].hi ≤ 40 by omega), Bool.and_true]
          · have := of_decide_eq_true hf
            rw [hq1 hh, decide_eq_false (show ¬ T.sc[i].hi ≤ 40 by omega), Bool.and_false]
        have j5 : ∀ q : Bool, (q = false → S = (N && (decide (T.sc[i].lo ≤ T.sc[i].hi) && decide (T.sc[i].hi ≤ 40)))) → (q = true → S = false) → J_ref10_Table_5 W (endK K E) q nx1 ⟨s.size, 0, none⟩ i u.size b41 u2 := by
          intro q hq1 hq2
          unfold J_ref10_Table_5
          refine BR_bool (fun hh => j4 _ (fun hf => by cases hf) (fun _ => hq2 hh)) (fun hh => ?_)
          refine ⟨_, o2.cell, _, o3.cell, j4 _ (fun hf => ?_) (fun hf => ?_)⟩
          · have := of_decide_eq_false hf
            rw [hq1 hh, decide_eq_true (show T.sc[i].lo ≤ T.sc[i].hi by omega), Bool.true_and]
          · have := of_decide_eq_true hf
            rw [hq1 hh, decide_eq_false (show ¬ T.sc[i].lo ≤ T.sc[i].hi by omega), Bool.false_and, Bool.and_false]
        have j6 : ∀ q : Bool, (q = false → S = (N && (decide (0 ≤ T.sc[i].lo) && (decide (T.sc[i].lo ≤ T.sc[i].hi) && decide (T.sc[i].hi ≤ 40))))) → (q = true → S = false) → J_ref10_Table_6 W (endK K E) q nx1 ⟨s.size, 0, none⟩ i u.size b41 u2 := by
          intro q hq1 hq2
          unfold J_ref10_Table_6
          refine BR_bool (fun hh => j5 _ (fun hf => by cases hf) (fun _ => hq2 hh)) (fun hh => ?_)
          refine ⟨_, o2.cell, j5 _ (fun hf => ?_) (fun hf => ?_)⟩
          · have := of_decide_eq_false hf
            rw [hq1 hh, decide_eq_true (show 0 ≤ T.sc[i].lo by omega), Bool.true_and]
          · have := of_decide_eq_true hf
            rw [hq1 hh, decide_eq_false (show ¬ 0 ≤ T.sc[i].lo by omega), Bool.false_and, Bool.and_false]
        refine ⟨_, o0.cell, _, ta2.men, ?_⟩
        refine f_in ?_
        try simp only [TUP_mk, AGG_mk, HD_mk, NL_mk, TYI_mk, TYB_mk, TYP_mk, TYL_mk, TYS_mk, TYM_mk, SO_mk, NX_mk, endK_mk, endK_mk', add_0]
        have w1 : IntKind.i64.wrap (T.men - 1) = T.men - 1 := wrap_i64 (by omega) (by omega)
        have w2 : IntKind.i64.wrap (T.sheets - 1) = T.sheets - 1 := wrap_i64 (by omega) (by omega)
        rw [w1]
        refine BR_not (fun hm => j6 _ (fun hf => by cases hf) (fun _ => by rw [hokc, hm, Bool.false_and])) (fun hm => ?_)
        refine ⟨_, o1.cell, _, ta2.sheets, ?_⟩
        refine f_in ?_
        try simp only [TUP_mk, AGG_mk, HD_mk, NL_mk, TYI_mk, TYB_mk, TYP_mk, TYL_mk, TYS_mk, TYM_mk, SO_mk, NX_mk, endK_mk, endK_mk', add_0]
        rw [w2]
        refine j6 _ (fun hf => ?_) (fun hf => ?_)
        · have hb : decide (0 ≤ T.sc[i].sheet ∧ T.sc[i].sheet ≤ T.sheets - 1) = true := by
            cases hd : decide (0 ≤ T.sc[i].sheet ∧ T.sc[i].sheet ≤ T.sheets - 1) with
            | true => rfl
            | false => rw [hd] at hf; cases hf
          rw [hokc, hm, hb, Bool.true_and, Bool.true_and]
        · have hb : decide (0 ≤ T.sc[i].sheet ∧ T.sc[i].sheet ≤ T.sheets - 1) = false := by
            cases hd : decide (0 ≤ T.sc[i].sheet ∧ T.sc[i].sheet ≤ T.sheets - 1) with
            | false => rfl
            | true => rw [hd] at hf; cases hf
          rw [hokc, hm, hb, Bool.false_and, Bool.and_false]
      · have hil : i = T.sc.length := by omega
        subst hil
        rw [List.drop_length] at hoki
        have := h u (e1.trans eu)
        rw [hok2, ← hoki] at this
        exact this
  have j0 : ∀ q : Bool, (q = false → ((1 ≤ T.men ∧ T.men ≤ 6) ∧ (1 ≤ T.sheets ∧ T.sheets ≤ 5)) ∧ okT T = (!T.off.any badO && okS T [] T.sc) ∧ T.sc.length ≤ 30) → (q = true → okT T = false) → J_ref10_Table_0 W (endK K E) q s.size s1 := by
    intro q g1 g2
    unfold J_ref10_Table_0
    exact BR_bool (fun hh => no (g2 hh) s1 (Ext.refl _)) (fun hh => loops (g1 hh).1 (g1 hh).2.1 (g1 hh).2.2)
  obtain ⟨x1, c1, g1, _⟩ := ta.off
  obtain ⟨y1, cy, q1, _⟩ := ta.sc
  have j1 : ∀ q : Bool, (q = false → ((1 ≤ T.men ∧ T.men ≤ 6) ∧ (1 ≤ T.sheets ∧ T.sheets ≤ 5)) ∧ okT T = (!T.off.any badO && (decide (T.sc.length ≤ 30) && okS T [] T.sc))) → (q = true → okT T = false) → J_ref10_Table_1 W (endK K E) q s.size s1 := by
    intro q a1 a2
    unfold J_ref10_Table_1
    refine BR_bool (fun hh => j0 _ (fun hf => by cases hf) (fun _ => a2 hh)) (fun hh => ?_)
    refine ⟨_, _, _, q1, j0 _ (fun hf => ?_) (fun hf => ?_)⟩
    · have := of_decide_eq_false hf
      have h30 : T.sc.length ≤ 30 := by omega
      exact ⟨(a1 hh).1, by rw [(a1 hh).2, decide_eq_true h30, Bool.true_and], h30⟩
    · have := of_decide_eq_true hf
      rw [(a1 hh).2, decide_eq_false (show ¬ T.sc.length ≤ 30 by omega), Bool.false_and, Bool.and_false]
  have j2 : ∀ q : Bool, (q = false → (1 ≤ T.men ∧ T.men ≤ 6) ∧ (1 ≤ T.sheets ∧ T.sheets ≤ 5)) → (q = true → okT T = false) → J_ref10_Table_2 W (endK K E) q s.size s1 := by
    intro q a1 a2
    unfold J_ref10_Table_2
    refine BR_bool (fun hh => j1 _ (fun hf => by cases hf) (fun _ => a2 hh)) (fun hh => ?_)
    obtain ⟨m1, m2⟩ := a1 hh
    refine ⟨_, _, _, g1, _, ta.men, j1 _ (fun hf => ?_) (fun hf => ?_)⟩
    · have hl : (T.off.length : Int) = T.men := by simpa using hf
      refine ⟨⟨m1, m2⟩, ?_⟩
      rw [hokT, decide_eq_true m1, decide_eq_true m2, decide_eq_true hl, Bool.true_and, Bool.true_and, Bool.true_and]
    · have hl : ¬ (T.off.length : Int) = T.men := by simpa using hf
      rw [hokT, decide_eq_false hl, Bool.false_and, Bool.and_false, Bool.and_false]
  refine ⟨_, ta.men, ?_⟩
  refine f_in ?_
  try simp only [TUP_mk, AGG_mk, HD_mk, NL_mk, TYI_mk, TYB_mk, TYP_mk, TYL_mk, TYS_mk, TYM_mk, SO_mk, NX_mk, endK_mk, endK_mk', add_0]
  refine BR_not (fun hm => j2 _ (fun hf => by cases hf) (fun _ => by rw [hokT, hm, Bool.false_and])) (fun hm => ?_)
  refine ⟨_, ta.sheets, ?_⟩
  refine f_in ?_
  try simp only [TUP_mk, AGG_mk, HD_mk, NL_mk, TYI_mk, TYB_mk, TYP_mk, TYL_mk, TYS_mk, TYM_mk, SO_mk, NX_mk, endK_mk, endK_mk', add_0]
  refine j2 _ (fun hf => ?_) (fun hf => ?_)
  · have hb : 1 ≤ T.sheets ∧ T.sheets ≤ 5 := by
      by_cases hd : 1 ≤ T.sheets ∧ T.sheets ≤ 5
      · exact hd
      · rw [decide_eq_false hd] at hf; cases hf
    exact ⟨of_decide_eq_true hm, hb⟩
  · have hb : ¬ (1 ≤ T.sheets ∧ T.sheets ≤ 5) := fun hd => by rw [decide_eq_true hd] at hf; cases hf
    rw [hokT, decide_eq_false hb, Bool.false_and, Bool.and_false]
end
end Go.Proofs.Ytkgcbfbbcaajpaa.G

/- Arguments by their types. -/
set_option linter.unusedVariables false
set_option maxRecDepth 20000
namespace Go.Proofs.Ytkgcbfbbcaajpaa.G
open Go.V
section
variable {s : Hp}
theorem rds_25 (n : Nat) (cs : List Value) : Rds Pg s (n + 1) 25 cs = (cs.length = 4 ∧ Rds Pg s n 3 ((cs.drop 0).take 1) ∧ Rds Pg s n 3 ((cs.drop 1).take 1) ∧ Rds Pg s n 22 ((cs.drop 2).take 1) ∧ Rds Pg s n 23 ((cs.drop 3).take 1) ∧ True) := by kernel_rfl
theorem rds_3 (n : Nat) (cs : List Value) : Rds Pg s (n + 1) 3 cs = (∃ m, cs = [.int .i64 m] ∧ (Lit.int .i64 m).wf = true) := by kernel_rfl
theorem rds_22 (n : Nat) (cs : List Value) : Rds Pg s (n + 1) 22 cs = (∃ a l c, cs = [.slice a l c] ∧ l ≤ c ∧ c ≤ maxLen ∧ (a = none → l = 0 ∧ c = 0) ∧ ∀ i, i < l → ∃ b es, a = some b ∧ es.length = 1 ∧ (∀ j v, es[j]? = some v → cellAt s ((b.add (i * 1)).add j) = some v) ∧ Rds Pg s n 3 es) := by kernel_rfl
theorem rds_23 (n : Nat) (cs : List Value) : Rds Pg s (n + 1) 23 cs = (∃ a l c, cs = [.slice a l c] ∧ l ≤ c ∧ c ≤ maxLen ∧ (a = none → l = 0 ∧ c = 0) ∧ ∀ i, i < l → ∃ b es, a = some b ∧ es.length = 4 ∧ (∀ j v, es[j]? = some v → cellAt s ((b.add (i * 4)).add j) = some v) ∧ Rds Pg s n 55 es) := by kernel_rfl
theorem rds_55 (n : Nat) (cs : List Value) : Rds Pg s (n + 1) 55 cs = (cs.length = 4 ∧ Rds Pg s n 3 ((cs.drop 0).take 1) ∧ Rds Pg s n 3 ((cs.drop 1).take 1) ∧ Rds Pg s n 29 ((cs.drop 2).take 2) ∧ True) := by kernel_rfl
theorem rds_29 (n : Nat) (cs : List Value) : Rds Pg s (n + 1) 29 cs = (cs.length = 2 ∧ Rds Pg s n 3 ((cs.drop 0).take 1) ∧ Rds Pg s n 3 ((cs.drop 1).take 1) ∧ True) := by kernel_rfl
theorem ag_25 : isAg Pg 25 = true := by kernel_rfl
theorem ag_3 : isAg Pg 3 = false := by kernel_rfl
theorem choose_of {α : Type} {P : Nat → α → Prop} : ∀ l : Nat, (∀ i, i < l → ∃ m, P i m) → ∃ ms : List α, ms.length = l ∧ ∀ i (h : i < ms.length), P i ms[i]
  | 0, _ => ⟨[], rfl, fun i h => by simp at h⟩
  | l + 1, h => by
    obtain ⟨ms, h1, h2⟩ := choose_of l (fun i hi => h i (by omega))
    obtain ⟨m, hm⟩ := h l (by omega)
    refine ⟨ms ++ [m], by simp [h1], fun i hi => ?_⟩
    by_cases hil : i < ms.length
    · rw [List.getElem_append_left hil]; exact h2 i hil
    · simp at hi
      have : i = ms.length := by omega
      subst this
      rw [List.getElem_append_right (Nat.le_refl _)]
      simp [h1]; exact hm
theorem sc_rds {n : Nat} {es : List Value} (h : Rds Pg s (n + 3) 55 es) : ∃ m : Sc, es = [.int .i64 m.man, .int .i64 m.sheet, .int .i64 m.lo, .int .i64 m.hi] := by
  rw [rds_55, rds_29, rds_3, rds_3] at h
  obtain ⟨h0, ⟨c, h1, _⟩, ⟨l, h2, _⟩, ⟨h3, h4, h5, _⟩, _⟩ := h
  rw [rds_3] at h4 h5
  obtain ⟨u, h4, _⟩ := h4
  obtain ⟨v, h5, _⟩ := h5
  match es, h0 with
  | [a, b, d, e], _ =>
    simp at h1 h2 h4 h5
    subst h1; subst h2; subst h4; subst h5
    exact ⟨⟨c, l, u, v⟩, rfl⟩
theorem table_rd {v : Value} (h : RdV Pg s 25 v) : ∃ x c y c' T, v = .agg #[.int .i64 (T : Tb).men, .int .i64 T.sheets, .slice x T.off.length c, .slice y T.sc.length c'] ∧ RowAt s x (ints T.off) ∧ ScAt s y T.sc := by
  obtain ⟨cs, rfl, h⟩ := h
  rw [ag_25, rds_25, rds_22, rds_23, rds_3, rds_3] at *
  obtain ⟨h0, ⟨n, h1, _⟩, ⟨m, h2, _⟩, ⟨a, l, c, h3, _, _, _, h4⟩, ⟨b, k, c', h5, _, _, _, h6⟩, _⟩ := h
  match cs, h0 with
  | [p, q, u, w], _ =>
    simp at h1 h2 h3 h5
    subst h1; subst h2; subst h3; subst h5
    have key1 : ∀ i, i < l → ∃ z : Int, ∃ d, a = some d ∧ cellAt s (d.add (i * 1)) = some (.int .i64 z) := by
      intro i hi
      obtain ⟨d, es, hd, hes, hc, hr⟩ := h4 i hi
      rw [rds_3] at hr
      obtain ⟨z, rfl, _⟩ := hr
      exact ⟨z, d, hd, hc 0 _ rfl⟩
    have key2 : ∀ i, i < k → ∃ z : Sc, ∃ d, b = some d ∧ cellAt s ((d.add (i * 4)).add 0) = some (.int .i64 z.man) ∧ cellAt s ((d.add (i * 4)).add 1) = some (.int .i64 z.sheet) ∧ cellAt s ((d.add (i * 4)).add 2) = some (.int .i64 z.lo) ∧ cellAt s ((d.add (i * 4)).add 3) = some (.int .i64 z.hi) := by
      intro i hi
      obtain ⟨d, es, hd, hes, hc, hr⟩ := h6 i hi
      obtain ⟨z, rfl⟩ := sc_rds (n := 3) hr
      exact ⟨z, d, hd, hc 0 _ rfl, hc 1 _ rfl, hc 2 _ rfl, hc 3 _ rfl⟩
    obtain ⟨os, hl, ho⟩ := choose_of l key1
    obtain ⟨ss, hk, hs⟩ := choose_of k key2
    subst hl
    subst hk
    refine ⟨a, c, b, c', ⟨n, m, os, ss⟩, rfl, fun i hi => ?_, fun i hi => hs i hi⟩
    have hi' : i < os.length := by rw [ints_len] at hi; exact hi
    rw [ints_get hi]
    exact ho i hi'
theorem int_rd {v : Value} (h : RdV Pg s 3 v) : ∃ n, v = .int .i64 n := by
  obtain ⟨cs, rfl, h⟩ := h
  rw [ag_3, rds_3] at *
  obtain ⟨m, rfl, hw⟩ := h
  exact ⟨m, rfl⟩
end
end Go.Proofs.Ytkgcbfbbcaajpaa.G

/- (what is known of a score) The document's functions of layer 10: what is known of a score; what somebody has. -/
set_option linter.unusedSimpArgs false
set_option linter.unusedVariables false
set_option maxRecDepth 20000
namespace Go.Proofs.Ytkgcbfbbcaajpaa.G
open Go.V
theorem findA_find {k : Int × Int} : ∀ (l : List Pr) (i : Nat), (findA k l i).map (·.2) = (l.find? fun x => decide (x.1 = k)).map (·.2)
  | [], _ => rfl
  | x :: r, i => by
    unfold findA
    rw [List.find?_cons]
    by_cases h : k = x.1
    · rw [if_pos h, decide_eq_true h.symm]; rfl
    · rw [if_neg h, decide_eq_false (fun e => h e.symm)]
      exact findA_find r (i + 1)
theorem pts_find {l : List Pr} {k : Int × Int} : pts l k = ((l.find? fun x => decide (x.1 = k)).map (·.2)).getD (0, 40) := by
  rw [← findA_find l 0]
  unfold pts
  cases findA k l 0 <;> rfl
section
variable {W : World} {K : VK} {E : List PanicEntry → Hp → Prop} {s : Hp} {T : Tb}
theorem f_Points {x y : Option Addr} {c c' : Nat} {m k : Int} (hx : RowAt s x (ints T.off)) (hy : ScAt s y T.sc) (hl : T.sc.length ≤ 100000) (h : ∀ s', Ext s s' → K (spanV (pts (prs T) (m, k))) s') :
    CALL Pg W F_ref10_Points [.agg #[.int .i64 T.men, .int .i64 T.sheets, .slice x T.off.length c, .slice y T.sc.length c'], .int .i64 m, .int .i64 k] K E s := by
  refine does_ref10_Points W T.men T.sheets x T.off.length c y T.sc.length c' m k _ s ?_
  unfold T_ref10_Points
  refine NEW_rule fun s1 e1 z1 n1 _ => ?_
  refine NEWZ_rule zc_29 fun s2 e2 z2 n2 => ?_
  have ta := (tbA_new e1 hx hy n1).ext e2
  have e02 := e1.trans e2
  have hs1 := e1.1
  have b0 := n2 0 _ rfl
  have b1 := n2 1 _ rfl
  refine L_ref10_Points_0_rule W _ m k ⟨s.size, 0, none⟩ ⟨s1.size, 0, none⟩ (fun n t => Ext s2 t ∧ ∃ i : Nat, i ≤ T.sc.length ∧ n = i ∧ ∀ j, j < i → ∀ w, (prs T)[j]? = some w → decide (w.1 = (m, k)) = false) (fun n _ => (T.sc.length - n).toNat) 0 s2 ⟨Ext.refl _, 0, by omega, rfl, fun j hj => by omega⟩ ?_
  rintro n13 t ⟨et, i, hi, rfl, hno⟩
  obtain ⟨y1, cy, q1, q2⟩ := (ta.ext et).sc
  have hpl : (prs T).length = T.sc.length := by unfold prs; rw [List.length_map]
  unfold B_ref10_Points_0
  refine ⟨_, _, _, q1, ?_⟩
  refine BR_dec (fun h1 => ?_) (fun h1 => ?_)
  · have hil : i < T.sc.length := by omega
    obtain ⟨a, ha, g0, g1, g2, g3⟩ := q2 i hil
    have ti : ((i : Int)).toNat = i := by omega
    refine ⟨_, _, _, q1, a, ha, ⟨by omega, by omega⟩, ?_⟩
    rw [ti]
    refine ⟨_, g0, _, g1, _, g2, _, g3, ?_⟩
    refine NEWZ_rule zc_55 fun u1 f1 y1 m1 => ?_
    refine wr4 rfl rfl rfl rfl (new4 m1) fun u2 k2 z2 o0 o1 o2 o3 => ?_
    have e2' : Ext t u2 := ext_own f1 (Nat.le_refl _) k2
    have eu := et.trans e2'
    have hpi : (prs T)[i]? = some T.sc[i].pr := by unfold prs; rw [List.getElem?_map, List.getElem?_eq_getElem hil]; rfl
    have hw : IntKind.i64.wrap ((i : Int) + 1) = ((i + 1 : Nat) : Int) := by rw [wrap_i64 (by omega) (by omega)]; rfl
    have j0 : ∀ q : Bool, q = decide (T.sc[i].pr.1 = (m, k)) → J_ref10_Points_0 W (endK K E) q t.size ⟨s1.size, 0, none⟩ m k ⟨s.size, 0, none⟩ (fun vs => N_ref10_Points_0 (fun n t => Ext s2 t ∧ ∃ i : Nat, i ≤ T.sc.length ∧ n = i ∧ ∀ j, j < i → ∀ w, (prs T)[j]? = some w → decide (w.1 = (m, k)) = false) (fun n _ => (T.sc.length - n).toNat) i t vs) i u2 := by
      intro q hq
      unfold J_ref10_Points_0
      refine BR_bool (fun hh => ?_) (fun hh => ?_)
      · refine ⟨_, o2.cell, _, o3.cell, fin_span (eu.own b0) (eu.own b1) fun s' k' => ?_⟩
        have hp : pts (prs T) (m, k) = (T.sc[i].lo, T.sc[i].hi) := by
          rw [pts_find, find_first (prs T) i T.sc[i].pr hpi (by rw [← hq]; exact hh) hno]; rfl
        rw [hp] at h
        exact h s' (kp_new (e02.trans eu) (by omega) k')
      · refine ⟨rfl, _, rfl, ⟨eu, i + 1, by omega, hw, fun j hj w hw' => ?_⟩, ?_⟩
        · by_cases e : j = i
          · subst e
            rw [hpi] at hw'
            injection hw' with hw'
            rw [← hw', ← hq]; exact hh
          · exact hno j (by omega) w hw'
        · show ((T.sc.length : Int) - IntKind.i64.wrap ((i : Int) + 1)).toNat < ((T.sc.length : Int) - i).toNat
          rw [hw]; omega
    refine ⟨_, o0.cell, ?_⟩
    refine BR_eq (fun hm => ?_) (fun hm => j0 _ (decide_eq_false (fun hc => hm (by injection hc))).symm)
    refine ⟨_, o1.cell, j0 _ ?_⟩
    have : (T.sc[i].sheet == k) = decide (T.sc[i].sheet = k) := by rw [Bool.beq_eq_decide_eq]
    rw [this]
    congr 1
    apply propext
    constructor
    · intro hs; show (T.sc[i].man, T.sc[i].sheet) = (m, k); rw [hm, hs]
    · intro hc; injection hc
  · have hp : pts (prs T) (m, k) = (0, 40) := by
      have : (prs T).find? (fun x => decide (x.1 = (m, k))) = none := List.find?_eq_none.2 fun w hw => by
        obtain ⟨j, hj, rfl⟩ := List.mem_iff_getElem.1 hw
        rw [hno j (by omega) _ (List.getElem?_eq_getElem hj)]; simp
      rw [pts_find, this]; rfl
    rw [hp] at h
    exact fin_span (et.own b0) (et.own b1) fun s' k' => h s' (kp_new (e02.trans et) (by omega) k')
end
end Go.Proofs.Ytkgcbfbbcaajpaa.G

/- Too much? What the document fixes holds. -/
set_option linter.unusedSimpArgs false
set_option linter.unusedVariables false
set_option maxRecDepth 20000
namespace Go.Proofs.Ytkgcbfbbcaajpaa.G
open Go.V
def bytes (l : List Nat) : List Value := l.map fun (b : Nat) => .int .u8 (b : Int)
theorem bytes_len (l : List Nat) : (bytes l).length = l.length := by simp [bytes]
theorem bytes_get {l : List Nat} {i : Nat} (h : i < (bytes l).length) : (bytes l)[i] = .int .u8 ((l[i]'(by simpa [bytes] using h) : Nat) : Int) := by simp [bytes]
theorem new2' {s : Hp} {b : Nat} {v0 v1 : Value} (h0 : Own s ⟨b, 0, none⟩ v0) (h1 : Own s ⟨b, 1, none⟩ v1) : ∀ j, j < 2 → ∃ y, Own s ((⟨b, 0, none⟩ : Addr).add j) y := by
  intro j hj
  match j, hj with
  | 0, _ => exact ⟨_, h0⟩
  | 1, _ => exact ⟨_, h1⟩
section
variable {W : World} {K : VK} {E : List PanicEntry → Hp → Prop} {s : Hp} {T : Tb}
theorem c_far {x y : Option Addr} {c c' : Nat} (h : ∀ s' b, Ext s s' → (b = false → T.off.length ≤ 40 ∧ T.sc.length ≤ 100) → K (.bool b) s') :
    CALL Pg W F_law10_far [.agg #[.int .i64 T.men, .int .i64 T.sheets, .slice x T.off.length c, .slice y T.sc.length c']] K E s := by
  refine does_law10_far W T.men T.sheets x T.off.length c y T.sc.length c' _ s ?_
  unfold T_law10_far
  refine NEW_rule fun s1 e1 z1 n1 _ => ?_
  refine ⟨_, _, _, (n1 2 _ rfl).cell, ?_⟩
  refine BR_dec (fun h1 => h s1 true e1 (fun hh => by cases hh)) (fun h1 => ?_)
  refine ⟨_, _, _, (n1 3 _ rfl).cell, ?_⟩
  exact h s1 _ e1 (fun hh => by have := of_decide_eq_false hh; omega)
theorem c_awake' {s0 : Hp} (e : Ext s0 s) (h : ∀ s', Ext s0 s' → K (.bool true) s') : CALL Pg W F_law10_awake [] K E s := c_awake fun s' e' => h s' (e.trans e')
end
end Go.Proofs.Ytkgcbfbbcaajpaa.G

/- More arguments by their types: bytes, lists of bytes, a score. -/
set_option linter.unusedVariables false
set_option linter.unusedSimpArgs false
set_option maxRecDepth 20000
namespace Go.Proofs.Ytkgcbfbbcaajpaa.G
open Go.V
section
variable {s : Hp}
theorem rds_5 (n : Nat) (cs : List Value) : Rds Pg s (n + 1) 5 cs = (∃ m, cs = [.int .u8 m] ∧ (Lit.int .u8 m).wf = true) := by kernel_rfl
theorem rds_58 (n : Nat) (cs : List Value) : Rds Pg s (n + 1) 58 cs = (∃ m, cs = [.int .u16 m] ∧ (Lit.int .u16 m).wf = true) := by kernel_rfl
theorem rds_45 (n : Nat) (cs : List Value) : Rds Pg s (n + 1) 45 cs = (∃ a l c, cs = [.slice a l c] ∧ l ≤ c ∧ c ≤ maxLen ∧ (a = none → l = 0 ∧ c = 0) ∧ ∀ i, i < l → ∃ b es, a = some b ∧ es.length = 1 ∧ (∀ j v, es[j]? = some v → cellAt s ((b.add (i * 1)).add j) = some v) ∧ Rds Pg s n 5 es) := by kernel_rfl
theorem ag_5 : isAg Pg 5 = false := by kernel_rfl
theorem ag_58 : isAg Pg 58 = false := by kernel_rfl
theorem ag_45 : isAg Pg 45 = false := by kernel_rfl
theorem ag_55 : isAg Pg 55 = true := by kernel_rfl
theorem u8_wf {m : Int} (h : (Lit.int .u8 m).wf = true) : 0 ≤ m ∧ m ≤ 255 := by
  simp [Lit.wf, IntKind.min, IntKind.max, IntKind.bits, IntKind.signed] at h; omega
theorem u16_wf {m : Int} (h : (Lit.int .u16 m).wf = true) : 0 ≤ m ∧ m ≤ 65535 := by
  simp [Lit.wf, IntKind.min, IntKind.max, IntKind.bits, IntKind.signed] at h; omega
theorem i64_wf {m : Int} (h : (Lit.int .i64 m).wf = true) : -9223372036854775808 ≤ m ∧ m ≤ 9223372036854775807 := by
  simp [Lit.wf, IntKind.min, IntKind.max, IntKind.bits, IntKind.signed] at h; omega
theorem u8_rd {v : Value} (h : RdV Pg s 5 v) : ∃ n : Nat, v = .int .u8 n ∧ n < 256 := by
  obtain ⟨cs, rfl, h⟩ := h
  rw [ag_5, rds_5] at *
  obtain ⟨m, rfl, hw⟩ := h
  obtain ⟨h1, h2⟩ := u8_wf hw
  obtain ⟨n, rfl⟩ := Int.eq_ofNat_of_zero_le h1
  exact ⟨n, rfl, by omega⟩
theorem u16_rd {v : Value} (h : RdV Pg s 58 v) : ∃ n : Nat, v = .int .u16 n ∧ n < 65536 := by
  obtain ⟨cs, rfl, h⟩ := h
  rw [ag_58, rds_58] at *
  obtain ⟨m, rfl, hw⟩ := h
  obtain ⟨h1, h2⟩ := u16_wf hw
  obtain ⟨n, rfl⟩ := Int.eq_ofNat_of_zero_le h1
  exact ⟨n, rfl, by omega⟩
theorem u8s_rd {v : Value} (h : RdV Pg s 45 v) : ∃ x c bs, v = .slice x (bs : List Nat).length c ∧ RowAt s x (bytes bs) ∧ (∀ b ∈ bs, b < 256) ∧ bs.length ≤ maxLen := by
  obtain ⟨cs, rfl, h⟩ := h
  rw [ag_45, rds_45] at *
  obtain ⟨a, l, c, rfl, h2, h3, h4, h5⟩ := h
  have key : ∀ i, i < l → ∃ z : Nat, z < 256 ∧ ∃ d, a = some d ∧ cellAt s (d.add (i * 1)) = some (.int .u8 z) := by
    intro i hi
    obtain ⟨d, es, hd, hes, hc, hr⟩ := h5 i hi
    rw [rds_5] at hr
    obtain ⟨z, rfl, hw⟩ := hr
    obtain ⟨w1, w2⟩ := u8_wf hw
    obtain ⟨n, rfl⟩ := Int.eq_ofNat_of_zero_le w1
    exact ⟨n, by omega, d, hd, hc 0 _ rfl⟩
  obtain ⟨bs, hl, hb⟩ := choose_of l key
  subst hl
  refine ⟨a, c, bs, rfl, fun i hi => ?_, fun b hb' => ?_, Nat.le_trans h2 h3⟩
  · have hi' : i < bs.length := by rw [bytes_len] at hi; exact hi
    rw [bytes_get hi]
    exact (hb i hi').2
  · obtain ⟨i, hi, rfl⟩ := List.mem_iff_getElem.1 hb'
    exact (hb i hi).1
theorem score_rd {v : Value} (h : RdV Pg s 55 v) : ∃ q : Sc, v = .agg #[.int .i64 q.man, .int .i64 q.sheet, .int .i64 q.lo, .int .i64 q.hi] := by
  obtain ⟨cs, rfl, h⟩ := h
  obtain ⟨q, rfl⟩ := sc_rds (n := 5) h
  rw [ag_55]
  exact ⟨q, rfl⟩
theorem int_rdl {v : Value} (h : RdV Pg s 3 v) : ∃ n, v = .int .i64 n ∧ -9223372036854775808 ≤ n ∧ n ≤ 9223372036854775807 := by
  obtain ⟨cs, rfl, h⟩ := h
  rw [ag_3, rds_3] at *
  obtain ⟨m, rfl, hw⟩ := h
  exact ⟨m, rfl, (i64_wf hw).1, (i64_wf hw).2⟩
end
end Go.Proofs.Ytkgcbfbbcaajpaa.G

/- Shorter ways through texts over the visible heap: known conditions, counting, variables that are made and written. -/
set_option linter.unusedSimpArgs false
set_option linter.unusedVariables false
set_option maxRecDepth 20000
namespace Go.V
theorem BR_t (x y : Hp → Prop) : BR true x y = x := rfl
theorem BR_f (x y : Hp → Prop) : BR false x y = y := rfl
theorem wrap_succ {k : Nat} (h : k < 1000000000) : IntKind.i64.wrap ((k : Int) + 1) = ((k + 1 : Nat) : Int) := by rw [wrap_i64 (by omega) (by omega)]; rfl
theorem ms_succ {k n : Nat} (h : k < n) (h2 : n ≤ 1000000000) : ((n : Int) - IntKind.i64.wrap ((k : Int) + 1)).toNat < ((n : Int) - (k : Int)).toNat := by rw [wrap_succ (by omega)]; omega
theorem toNat_nat (k : Nat) : ((k : Nat) : Int).toNat = k := Int.toNat_natCast k
theorem NNI_of {b : Int} {K : Hp → Prop} {s : Hp} (hb : 0 ≤ b) (h : K s) : NNI b K s := by
  obtain ⟨n, rfl⟩ := Int.eq_ofNat_of_zero_le hb
  exact h
section
variable {s s0 s' : Hp} {K : Hp → Prop}
/-- A write into a block that was made behind 's0'. -/
theorem ext_kp {b : Nat} (e : Ext s0 s) (h : s0.size ≤ b) (k : Kp (· = b) s s') : Ext s0 s' := ⟨Nat.le_trans e.1 k.1, fun q hq => by
  rw [k.2 q (Nat.lt_of_lt_of_le hq e.1) (fun hh => by have h2 : q = b := hh; omega)]; exact e.2 q hq⟩
theorem kp_nil {C : Nat → Prop} (e : Ext s0 s) (h : ∀ b, C b → s0.size ≤ b) (k : Kp C s s') : Ext s0 s' := ⟨Nat.le_trans e.1 k.1, fun q hq => by
  rw [k.2 q (Nat.lt_of_lt_of_le hq e.1) (fun hh => by have := h q hh; omega)]; exact e.2 q hq⟩
theorem wr1 {a : Addr} {v y : Value} (ha : Own s a y) (h0 : oneCell v = true) (h : ∀ s', Kp (· = a.block) s s' → s'.size = s.size → Own s' a v → K s') : WR a v K s :=
  WR_own ha h0 (h _ (Kp.setC (Kp.refl s) (.inl rfl)) (setC_size _ _ _) (own_set ha))
end
section
variable {P : Program} {s : Hp} {t : TypeId}
/-- A new variable of one cell that is written. -/
theorem nw1 {z0 v0 : Value} {K : Nat → Hp → Prop} (hz : zc P t = [z0]) (h0 : oneCell v0 = true) (h : ∀ s', Ext s s' → s'.size = s.size + 1 → Own s' ⟨s.size, 0, none⟩ v0 → K s.size s') :
    NEWZ P t (fun B => WR (Addr.add ⟨B, 0, none⟩ 0) v0 (K B)) s := by
  refine NEWZ_rule hz fun s1 e1 z1 n1 => ?_
  refine wr1 (a := ⟨s.size, 0, none⟩) (n1 0 _ rfl) h0 fun s2 k2 z2 o2 => ?_
  exact h s2 (ext_kp e1 (Nat.le_refl _) k2) (by omega) o2
/-- .. of more cells. -/
theorem nwN {cs vs : List Value} {K : Nat → Hp → Prop} (hz : zc P t = cs) (hl : vs.length = cs.length) (hv : ∀ v ∈ vs, oneCell v = true) (h : ∀ s', Ext s s' → s'.size = s.size + 1 → (∀ i (h : i < vs.length), Own s' ⟨s.size, i, none⟩ vs[i]) → K s.size s') :
    NEWZ P t (fun B => wrN vs ⟨B, 0, none⟩ 0 (K B)) s := by
  refine NEWZ_rule hz fun s1 e1 z1 n1 => ?_
  refine wrN_rule vs _ 0 _ s1 (fun i hi => ⟨cs[i]'(by omega), ?_⟩) hv fun s2 k2 z2 o2 _ => ?_
  · have := n1 i cs[i] (List.getElem?_eq_getElem (by omega))
    rw [add_nil, Nat.zero_add, Nat.zero_add]; exact this
  · refine h s2 (ext_kp e1 (Nat.le_refl _) k2) (by omega) fun i hi => ?_
    have := o2 i hi
    rw [add_nil, Nat.zero_add, Nat.zero_add] at this; exact this
theorem nw2 {z0 z1 v0 v1 : Value} {K : Nat → Hp → Prop} (hz : zc P t = [z0, z1]) (h0 : oneCell v0 = true) (h1 : oneCell v1 = true) (h : ∀ s', Ext s s' → s'.size = s.size + 1 → Own s' ⟨s.size, 0, none⟩ v0 → Own s' ⟨s.size, 1, none⟩ v1 → K s.size s') :
    NEWZ P t (fun B => WR (Addr.add ⟨B, 0, none⟩ 0) v0 (WR (Addr.add ⟨B, 0, none⟩ 1) v1 (K B))) s :=
  nwN (vs := [v0, v1]) hz rfl (by simp [h0, h1]) fun s' e z o => h s' e z (o 0 (by simp)) (o 1 (by simp))
theorem nw3 {z0 z1 z2 v0 v1 v2 : Value} {K : Nat → Hp → Prop} (hz : zc P t = [z0, z1, z2]) (h0 : oneCell v0 = true) (h1 : oneCell v1 = true) (h2 : oneCell v2 = true) (h : ∀ s', Ext s s' → s'.size = s.size + 1 → Own s' ⟨s.size, 0, none⟩ v0 → Own s' ⟨s.size, 1, none⟩ v1 → Own s' ⟨s.size, 2, none⟩ v2 → K s.size s') :
    NEWZ P t (fun B => WR (Addr.add ⟨B, 0, none⟩ 0) v0 (WR (Addr.add ⟨B, 0, none⟩ 1) v1 (WR (Addr.add ⟨B, 0, none⟩ 2) v2 (K B)))) s :=
  nwN (vs := [v0, v1, v2]) hz rfl (by simp [h0, h1, h2]) fun s' e z o => h s' e z (o 0 (by simp)) (o 1 (by simp)) (o 2 (by simp))
theorem nw4 {z0 z1 z2 z3 v0 v1 v2 v3 : Value} {K : Nat → Hp → Prop} (hz : zc P t = [z0, z1, z2, z3]) (h0 : oneCell v0 = true) (h1 : oneCell v1 = true) (h2 : oneCell v2 = true) (h3 : oneCell v3 = true) (h : ∀ s', Ext s s' → s'.size = s.size + 1 → Own s' ⟨s.size, 0, none⟩ v0 → Own s' ⟨s.size, 1, none⟩ v1 → Own s' ⟨s.size, 2, none⟩ v2 → Own s' ⟨s.size, 3, none⟩ v3 → K s.size s') :
    NEWZ P t (fun B => WR (Addr.add ⟨B, 0, none⟩ 0) v0 (WR (Addr.add ⟨B, 0, none⟩ 1) v1 (WR (Addr.add ⟨B, 0, none⟩ 2) v2 (WR (Addr.add ⟨B, 0, none⟩ 3) v3 (K B))))) s :=
  nwN (vs := [v0, v1, v2, v3]) hz rfl (by simp [h0, h1, h2, h3]) fun s' e z o => h s' e z (o 0 (by simp)) (o 1 (by simp)) (o 2 (by simp)) (o 3 (by simp))
/-- A new variable as it is. -/
theorem nz1 {v0 : Value} {K : Nat → Hp → Prop} (hz : zc P t = [v0]) (h : ∀ s', Ext s s' → s'.size = s.size + 1 → Own s' ⟨s.size, 0, none⟩ v0 → K s.size s') : NEWZ P t K s :=
  NEWZ_rule hz fun s1 e1 z1 n1 => h s1 e1 z1 (n1 0 _ rfl)
theorem nz2 {v0 v1 : Value} {K : Nat → Hp → Prop} (hz : zc P t = [v0, v1]) (h : ∀ s', Ext s s' → s'.size = s.size + 1 → Own s' ⟨s.size, 0, none⟩ v0 → Own s' ⟨s.size, 1, none⟩ v1 → K s.size s') : NEWZ P t K s :=
  NEWZ_rule hz fun s1 e1 z1 n1 => h s1 e1 z1 (n1 0 _ rfl) (n1 1 _ rfl)
theorem nz4 {v0 v1 v2 v3 : Value} {K : Nat → Hp → Prop} (hz : zc P t = [v0, v1, v2, v3]) (h : ∀ s', Ext s s' → s'.size = s.size + 1 → Own s' ⟨s.size, 0, none⟩ v0 → Own s' ⟨s.size, 1, none⟩ v1 → Own s' ⟨s.size, 2, none⟩ v2 → Own s' ⟨s.size, 3, none⟩ v3 → K s.size s') : NEWZ P t K s :=
  NEWZ_rule hz fun s1 e1 z1 n1 => h s1 e1 z1 (n1 0 _ rfl) (n1 1 _ rfl) (n1 2 _ rfl) (n1 3 _ rfl)
theorem ne1 {v0 : Value} {K : Nat → Hp → Prop} (h : ∀ s', Ext s s' → s'.size = s.size + 1 → Own s' ⟨s.size, 0, none⟩ v0 → K s.size s') : NEW t [v0] K s :=
  NEW_rule fun s1 e1 z1 n1 _ => h s1 e1 z1 (n1 0 _ rfl)
theorem ne2 {v0 v1 : Value} {K : Nat → Hp → Prop} (h : ∀ s', Ext s s' → s'.size = s.size + 1 → Own s' ⟨s.size, 0, none⟩ v0 → Own s' ⟨s.size, 1, none⟩ v1 → K s.size s') : NEW t [v0, v1] K s :=
  NEW_rule fun s1 e1 z1 n1 _ => h s1 e1 z1 (n1 0 _ rfl) (n1 1 _ rfl)
theorem ne4 {v0 v1 v2 v3 : Value} {K : Nat → Hp → Prop} (h : ∀ s', Ext s s' → s'.size = s.size + 1 → Own s' ⟨s.size, 0, none⟩ v0 → Own s' ⟨s.size, 1, none⟩ v1 → Own s' ⟨s.size, 2, none⟩ v2 → Own s' ⟨s.size, 3, none⟩ v3 → K s.size s') : NEW t [v0, v1, v2, v3] K s :=
  NEW_rule fun s1 e1 z1 n1 _ => h s1 e1 z1 (n1 0 _ rfl) (n1 1 _ rfl) (n1 2 _ rfl) (n1 3 _ rfl)
end
end Go.V
namespace Go.V
theorem MKS_rule {P : Program} {t : TypeId} {n : Nat} {z : Value} {K : Nat → Hp → Prop} {s : Hp} (hz : zc P t = [z]) (hn : n ≤ 100000) (h : ∀ s', Ext s s' → s'.size = s.size + 1 → (∀ i, i < n → Own s' ⟨s.size, i, none⟩ z) → K s.size s') : MKS P t (n : Int) (n : Int) K s := by
  refine ⟨⟨by omega, by omega, by omega⟩, ?_⟩
  rw [hz, Int.toNat_natCast]
  exact h _ (Ext.push (Ext.refl _)) (by simp) fun i hi => own_new (repL_getD z n i hi)
theorem IXS_nat {a : Addr} {l i es : Nat} {K : Addr → Hp → Prop} {s : Hp} (h : i < l) (hk : K (a.add (i * es)) s) : IXS (some a) l (i : Int) es K s := ⟨a, rfl, ⟨by omega, by omega⟩, hk⟩
end Go.V
namespace Go.V
theorem BR_ff {c : Bool} {x y : Hp → Prop} {s : Hp} (h : c = false) (hk : y s) : BR c x y s := by rw [h]; exact hk
theorem BR_tt {c : Bool} {x y : Hp → Prop} {s : Hp} (h : c = true) (hk : x s) : BR c x y s := by rw [h]; exact hk
end Go.V
namespace Go.V
theorem ANDS_i {x K : Hp → Prop} {s : Hp} (h : x s) (k : K s) : ANDS x K s := ⟨h, k⟩
theorem CONJ_one {a : Hp → Prop} {s : Hp} (h : a s) : CONJ [a] s := h
theorem CONJ_more {s : Hp} {a b : Hp → Prop} {l : List (Hp → Prop)} (h1 : a s) (h2 : CONJ (b :: l) s) : CONJ (a :: b :: l) s := ⟨h1, h2⟩
end Go.V

/- Rank, in plain Lean: who surely is before whom, who can be; places; winners. -/
set_option linter.unusedSimpArgs false
set_option linter.unusedVariables false
set_option maxRecDepth 20000
namespace Go.Proofs.Ytkgcbfbbcaajpaa.G
open Go.V
/-! ### Rows -/
theorem gt_le {a b c : List Int} (hl : b.length = c.length) (h1 : aheadL a b = true) (h2 : aheadL c b = false) : aheadL a c = true := by
  cases h : aheadL b c with
  | true => exact ahead_trans _ _ _ h1 h
  | false => rw [ahead_tri _ _ hl h h2] at h1; exact h1
theorem le_gt {a b c : List Int} (hl : a.length = b.length) (h1 : aheadL b a = false) (h2 : aheadL b c = true) : aheadL a c = true := by
  cases h : aheadL a b with
  | true => exact ahead_trans _ _ _ h h2
  | false => rw [ahead_tri _ _ hl h h1]; exact h2
theorem gt_asym {a b : List Int} (h : aheadL a b = true) : aheadL b a = false := by
  cases h2 : aheadL b a with
  | false => rfl
  | true => have := ahead_trans _ _ _ h h2; rw [ahead_same] at this; cases this
theorem le_le {a b c : List Int} (hl : a.length = b.length) (h1 : aheadL a b = false) (h2 : aheadL b c = false) : aheadL a c = false := by
  cases h : aheadL a c with
  | false => rfl
  | true => have := le_gt hl.symm h1 h; rw [this] at h2; cases h2
/-! ### What somebody has -/
def lowR (T : Tb) (i : Nat) : List Int := rowL (pts (prs T)) false T.m (offT T i) i
def topR (T : Tb) (i : Nat) : List Int := rowL (pts (prs T)) true T.m (offT T i) i
theorem lowR_len (T : Tb) (i : Nat) : (lowR T i).length = T.m + 1 := rowL_len _ _ _ _ _
theorem topR_len (T : Tb) (i : Nat) : (topR T i).length = T.m + 1 := rowL_len _ _ _ _ _
def canT (T : Tb) (a b : Nat) : Bool := befP (pts (prs T)) true T.m T.off a b
theorem surT_eq (T : Tb) (a b : Nat) : surT T a b = (decide (a ≠ b) && aheadL (lowR T a) (topR T b)) := rfl
theorem canT_eq (T : Tb) (a b : Nat) : canT T a b = (decide (a ≠ b) && aheadL (topR T a) (lowR T b)) := rfl
theorem surT_iff {T : Tb} {a b : Nat} : surT T a b = true ↔ a ≠ b ∧ aheadL (lowR T a) (topR T b) = true := by rw [surT_eq]; simp
theorem canT_iff {T : Tb} {a b : Nat} : canT T a b = true ↔ a ≠ b ∧ aheadL (topR T a) (lowR T b) = true := by rw [canT_eq]; simp
theorem surT_self (T : Tb) (a : Nat) : surT T a a = false := by rw [surT_eq]; simp
theorem canT_self (T : Tb) (a : Nat) : canT T a a = false := by rw [canT_eq]; simp
theorem sur_not {T : Tb} {a b : Nat} (h : surT T a b = true) : canT T b a = false := by
  obtain ⟨h1, h2⟩ := surT_iff.1 h
  rw [canT_eq, gt_asym h2, Bool.and_false]
section
variable {T : Tb} (hok : okT T = true)
include hok
theorem low_top (i : Nat) : aheadL (lowR T i) (topR T i) = false := row_le fun k => (pts_in (okT_vd hok) k).2.1
theorem sur_can {a b : Nat} (h : surT T a b = true) : canT T a b = true := by
  obtain ⟨h1, h2⟩ := surT_iff.1 h
  exact canT_iff.2 ⟨h1, le_gt (by rw [topR_len, lowR_len]) (low_top hok a) (gt_le (by rw [topR_len, lowR_len]) h2 (low_top hok b))⟩
theorem sur_asym {a b : Nat} (h : surT T a b = true) : surT T b a = false := by
  cases h2 : surT T b a with
  | false => rfl
  | true => have := sur_can hok h2; rw [sur_not h] at this; cases this
theorem sur_trans {a b c : Nat} (h : surT T a b = true) (h' : surT T b c = true) : surT T a c = true := by
  obtain ⟨h1, h2⟩ := surT_iff.1 h
  obtain ⟨h3, h4⟩ := surT_iff.1 h'
  refine surT_iff.2 ⟨fun e => ?_, ahead_trans _ _ _ (gt_le (by rw [topR_len, lowR_len]) h2 (low_top hok b)) h4⟩
  subst e
  rw [sur_asym hok h] at h'; cases h'
theorem can_sur {o a b : Nat} (h : canT T o a = true) (h' : surT T a b = true) : canT T o b = true := by
  obtain ⟨h1, h2⟩ := canT_iff.1 h
  obtain ⟨h3, h4⟩ := surT_iff.1 h'
  refine canT_iff.2 ⟨fun e => ?_, ahead_trans _ _ _ h2 (gt_le (by rw [topR_len, lowR_len]) h4 (low_top hok b))⟩
  subst e
  rw [sur_not h'] at h; cases h
theorem sur_of_sur {o a b : Nat} (h : surT T o a = true) (h' : surT T a b = true) : surT T o b = true := sur_trans hok h h'
end
/-! ### Counts -/
theorem cntB_mono {f g : Nat → Bool} : ∀ (n : Nat), (∀ o, o < n → f o = true → g o = true) → cntB f n ≤ cntB g n
  | 0, _ => by simp [cntB]
  | n + 1, h => by
    rw [cntB_succ, cntB_succ]
    have ih := cntB_mono (f := f) (g := g) n fun o ho => h o (by omega)
    have h0 := h n (by omega)
    cases hf : f n <;> cases hg : g n <;> simp_all <;> omega
theorem cntB_lt {f g : Nat → Bool} {a : Nat} (ha : f a = false) (hg : g a = true) : ∀ (n : Nat), a < n → (∀ o, o < n → f o = true → g o = true) → cntB f n < cntB g n
  | 0, h, _ => by omega
  | n + 1, hn, h => by
    rw [cntB_succ, cntB_succ]
    by_cases e : a = n
    · subst e
      have := cntB_mono (f := f) (g := g) a fun o ho => h o (by omega)
      rw [ha, hg]; simp; omega
    · have ih := cntB_lt ha hg n (by omega) fun o ho => h o (by omega)
      have h0 := h n (by omega)
      cases hf : f n <;> cases hg : g n <;> simp_all <;> omega
theorem cntB_ext {f g : Nat → Bool} {n : Nat} (h : ∀ o, o < n → f o = g o) : cntB f n = cntB g n := by
  unfold cntB
  congr 1
  exact List.filter_congr fun o ho => h o (List.mem_range.1 ho)
theorem cntB_zero {f : Nat → Bool} {n : Nat} : cntB f n = 0 ↔ ∀ o, o < n → f o = false := by
  unfold cntB
  rw [List.length_eq_zero_iff, List.filter_eq_nil_iff]
  constructor
  · intro h o ho; have := h o (List.mem_range.2 ho); simpa using this
  · intro h o ho; rw [h o (List.mem_range.1 ho)]; simp
/-! ### Places -/
def plcT (T : Tb) (i : Nat) : Int × Int := plcP (pts (prs T)) T.m T.n T.off i
theorem plcT_eq (T : Tb) (i : Nat) : plcT T i = ((1 : Int) + ((cntB (fun o => surT T o i) T.n : Nat) : Int), (1 : Int) + ((cntB (fun o => canT T o i) T.n : Nat) : Int)) := rfl
theorem befN_eq (T : Tb) (a b : Nat) : befN T a b = if surT T a b then 2 else if canT T a b then 1 else 0 := rfl
theorem befN_lim (T : Tb) (a b : Nat) : 0 ≤ befN T a b ∧ befN T a b ≤ 2 := by
  rw [befN_eq]; split
  · omega
  · split <;> omega
theorem befN_two {T : Tb} {a b : Nat} : befN T a b = 2 ↔ surT T a b = true := by
  rw [befN_eq]
  cases surT T a b with
  | true => simp
  | false => cases canT T a b <;> simp
theorem surF_no {T : Tb} {i o : Nat} (h : surF T i = true) (ho : o < T.n) : canT T o i = false := by
  have h1 : (plcT T i).2 = 1 := of_decide_eq_true h
  rw [plcT_eq] at h1
  have h2 : cntB (fun o => canT T o i) T.n = 0 := by have : (1 : Int) + _ = 1 := h1; omega
  exact cntB_zero.1 h2 o ho
section
variable {T : Tb} (hok : okT T = true)
include hok
theorem befN_zero {a b : Nat} : befN T a b = 0 ↔ canT T a b = false := by
  rw [befN_eq]
  cases h : surT T a b with
  | true => simp [sur_can hok h]
  | false => cases canT T a b <;> simp
theorem plc_lo {a b : Nat} (ha : a < T.n) (h : surT T a b = true) : (plcT T a).1 < (plcT T b).1 := by
  rw [plcT_eq, plcT_eq]
  have := cntB_lt (f := fun o => surT T o a) (g := fun o => surT T o b) (surT_self T a) h T.n ha fun o _ ho => sur_trans hok ho h
  show 1 + _ < 1 + _
  omega
theorem plc_hi {a b : Nat} (ha : a < T.n) (h : surT T a b = true) : (plcT T a).2 < (plcT T b).2 := by
  rw [plcT_eq, plcT_eq]
  have := cntB_lt (f := fun o => canT T o a) (g := fun o => canT T o b) (canT_self T a) (sur_can hok h) T.n ha fun o _ ho => can_sur hok ho h
  show 1 + _ < 1 + _
  omega
theorem plc_le (i : Nat) : (plcT T i).1 ≤ (plcT T i).2 := by
  rw [plcT_eq]
  have := cntB_mono (f := fun o => surT T o i) (g := fun o => canT T o i) T.n fun o _ ho => sur_can hok ho
  show 1 + _ ≤ 1 + _
  omega
theorem surF_can {i : Nat} (h : surF T i = true) : canF T i = true := by
  have h1 := of_decide_eq_true h
  have h2 := plc_le hok i
  have h3 : (1 : Int) ≤ (plcT T i).1 := by rw [plcT_eq]; show (1 : Int) ≤ 1 + _; omega
  have h4 : (plcT T i).2 = 1 := h1
  exact decide_eq_true (show (plcT T i).1 = 1 by omega)
theorem canF_ex : ∃ i, i < T.n ∧ canF T i = true := by
  have vd := okT_vd hok
  have n1 := vd.n1
  obtain ⟨i, hf, hi⟩ := first_ex hok (left := List.range T.n) (by intro e; have := congrArg List.length e; simp at this; omega) fun o ho => List.mem_range.1 ho
  refine ⟨i, List.mem_range.1 hi, decide_eq_true ?_⟩
  show (plcT T i).1 = 1
  have := List.find?_some hf
  unfold isFirst at this
  simp only [Bool.and_eq_true] at this
  have hh : held T (List.range T.n) i = false := by simpa using this.2
  rw [plcT_eq, cntB_zero.2 fun o ho => ?_]
  · rfl
  · unfold held at hh
    have := List.any_eq_false.1 hh o (List.mem_range.2 ho)
    simpa using this
end
/-! ### Sets as numbers -/
theorem bits_pos {f : Nat → Bool} {n i : Nat} (hi : i < n) (h : f i = true) : 0 < setOf' f n := by
  rcases Nat.eq_zero_or_pos (setOf' f n) with h0 | h0
  · have := setOf_bit f n i
    rw [h0, h, decide_eq_true hi] at this
    simp at this
  · exact h0
theorem shr_zero : ∀ w : Nat, w < 256 → ∀ n : Nat, n ≤ 8 → w < 2 ^ n → shrv .i64 (w : Int) (n : Int) = 0 := by
  have h : ((List.range 256).all fun (l : Nat) => (List.range 9).all fun (m : Nat) => decide (2 ^ m ≤ l) || decide (shrv .i64 (l : Int) (m : Int) = 0)) = true := by decide +kernel
  intro w hl n hn hw
  have h1 := List.all_eq_true.1 h w (by simpa using hl)
  have h2 := List.all_eq_true.1 h1 n (by simp; omega)
  rw [decide_eq_false (by omega)] at h2
  simpa using h2
theorem bit_is : ∀ w : Nat, w < 256 → ∀ n : Nat, n < 8 → (andv .i64 (shrv .i64 (w : Int) (n : Int)) 1 == 1) = w.testBit n := by
  have h : ((List.range 256).all fun (l : Nat) => (List.range 8).all fun (m : Nat) => decide ((andv .i64 (shrv .i64 (l : Int) (m : Int)) 1 == 1) = l.testBit m)) = true := by decide +kernel
  intro w hl m hm
  have h1 := List.all_eq_true.1 h w (by simpa using hl)
  have h2 := List.all_eq_true.1 h1 m (by simpa using hm)
  exact of_decide_eq_true h2
theorem andn_zero : ∀ w : Nat, w < 64 → ∀ v : Nat, v < 64 → (∀ i, i < 6 → w.testBit i = true → v.testBit i = true) → andnv .i64 (w : Int) (v : Int) = 0 := by
  have h : ((List.range 64).all fun (l : Nat) => (List.range 64).all fun (m : Nat) => decide (andnv .i64 (l : Int) (m : Int) = 0) || (List.range 6).any fun i => l.testBit i && !m.testBit i) = true := by decide +kernel
  intro w hl v hv hb
  have h1 := List.all_eq_true.1 h w (by simpa using hl)
  have h2 := List.all_eq_true.1 h1 v (by simpa using hv)
  have h3 : ((List.range 6).any fun i => w.testBit i && !v.testBit i) = false := List.any_eq_false.2 fun i hi => by
    cases hw : w.testBit i with
    | false => simp
    | true => simp [hb i (List.mem_range.1 hi) hw]
  rw [h3] at h2
  simpa using h2
end Go.Proofs.Ytkgcbfbbcaajpaa.G

/- Rank: rules for the statements: a table is read; rows of numbers; what valid tables tell. -/
set_option linter.unusedSimpArgs false
set_option linter.unusedVariables false
set_option maxRecDepth 20000
namespace Go.Proofs.Ytkgcbfbbcaajpaa.G
open Go.V
theorem rdT {s : Hp} {za : Addr} {T : Tb} {K : Int → Int → Option Addr → Nat → Nat → Option Addr → Nat → Nat → Hp → Prop} (ta : TbA s za T) (h : ∀ x c y c', RowAt s x (ints T.off) → ScAt s y T.sc → K T.men T.sheets x T.off.length c y T.sc.length c' s) :
    RDI .i64 (Addr.add za 0) (fun n => RDI .i64 (Addr.add za 1) fun m => RDL (Addr.add za 2) fun x l c => RDL (Addr.add za 3) fun x' l' c' => K n m x l c x' l' c') s := by
  obtain ⟨h1, h2, ⟨x, c, h3, h4⟩, ⟨y, c', h5, h6⟩⟩ := ta
  exact ⟨_, h1, _, h2, _, _, _, h3, _, _, _, h5, h x c y c' h4 h6⟩
theorem TbA.kp {D : Nat → Prop} {s s' : Hp} {za : Addr} {T : Tb} (k : Kp D s s') (hz : ¬ D za.block) (hx : ∀ x c, cellAt s (za.add 2) = some (.slice x T.off.length c) → ∀ a, x = some a → ¬ D a.block) (hy : ∀ x c, cellAt s (za.add 3) = some (.slice x T.sc.length c) → ∀ a, x = some a → ¬ D a.block) (h : TbA s za T) : TbA s' za T where
  men := k.cell (by rw [add_blk]; exact hz) h.men
  sheets := k.cell (by rw [add_blk]; exact hz) h.sheets
  off := by obtain ⟨x, c, h1, h2⟩ := h.off; exact ⟨x, c, k.cell (by rw [add_blk]; exact hz) h1, h2.keep k (hx x c h1)⟩
  sc := by
    obtain ⟨x, c, h1, h2⟩ := h.sc
    refine ⟨x, c, k.cell (by rw [add_blk]; exact hz) h1, fun i hi => ?_⟩
    obtain ⟨a, ha, g0, g1, g2, g3⟩ := h2 i hi
    have hd := hy x c h1 a ha
    refine ⟨a, ha, k.cell ?_ g0, k.cell ?_ g1, k.cell ?_ g2, k.cell ?_ g3⟩ <;> (rw [add_blk, add_blk]; exact hd)
section
variable {W : World} {K : VK} {E : List PanicEntry → Hp → Prop} {s : Hp} {T : Tb} {x y : Option Addr} {c c' : Nat}
theorem men_n (hok : okT T = true) : ((T.n : Nat) : Int) = T.men := by obtain ⟨h, _⟩ := okT_iff.1 hok; unfold Tb.n; omega
theorem sheets_m (hok : okT T = true) : ((T.m : Nat) : Int) = T.sheets := by obtain ⟨_, h, _⟩ := okT_iff.1 hok; unfold Tb.m; omega
theorem isM_nat (hok : okT T = true) {i : Nat} (hi : i < T.n) : isM T (i : Int) := by have := men_n hok; unfold isM; omega
theorem befR_n (hok : okT T = true) {a b : Nat} (ha : a < T.n) (hb : b < T.n) : befR T a b = (befN T a b, 0) := by unfold befR; rw [if_pos hok, if_pos ⟨isM_nat hok ha, isM_nat hok hb⟩]; rfl
theorem plcR_n (hok : okT T = true) {a : Nat} (ha : a < T.n) : plcR T a = (plcT T a, 0) := by unfold plcR; rw [if_pos hok, if_pos (isM_nat hok ha)]; rfl
def sumT (T : Tb) (i : Nat) : Int × Int := ((lowR T i).getD 0 0, (topR T i).getD 0 0)
theorem sumR_n (hok : okT T = true) {a : Nat} (ha : a < T.n) : sumP T a = (sumT T a, 0) := by unfold sumP; rw [if_pos hok, if_pos (isM_nat hok ha)]; rfl
theorem eqR_n (hok : okT T = true) {a b : Nat} (ha : a < T.n) (hb : b < T.n) : eqR T a b = (eqP T a b, 0) := by unfold eqR; rw [if_pos hok, if_pos ⟨isM_nat hok ha, isM_nat hok hb⟩]; rfl
theorem c_BeforeN {a b : Nat} (hok : okT T = true) (ha : a < T.n) (hb : b < T.n) (hlo : T.off.length ≤ 100000) (hx : RowAt s x (ints T.off)) (hy : ScAt s y T.sc) (h : ∀ s', Ext s s' → K (.tuple #[.int .i64 (befN T a b), .int .i64 0]) s') :
    CALL Pg W F_rank_Before [.agg #[.int .i64 T.men, .int .i64 T.sheets, .slice x T.off.length c, .slice y T.sc.length c'], .int .i64 a, .int .i64 b] K E s :=
  c_Before hx hy hlo (by rw [befR_n hok ha hb]; exact h)
theorem c_PlaceN {a : Nat} (hok : okT T = true) (ha : a < T.n) (hlo : T.off.length ≤ 100000) (hx : RowAt s x (ints T.off)) (hy : ScAt s y T.sc) (h : ∀ s', Ext s s' → K (.tuple #[.agg #[.int .i64 (plcT T a).1, .int .i64 (plcT T a).2], .int .i64 0]) s') :
    CALL Pg W F_rank_Place [.agg #[.int .i64 T.men, .int .i64 T.sheets, .slice x T.off.length c, .slice y T.sc.length c'], .int .i64 a] K E s :=
  c_Place hx hy hlo (by rw [plcR_n hok ha]; exact h)
theorem c_SumN {a : Nat} (hok : okT T = true) (ha : a < T.n) (hlo : T.off.length ≤ 100000) (hx : RowAt s x (ints T.off)) (hy : ScAt s y T.sc) (h : ∀ s', Ext s s' → K (.tuple #[.agg #[.int .i64 (sumT T a).1, .int .i64 (sumT T a).2], .int .i64 0]) s') :
    CALL Pg W F_rank_Sum [.agg #[.int .i64 T.men, .int .i64 T.sheets, .slice x T.off.length c, .slice y T.sc.length c'], .int .i64 a] K E s :=
  c_Sum hx hy hlo (by rw [sumR_n hok ha]; exact h)
theorem c_EqualN {a b : Nat} (hok : okT T = true) (ha : a < T.n) (hb : b < T.n) (hlo : T.off.length ≤ 100000) (hx : RowAt s x (ints T.off)) (hy : ScAt s y T.sc) (h : ∀ s', Ext s s' → K (.tuple #[.bool (eqP T a b), .int .i64 0]) s') :
    CALL Pg W F_rank_Equal [.agg #[.int .i64 T.men, .int .i64 T.sheets, .slice x T.off.length c, .slice y T.sc.length c'], .int .i64 a, .int .i64 b] K E s :=
  c_Equal hx hy hlo (by rw [eqR_n hok ha hb]; exact h)
theorem c_WinnersN (hok : okT T = true) (hlo : T.off.length ≤ 100000) (hx : RowAt s x (ints T.off)) (hy : ScAt s y T.sc) (h : ∀ s', Ext s s' → K (.tuple #[.int .i64 (setOf' (surF T) T.n : Nat), .int .i64 (setOf' (canF T) T.n : Nat), .int .i64 0]) s') :
    CALL Pg W F_rank_Winners [.agg #[.int .i64 T.men, .int .i64 T.sheets, .slice x T.off.length c, .slice y T.sc.length c']] K E s :=
  c_Winners hx hy hlo (by have : winP T = (((setOf' (surF T) T.n : Nat) : Int), ((setOf' (canF T) T.n : Nat) : Int), 0) := by unfold winP; rw [if_pos hok]
                          rw [this]; exact h)
/-- The beginning of a statement: too much, or not valid. -/
theorem st_begin {s1 : Hp} {za : Addr} {X : Bool → Hp → Prop} (ta : TbA s1 za T) (hfar : ∀ s' b, Ext s1 s' → (b = false → T.off.length ≤ 100000) → X b s') :
    (RDI .i64 (Addr.add za 0) fun n => RDI .i64 (Addr.add za 1) fun m => RDL (Addr.add za 2) fun x l c => RDL (Addr.add za 3) fun x' l' c' => CALL Pg W F_law10_far [.agg #[.int .i64 n, .int .i64 m, .slice x l c, .slice x' l' c']] (fun v => TYB v fun b => X b) E) s1 := by
  refine rdT ta fun x c y c' hx hy => ?_
  refine c_far fun s2 b e2 hb => ?_
  try simp only [TUP_mk, AGG_mk, HD_mk, NL_mk, TYI_mk, TYB_mk, TYP_mk, TYL_mk, TYS_mk, TYM_mk, SO_mk, NX_mk, endK_mk, endK_mk', add_0]
  exact hfar s2 b e2 fun hh => by have := hb hh; omega
theorem n_lim (hok : okT T = true) : 1 ≤ T.n ∧ T.n ≤ 6 ∧ 1 ≤ T.m ∧ T.m ≤ 5 := by have vd := okT_vd hok; exact ⟨vd.n1, vd.n6, vd.m1, vd.m5⟩
end
/-! ### Rows of numbers -/
structure Rows (s : Hp) (lo b k : Nat) (rows : Nat → List Int) : Prop where
  row : ∀ i, i < k → ∃ x c, Own s ⟨b, i, none⟩ (.slice x (rows i).length c) ∧ RowAt s x (ints (rows i)) ∧ ∀ a, x = some a → b < a.block ∧ a.block < lo
theorem Rows.ext {s s' : Hp} {lo b k : Nat} {rows : Nat → List Int} (e : Ext s s') (h : Rows s lo b k rows) : Rows s' lo b k rows := ⟨fun i hi => by
  obtain ⟨x, c, h1, h2, h3⟩ := h.row i hi
  exact ⟨x, c, e.own h1, h2.ext e, h3⟩⟩
theorem Rows.kp {D : Nat → Prop} {s s' : Hp} {lo b k : Nat} {rows : Nat → List Int} (e : Kp D s s') (hD : ∀ q, D q → lo ≤ q) (hb : b < lo) (h : Rows s lo b k rows) : Rows s' lo b k rows := ⟨fun i hi => by
  obtain ⟨x, c, h1, h2, h3⟩ := h.row i hi
  exact ⟨x, c, e.own (fun hd => by have := hD _ hd; have : b = b := rfl; simp at *; omega) h1, h2.keep e (fun a ha hd => by have := hD _ hd; have := h3 a ha; omega), h3⟩⟩
theorem Rows.wr {s : Hp} {lo b k : Nat} {rows : Nat → List Int} {v : Value} (h : Rows s lo b k rows) : Rows (setC s ⟨b, k, none⟩ v) lo b k rows := ⟨fun i hi => by
  obtain ⟨x, c, h1, h2, h3⟩ := h.row i hi
  refine ⟨x, c, own_set_ne (.inr (by show i ≠ k; omega)) h1, h2.keep (D := (· = b)) (Kp.setC (Kp.refl s) (.inl rfl)) (fun a ha hd => by have := h3 a ha; omega), h3⟩⟩
theorem Rows.lo {s : Hp} {lo lo' b k : Nat} {rows : Nat → List Int} (hl : lo ≤ lo') (h : Rows s lo b k rows) : Rows s lo' b k rows := ⟨fun i hi => by
  obtain ⟨x, c, h1, h2, h3⟩ := h.row i hi
  exact ⟨x, c, h1, h2, fun a ha => ⟨(h3 a ha).1, Nat.lt_of_lt_of_le (h3 a ha).2 hl⟩⟩⟩
theorem Rows.add {s : Hp} {lo b k c : Nat} {rows : Nat → List Int} {x : Option Addr} (h : Rows s lo b k rows) (o : Own s ⟨b, k, none⟩ (.slice x (rows k).length c)) (hr : RowAt s x (ints (rows k))) (hx : ∀ a, x = some a → b < a.block ∧ a.block < lo) : Rows s lo b (k + 1) rows := ⟨fun i hi => by
  by_cases e : i = k
  · subst e; exact ⟨x, c, o, hr, hx⟩
  · exact h.row i (by omega)⟩
theorem Rows.congr {s : Hp} {lo b k : Nat} {rows rows' : Nat → List Int} (hr : ∀ i, i < k → rows i = rows' i) (h : Rows s lo b k rows) : Rows s lo b k rows' := ⟨fun i hi => by rw [← hr i hi]; exact h.row i hi⟩
theorem Rows.rd {s : Hp} {lo b k i j N : Nat} {rows : Nat → List Int} {KK : Int → Hp → Prop} (h : Rows s lo b k rows) (hi : i < k) (hk : k ≤ N) (hj : j < (rows i).length) (hK : KK ((rows i).getD j 0) s) :
    (IXS (some ⟨b, 0, none⟩) N (i : Int) 1 fun a => RDL a fun x l c => IXS x l (j : Int) 1 fun a' => RDI .i64 a' KK) s := by
  obtain ⟨x, c, h1, h2, h3⟩ := h.row i hi
  refine IXS_nat (by omega) ?_
  refine ⟨_, _, _, by rw [add_nil, Nat.zero_add, Nat.mul_one]; exact h1.cell, ?_⟩
  obtain ⟨a, ha, g⟩ := row_int h2 hj
  subst ha
  exact IXS_nat hj ⟨_, g, hK⟩
end Go.Proofs.Ytkgcbfbbcaajpaa.G

/- Rank, in plain Lean: tables with other scores. -/
set_option linter.unusedSimpArgs false
set_option linter.unusedVariables false
set_option maxRecDepth 20000
namespace Go.Proofs.Ytkgcbfbbcaajpaa.G
open Go.V
def Sc.key (x : Sc) : Int × Int := (x.man, x.sheet)
def scOk (T : Tb) (x : Sc) : Prop := (0 ≤ x.man ∧ x.man ≤ T.men - 1) ∧ (0 ≤ x.sheet ∧ x.sheet ≤ T.sheets - 1) ∧ 0 ≤ x.lo ∧ x.lo ≤ x.hi ∧ x.hi ≤ 40
theorem okS_iff {T : Tb} : ∀ (r : List Sc) (l : List Pr), okS T l r = true ↔ (∀ x ∈ r, scOk T x ∧ ∀ p ∈ l, p.1 ≠ x.key) ∧ (r.map Sc.key).Nodup
  | [], l => by simp [okS]
  | y :: r, l => by
    unfold okS
    rw [Bool.and_eq_true, okS_iff r _]
    unfold okSc
    simp only [Bool.and_eq_true, decide_eq_true_eq, Option.isNone_iff_eq_none]
    rw [findA_none]
    constructor
    · rintro ⟨⟨h1, h2, h3, h4⟩, h5, h6⟩
      refine ⟨fun x hx => ?_, ?_⟩
      · rcases List.mem_cons.1 hx with rfl | hx
        · exact ⟨⟨h1, h2, h4⟩, h3⟩
        · exact ⟨(h5 x hx).1, fun p hp => (h5 x hx).2 p (by simp [hp])⟩
      · rw [List.map_cons, List.nodup_cons]
        refine ⟨fun hm => ?_, h6⟩
        obtain ⟨x, hx, e⟩ := List.mem_map.1 hm
        exact (h5 x hx).2 y.pr (by simp) e.symm
    · rintro ⟨h1, h2⟩
      rw [List.map_cons, List.nodup_cons] at h2
      obtain ⟨⟨g1, g2, g4⟩, g3⟩ := h1 y (by simp)
      refine ⟨⟨g1, g2, g3, g4⟩, fun x hx => ⟨(h1 x (by simp [hx])).1, fun p hp => ?_⟩, h2.2⟩
      rcases List.mem_append.1 hp with hp | hp
      · exact (h1 x (by simp [hx])).2 p hp
      · have : p = y.pr := by simpa using hp
        subst this
        exact fun e => h2.1 (List.mem_map.2 ⟨x, hx, e.symm⟩)
theorem okT_iff2 {T : Tb} : okT T = true ↔ (1 ≤ T.men ∧ T.men ≤ 6) ∧ (1 ≤ T.sheets ∧ T.sheets ≤ 5) ∧ (T.off.length : Int) = T.men ∧ T.off.any badO = false ∧ T.sc.length ≤ 30 ∧ (∀ x ∈ T.sc, scOk T x) ∧ (T.sc.map Sc.key).Nodup := by
  rw [okT_iff, okS_iff]
  constructor
  · rintro ⟨h1, h2, h3, h4, h5, h6, h7⟩
    exact ⟨h1, h2, h3, h4, h5, fun x hx => (h6 x hx).1, h7⟩
  · rintro ⟨h1, h2, h3, h4, h5, h6, h7⟩
    exact ⟨h1, h2, h3, h4, h5, fun x hx => ⟨h6 x hx, fun p hp => by cases hp⟩, h7⟩
/-- No more than so many unlike numbers lie below a bound. -/
theorem nodup_len : ∀ (n : Nat) (l : List Nat), l.Nodup → (∀ x ∈ l, x < n) → l.length ≤ n
  | 0, l, _, h => by
    cases l with
    | nil => simp
    | cons x r => have := h x (by simp); omega
  | n + 1, l, hn, h => by
    have h1 := nodup_len n (l.erase n) (hn.erase n) fun x hx => by
      have h2 := h x (List.mem_of_mem_erase hx)
      have h3 : x ≠ n := fun e => by subst e; exact (List.Nodup.not_mem_erase hn) hx
      omega
    by_cases hm : n ∈ l
    · rw [List.length_erase_of_mem hm] at h1; omega
    · rw [List.erase_of_not_mem hm] at h1; omega
theorem sc_len {T : Tb} (hm : T.men ≤ 6) (hs : T.sheets ≤ 5) {l : List Sc} (h : ∀ x ∈ l, scOk T x) (hn : (l.map Sc.key).Nodup) : l.length ≤ 30 := by
  have e : l.length = ((l.map Sc.key).map fun k => (k.1 * 5 + k.2).toNat).length := by simp
  rw [e]
  refine nodup_len 30 _ ?_ ?_
  · rw [List.nodup_iff_pairwise_ne] at hn ⊢
    rw [List.pairwise_map]
    refine List.Pairwise.imp_of_mem ?_ hn
    intro a b ha hb hne he
    obtain ⟨x, hx, rfl⟩ := List.mem_map.1 ha
    obtain ⟨y, hy, rfl⟩ := List.mem_map.1 hb
    obtain ⟨h1, h2, _⟩ := h x hx
    obtain ⟨h3, h4, _⟩ := h y hy
    apply hne
    unfold Sc.key at he ⊢
    simp only at he
    have : x.man * 5 + x.sheet = y.man * 5 + y.sheet := by omega
    have e1 : x.man = y.man := by omega
    have e2 : x.sheet = y.sheet := by omega
    rw [e1, e2]
  · intro q hq
    obtain ⟨k, hk, rfl⟩ := List.mem_map.1 hq
    obtain ⟨x, hx, rfl⟩ := List.mem_map.1 hk
    obtain ⟨h1, h2, _⟩ := h x hx
    unfold Sc.key
    simp only
    omega
/-- What is known of a score that is told. -/
theorem pts_mem {l : List Sc} (hn : (l.map Sc.key).Nodup) {x : Sc} (hx : x ∈ l) : pts (l.map Sc.pr) x.key = (x.lo, x.hi) := by
  rw [pts_find]
  have : (l.map Sc.pr).find? (fun p => decide (p.1 = x.key)) = some x.pr := by
    induction l with
    | nil => cases hx
    | cons y r ih =>
      rw [List.map_cons, List.nodup_cons] at hn
      rw [List.map_cons, List.find?_cons]
      rcases List.mem_cons.1 hx with rfl | hx
      · rw [show decide (x.pr.1 = x.key) = true from decide_eq_true rfl]
      · have : decide (y.pr.1 = x.key) = false := decide_eq_false fun e => hn.1 (List.mem_map.2 ⟨x, hx, e.symm⟩)
        rw [this]; exact ih hn.2 hx
  rw [this]; rfl
theorem pts_not {l : List Sc} {k : Int × Int} (h : ∀ x ∈ l, x.key ≠ k) : pts (l.map Sc.pr) k = (0, 40) := by
  rw [pts_find]
  have : (l.map Sc.pr).find? (fun p => decide (p.1 = k)) = none := List.find?_eq_none.2 fun p hp => by
    obtain ⟨x, hx, rfl⟩ := List.mem_map.1 hp
    have := h x hx
    show ¬ decide (x.key = k) = true
    simpa using this
  rw [this]; rfl
/-! ### One more score read -/
def withL (l : List Sc) (a k n : Int) : List Sc := l.filter (fun c => decide (c.man ≠ a) || decide (c.sheet ≠ k)) ++ [⟨a, k, n, n⟩]
def withT (T : Tb) (a k n : Int) : Tb := ⟨T.men, T.sheets, T.off, withL T.sc a k n⟩
theorem withL_key {l : List Sc} {a k n : Int} {c : Sc} (h : c ∈ l.filter (fun c => decide (c.man ≠ a) || decide (c.sheet ≠ k))) : c ∈ l ∧ c.key ≠ (a, k) := by
  obtain ⟨h1, h2⟩ := List.mem_filter.1 h
  refine ⟨h1, fun e => ?_⟩
  unfold Sc.key at e
  injection e with e1 e2
  rw [e1, e2] at h2
  simp at h2
theorem withL_nodup {l : List Sc} {a k n : Int} (h : (l.map Sc.key).Nodup) : ((withL l a k n).map Sc.key).Nodup := by
  unfold withL
  rw [List.map_append, List.nodup_append]
  refine ⟨(List.filter_sublist.map _).nodup h, by simp, fun x hx y hy => ?_⟩
  obtain ⟨c, hc, rfl⟩ := List.mem_map.1 hx
  have : y = (a, k) := by simpa [Sc.key] using hy
  subst this
  exact (withL_key (n := n) hc).2
theorem withT_ok {T : Tb} (hok : okT T = true) {a k n : Int} (ha : isM T a) (hk : isS T k) (h0 : 0 ≤ n) (h1 : n ≤ 40) : okT (withT T a k n) = true := by
  obtain ⟨g1, g2, g3, g4, g5, g6, g7⟩ := okT_iff2.1 hok
  have hs : ∀ x ∈ withL T.sc a k n, scOk T x := fun x hx => by
    unfold withL at hx
    rcases List.mem_append.1 hx with hx | hx
    · exact g6 x (withL_key (n := n) hx).1
    · have : x = ⟨a, k, n, n⟩ := by simpa using hx
      subst this
      exact ⟨ha, hk, h0, Int.le_refl _, h1⟩
  refine okT_iff2.2 ⟨g1, g2, g3, g4, ?_, hs, withL_nodup g7⟩
  exact sc_len (T := T) g1.2 g2.2 hs (withL_nodup g7)
theorem withT_pts {T : Tb} (hok : okT T = true) {a k n : Int} (q : Int × Int) : pts (prs (withT T a k n)) q = if q = (a, k) then (n, n) else pts (prs T) q := by
  obtain ⟨g1, g2, g3, g4, g5, g6, g7⟩ := okT_iff2.1 hok
  show pts ((withL T.sc a k n).map Sc.pr) q = _
  have hn := withL_nodup (a := a) (k := k) (n := n) g7
  by_cases e : q = (a, k)
  · subst e
    rw [if_pos rfl]
    exact pts_mem hn (x := ⟨a, k, n, n⟩) (by unfold withL; simp)
  · rw [if_neg e]
    by_cases hx : ∃ x ∈ T.sc, x.key = q
    · obtain ⟨x, hx, rfl⟩ := hx
      unfold prs
      rw [pts_mem g7 hx]
      refine pts_mem hn ?_
      unfold withL
      refine List.mem_append.2 (.inl (List.mem_filter.2 ⟨hx, ?_⟩))
      unfold Sc.key at e
      by_cases h1 : x.man = a
      · have h2 : x.sheet ≠ k := fun h2 => e (by rw [h1, h2])
        simp [h2]
      · simp [h1]
    · have hno : ∀ x ∈ T.sc, x.key ≠ q := fun x hx' e' => hx ⟨x, hx', e'⟩
      unfold prs
      rw [pts_not hno]
      refine pts_not fun x hx' => ?_
      unfold withL at hx'
      rcases List.mem_append.1 hx' with h1 | h1
      · exact hno x (List.mem_filter.1 h1).1
      · have : x = ⟨a, k, n, n⟩ := by simpa using h1
        subst this
        exact fun e' => e e'.symm
/-! ### All scores read -/
def fillR (v : Nat → Nat → Int) (i m : Nat) : List Sc := (List.range m).map fun k => ⟨(i : Nat), (k : Nat), v i k, v i k⟩
def fillL (v : Nat → Nat → Int) (n m : Nat) : List Sc := (List.range n).flatMap fun i => fillR v i m
def fillT (T : Tb) (v : Nat → Nat → Int) : Tb := ⟨T.men, T.sheets, T.off, fillL v T.n T.m⟩
theorem fillL_succ (v : Nat → Nat → Int) (n m : Nat) : fillL v (n + 1) m = fillL v n m ++ fillR v n m := by unfold fillL; rw [List.range_succ, List.flatMap_append]; simp
theorem fillR_succ (v : Nat → Nat → Int) (i m : Nat) : fillR v i (m + 1) = fillR v i m ++ [⟨(i : Nat), (m : Nat), v i m, v i m⟩] := by unfold fillR; rw [List.range_succ, List.map_append]; rfl
theorem fillR_len (v : Nat → Nat → Int) (i m : Nat) : (fillR v i m).length = m := by unfold fillR; simp
theorem fillL_len (v : Nat → Nat → Int) (m : Nat) : ∀ n, (fillL v n m).length = n * m
  | 0 => by simp [fillL]
  | n + 1 => by rw [fillL_succ, List.length_append, fillL_len v m n, fillR_len, Nat.add_mul]; omega
theorem fillL_mem {v : Nat → Nat → Int} {n m : Nat} {x : Sc} : x ∈ fillL v n m ↔ ∃ i k, i < n ∧ k < m ∧ x = ⟨(i : Nat), (k : Nat), v i k, v i k⟩ := by
  unfold fillL fillR
  simp only [List.mem_flatMap, List.mem_map, List.mem_range]
  constructor
  · rintro ⟨i, hi, k, hk, rfl⟩; exact ⟨i, k, hi, hk, rfl⟩
  · rintro ⟨i, k, hi, hk, rfl⟩; exact ⟨i, hi, k, hk, rfl⟩
theorem fillR_nodup {v : Nat → Nat → Int} (i : Nat) : ∀ m, ((fillR v i m).map Sc.key).Nodup
  | 0 => by simp [fillR]
  | m + 1 => by
    rw [fillR_succ, List.map_append, List.nodup_append]
    refine ⟨fillR_nodup i m, by simp, fun x hx y hy => ?_⟩
    obtain ⟨c, hc, rfl⟩ := List.mem_map.1 hx
    obtain ⟨k, hk, rfl⟩ := List.mem_map.1 hc
    have hkm := List.mem_range.1 hk
    have : y = ((i : Int), (m : Int)) := by simpa [Sc.key] using hy
    subst this
    intro e
    unfold Sc.key at e
    injection e with e1 e2
    dsimp only at e1 e2
    omega
theorem fillL_nodup {v : Nat → Nat → Int} (m : Nat) : ∀ n, ((fillL v n m).map Sc.key).Nodup
  | 0 => by simp [fillL]
  | n + 1 => by
    rw [fillL_succ, List.map_append, List.nodup_append]
    refine ⟨fillL_nodup m n, fillR_nodup n m, fun x hx y hy => ?_⟩
    obtain ⟨c, hc, rfl⟩ := List.mem_map.1 hx
    obtain ⟨d, hd, rfl⟩ := List.mem_map.1 hy
    obtain ⟨i, k, hi, hk, rfl⟩ := fillL_mem.1 hc
    obtain ⟨k', hk', rfl⟩ := List.mem_map.1 hd
    intro e
    unfold Sc.key at e
    injection e with e1 e2
    dsimp only at e1 e2
    omega
theorem fillT_ok {T : Tb} (hok : okT T = true) {v : Nat → Nat → Int} (hv : ∀ i k, i < T.n → k < T.m → 0 ≤ v i k ∧ v i k ≤ 40) : okT (fillT T v) = true := by
  obtain ⟨g1, g2, g3, g4, g5, g6, g7⟩ := okT_iff2.1 hok
  have hn := men_n hok
  have hm := sheets_m hok
  have hs : ∀ x ∈ fillL v T.n T.m, scOk T x := fun x hx => by
    obtain ⟨i, k, hi, hk, rfl⟩ := fillL_mem.1 hx
    have := hv i k hi hk
    unfold scOk
    simp only
    omega
  exact okT_iff2.2 ⟨g1, g2, g3, g4, sc_len (T := T) g1.2 g2.2 hs (fillL_nodup _ _), hs, fillL_nodup _ _⟩
theorem fillT_pts {T : Tb} {v : Nat → Nat → Int} {i k : Nat} (hi : i < T.n) (hk : k < T.m) : pts (prs (fillT T v)) ((i : Int), (k : Int)) = (v i k, v i k) :=
  pts_mem (l := fillL v T.n T.m) (fillL_nodup _ _) (x := ⟨(i : Nat), (k : Nat), v i k, v i k⟩) (fillL_mem.2 ⟨i, k, hi, hk, rfl⟩)
/-! ### Rows -/
def rowG (f : Nat → Int) (m : Nat) (o : Int) : List Int := (((List.range m).map f).sum - o) :: (List.range m).map f
theorem lowR_eq (T : Tb) (i : Nat) : lowR T i = rowG (fun k => (pts (prs T) ((i : Int), (k : Int))).1) T.m (offT T i) := rfl
theorem topR_eq (T : Tb) (i : Nat) : topR T i = rowG (fun k => (pts (prs T) ((i : Int), (k : Int))).2) T.m (offT T i) := rfl
theorem rowG_congr {f g : Nat → Int} {m : Nat} {o : Int} (h : ∀ k, k < m → f k = g k) : rowG f m o = rowG g m o := by
  have : (List.range m).map f = (List.range m).map g := List.map_congr_left fun k hk => h k (List.mem_range.1 hk)
  unfold rowG; rw [this]
theorem rowG_len (f : Nat → Int) (m : Nat) (o : Int) : (rowG f m o).length = m + 1 := by unfold rowG; simp
theorem rowG_le {f g : Nat → Int} {m : Nat} {o p : Int} (h : ∀ k, k < m → f k ≤ g k) (ho : p ≤ o) : aheadL (rowG f m o) (rowG g m p) = false := by
  have hp : ∀ j, ((List.range m).map f).getD j 0 ≤ ((List.range m).map g).getD j 0 := fun j => by
    by_cases hj : j < m
    · simp [List.getD, hj, h j hj]
    · simp [List.getD, hj]
  have hs := sum_le _ _ (by simp) hp
  refine ahead_le _ _ fun j => ?_
  cases j with
  | zero => show ((List.range m).map f).sum - o ≤ ((List.range m).map g).sum - p; omega
  | succ j => exact hp j
theorem rowG_inj {f g : Nat → Int} {m : Nat} {o p : Int} (h : rowG f m o = rowG g m p) : o = p ∧ ∀ k, k < m → f k = g k := by
  unfold rowG at h
  injection h with h1 h2
  rw [h2] at h1
  refine ⟨by omega, fun k hk => ?_⟩
  have := congrArg (fun l => l.getD k 0) h2
  simpa [List.getD, hk] using this
end Go.Proofs.Ytkgcbfbbcaajpaa.G

/- Rank: a table that is put together. -/
set_option linter.unusedSimpArgs false
set_option linter.unusedVariables false
set_option maxRecDepth 20000
namespace Go.Proofs.Ytkgcbfbbcaajpaa.G
open Go.V
theorem scs_len (l : List Sc) : (scs l).length = l.length * 4 := by
  unfold scs
  induction l with
  | nil => rfl
  | cons x r ih => rw [List.flatMap_cons, List.length_append, ih]; simp; omega
theorem scs_app (a b : List Sc) : scs (a ++ b) = scs a ++ scs b := by unfold scs; rw [List.flatMap_append]
theorem scs_one (l : List Sc) : ∀ v ∈ scs l, oneCell v = true := by
  intro v hv
  unfold scs at hv
  obtain ⟨x, _, hx⟩ := List.mem_flatMap.1 hv
  simp at hx
  rcases hx with rfl | rfl | rfl | rfl <;> rfl
theorem scAt_row {s : Hp} {y : Option Addr} {l : List Sc} (h : RowAt s y (scs l)) : ScAt s y l := fun i hi => by
  have hl := scs_len l
  obtain ⟨g0, g1, g2, g3⟩ := scs_get l i hi
  have key : ∀ j v, j < 4 → (scs l)[i * 4 + j]? = some v → ∃ a, y = some a ∧ cellAt s ((a.add (i * 4)).add j) = some v := fun j v hj hv => by
    obtain ⟨a, ha, g⟩ := h (i * 4 + j) (by omega)
    rw [List.getElem?_eq_getElem (by omega)] at hv
    injection hv with hv
    rw [hv] at g
    refine ⟨a, ha, ?_⟩
    rw [addr_add, ← g, Nat.mul_one]
  obtain ⟨a, ha, k0⟩ := key 0 _ (by omega) g0
  obtain ⟨a1, ha1, k1⟩ := key 1 _ (by omega) g1
  obtain ⟨a2, ha2, k2⟩ := key 2 _ (by omega) g2
  obtain ⟨a3, ha3, k3⟩ := key 3 _ (by omega) g3
  rw [ha] at ha1 ha2 ha3
  cases ha1; cases ha2; cases ha3
  exact ⟨a, ha, k0, k1, k2, k3⟩
/-- What a row holds is kept. -/
def RowK (kp : List (Addr × Value)) (x : Option Addr) (vs : List Value) : Prop := ∀ i, (h : i < vs.length) → ∃ a, x = some a ∧ (a.add (i * 1), vs[i]) ∈ kp
/-- A table that is put together in the block 'B', behind the heap 's0'; 'kp' is kept; the blocks of 'D' are others'. -/
structure TbB (s0 s : Hp) (B : Nat) (T : Tb) (sc : List Sc) (kp : List (Addr × Value)) (D : Nat → Prop) (xo : Option Addr × Nat) : Prop where
  ext : Ext s0 s
  blk : s0.size ≤ B
  men : Own s ⟨B, 0, none⟩ (.int .i64 T.men)
  sheets : Own s ⟨B, 1, none⟩ (.int .i64 T.sheets)
  off : Own s ⟨B, 2, none⟩ (.slice xo.1 T.off.length xo.2) ∧ (RowAt s0 xo.1 (ints T.off) ∨ RowK kp xo.1 (ints T.off))
  sc : ∃ y c, Own s ⟨B, 3, none⟩ (.slice y sc.length c) ∧ Fr s0.size s y sc.length c 4 (scs sc) ∧ (∀ a, y = some a → a.block ≠ B ∧ a.block < s.size) ∧ (∀ p ∈ kp, Own s p.1 p.2 ∧ p.1.block ≠ B ∧ ∀ a, y = some a → p.1.block ≠ a.block) ∧ ∀ q, D q → q ≠ B ∧ (∀ a, y = some a → q ≠ a.block) ∧ q < s.size ∧ s0.size ≤ q ∧ ∀ p ∈ kp, p.1.block ≠ q
theorem TbA.all {s : Hp} {za : Addr} {T : Tb} (h : TbA s za T) : ∃ x c y c', cellAt s (za.add 0) = some (.int .i64 T.men) ∧ cellAt s (za.add 1) = some (.int .i64 T.sheets) ∧ cellAt s (za.add 2) = some (.slice x T.off.length c) ∧ cellAt s (za.add 3) = some (.slice y T.sc.length c') ∧ RowAt s x (ints T.off) ∧ ScAt s y T.sc := by
  obtain ⟨h1, h2, ⟨x, c, h3, h4⟩, ⟨y, c', h5, h6⟩⟩ := h
  exact ⟨x, c, y, c', h1, h2, h3, h5, h4, h6⟩
/-- A result that is not yet written. -/
def z4 (C : Nat) : List (Addr × Value) := [(⟨C, 0, none⟩, .int .i64 0), (⟨C, 1, none⟩, .int .i64 0), (⟨C, 2, none⟩, .slice none 0 0), (⟨C, 3, none⟩, .slice none 0 0)]
theorem z4_own {s : Hp} {C : Nat} (h0 : Own s ⟨C, 0, none⟩ (.int .i64 0)) (h1 : Own s ⟨C, 1, none⟩ (.int .i64 0)) (h2 : Own s ⟨C, 2, none⟩ (.slice none 0 0)) (h3 : Own s ⟨C, 3, none⟩ (.slice none 0 0)) : ∀ p ∈ z4 C, Own s p.1 p.2 := by
  intro p hp
  unfold z4 at hp
  simp only [List.mem_cons, List.not_mem_nil, or_false] at hp
  rcases hp with rfl | rfl | rfl | rfl
  · exact h0
  · exact h1
  · exact h2
  · exact h3
def noD : Nat → Prop := fun _ => False
section
variable {s0 s s' : Hp} {B : Nat} {T : Tb} {sc : List Sc} {kp : List (Addr × Value)} {D D' : Nat → Prop} {xo : Option Addr × Nat}
theorem TbB.keep (h : TbB s0 s B T sc kp D xo) {p : Addr × Value} (hp : p ∈ kp) : Own s p.1 p.2 ∧ p.1.block ≠ B := by
  obtain ⟨y, c, _, _, _, h4, _⟩ := h.sc
  exact ⟨(h4 p hp).1, (h4 p hp).2.1⟩
/-- Others have gone on. -/
theorem TbB.step (k : Kp D s s') (hD : ∀ q, D' q → q < s'.size ∧ (D q ∨ s.size ≤ q)) (h : TbB s0 s B T sc kp D xo) : TbB s0 s' B T sc kp D' xo := by
  obtain ⟨y, c, h1, h2, h3, h4, h5⟩ := h.sc
  have nB : ¬ D B := fun hd => (h5 B hd).1 rfl
  have e : Ext s0 s' := ⟨Nat.le_trans h.ext.1 k.1, fun q hq => by rw [k.2 q (Nat.lt_of_lt_of_le hq h.ext.1) (fun hd => by have := (h5 q hd).2.2.2.1; omega)]; exact h.ext.2 q hq⟩
  refine ⟨e, h.blk, k.own nB h.men, k.own nB h.sheets, ?_, ⟨y, c, k.own nB h1, h2.kp k (fun a ha hd => (h5 _ hd).2.1 a ha rfl), fun a ha => ⟨(h3 a ha).1, Nat.lt_of_lt_of_le (h3 a ha).2 k.1⟩, fun p hp => ?_, fun q hq => ?_⟩⟩
  · exact ⟨k.own nB h.off.1, h.off.2⟩
  · obtain ⟨p1, p2, p3⟩ := h4 p hp
    exact ⟨k.own (fun hd => (h5 _ hd).2.2.2.2 p hp rfl) p1, p2, p3⟩
  · obtain ⟨q1, q2⟩ := hD q hq
    rcases q2 with q2 | q2
    · obtain ⟨a1, a2, a3, a4, a5⟩ := h5 q q2
      exact ⟨a1, a2, q1, a4, a5⟩
    · refine ⟨?_, fun a ha => ?_, q1, Nat.le_trans h.ext.1 q2, fun p hp => ?_⟩
      · have : B < s.size := h1.lt
        omega
      · have := (h3 a ha).2; omega
      · have := (h4 p hp).1.lt; omega
theorem TbB.after (e : Ext s s') (h : TbB s0 s B T sc kp D xo) : TbB s0 s' B T sc kp D xo := h.step e.kp fun q hq => by
  obtain ⟨y, c, _, _, _, _, h5⟩ := h.sc
  exact ⟨Nat.lt_of_lt_of_le (h5 q hq).2.2.1 e.1, .inl hq⟩
theorem TbB.row (h : TbB s0 s B T sc kp D xo) : RowAt s xo.1 (ints T.off) := by
  rcases h.off.2 with h1 | h1
  · exact h1.ext h.ext
  · intro i hi
    obtain ⟨a, ha, hm⟩ := h1 i hi
    exact ⟨a, ha, (h.keep hm).1.cell⟩
/-- It is there as a table. -/
theorem TbB.tbA (h : TbB s0 s B T sc kp D xo) : TbA s ⟨B, 0, none⟩ ⟨T.men, T.sheets, T.off, sc⟩ where
  men := h.men.cell
  sheets := h.sheets.cell
  off := ⟨xo.1, xo.2, h.off.1.cell, h.row⟩
  sc := by obtain ⟨y, c, h1, h2, _⟩ := h.sc; exact ⟨y, c, h1.cell, scAt_row h2.row⟩
theorem tbB_new {x y : Option Addr} {c c' l' : Nat} {K : Nat → Hp → Prop} (e : Ext s0 s) (hx : RowAt s0 x (ints T.off)) (hk : ∀ p ∈ kp, Own s p.1 p.2) (h : ∀ s' B, Ext s s' → TbB s0 s' B T [] kp noD (x, c) → K B s') :
    NEWZ Pg 25 (fun B => WR (Addr.add ⟨B, 0, none⟩ 0) (.int .i64 T.men) (WR (Addr.add ⟨B, 0, none⟩ 1) (.int .i64 T.sheets) (WR (Addr.add ⟨B, 0, none⟩ 2) (.slice x T.off.length c) (WR (Addr.add ⟨B, 0, none⟩ 3) (.slice y l' c') (WR (Addr.add (Addr.add ⟨B, 0, none⟩ 3) 0) (.slice none 0 0) (K B)))))) s := by
  refine nw4 zc_25 rfl rfl rfl rfl fun s1 e1 z1 o0 o1 o2 o3 => ?_
  refine WR_own (a := ⟨s.size, 3, none⟩) o3 rfl ?_
  have e2 : Ext s (setC s1 ⟨s.size, 3, none⟩ (.slice none 0 0)) := e1.setC (Nat.le_refl _)
  refine h _ s.size e2 ⟨e.trans e2, e.1, own_set_ne (.inr (by show (0 : Nat) ≠ 3; decide)) o0, own_set_ne (.inr (by show (1 : Nat) ≠ 3; decide)) o1, ⟨own_set_ne (.inr (by show (2 : Nat) ≠ 3; decide)) o2, .inl hx⟩, ⟨none, 0, own_set o3, Fr.nil _ _ _, (fun a ha => by cases ha), (fun p hp => ⟨e2.own (hk p hp), ?_, (fun a ha => by cases ha)⟩), fun q hq => hq.elim⟩⟩
  have := (hk p hp).lt; omega
theorem TbB.app {C l c : Nat} {x : Option Addr} {q : Sc} {K : Hp → Prop} (h : TbB s0 s B T sc kp D xo) (hc : cellAt s ⟨B, 3, none⟩ = some (.slice x l c))
    (d0 : cellAt s ⟨C, 0, none⟩ = some (.int .i64 q.man)) (d1 : cellAt s ⟨C, 1, none⟩ = some (.int .i64 q.sheet)) (d2 : cellAt s ⟨C, 2, none⟩ = some (.int .i64 q.lo)) (d3 : cellAt s ⟨C, 3, none⟩ = some (.int .i64 q.hi)) (hl : sc.length ≤ 1000)
    (hK : ∀ s', Kp (fun q => ¬ D q ∧ s0.size ≤ q) s s' → TbB s0 s' B T (sc ++ [q]) kp D xo → K s') :
    APP Pg 55 4 x l c (some ⟨C, 0, none⟩) 1 (fun x' l' c' => WR (Addr.add (Addr.add ⟨B, 0, none⟩ 3) 0) (.slice x' l' c') K) s := by
  obtain ⟨y, cy, h1, h2, h3, h4, h5⟩ := h.sc
  have hh := h1.cell
  rw [hc] at hh
  injection hh with hh
  injection hh with e1 e2 e3
  subst e1; subst e2; subst e3
  have hs := h.ext.1
  refine APP_fr (ws := scs [q]) h2 hs ?_ (by rw [scs_len]; rfl) zc_55 rfl (by omega) (scs_one _) (by omega) fun s' x' c' k g f => ?_
  · intro i hi
    rw [scs_len] at hi
    have hi4 : i < 4 := by simpa using hi
    refine ⟨_, rfl, ?_⟩
    rw [Nat.mul_one]
    match i, hi4 with
    | 0, _ => exact d0
    | 1, _ => exact d1
    | 2, _ => exact d2
    | 3, _ => exact d3
  · have hnB : ∀ q, (∃ a, x = some a ∧ a.block = q) → q ≠ B := fun q ⟨a, ha, hq⟩ => by rw [← hq]; exact (h3 a ha).1
    have o0 := k.own (fun hd => hnB _ hd rfl) h.men
    have o1 := k.own (fun hd => hnB _ hd rfl) h.sheets
    have o3 := k.own (fun hd => hnB _ hd rfl) h1
    have hBl := h1.lt
    have hpos : 0 < (scs (sc ++ [q])).length := by rw [scs_len, List.length_append, List.length_singleton]; omega
    have hx' : ∀ a, x' = some a → a.block ≠ B ∧ a.block < s'.size := fun a ha => by
      refine ⟨?_, ?_⟩
      · rcases g a ha with ⟨a', h5, h6⟩ | h5
        · rw [← h6]; exact (h3 a' h5).1
        · have : B < s.size := hBl
          omega
      · subst ha
        rw [← scs_app] at f
        exact (f.buf.at hpos).lt
    have hxs : ∀ q, (∃ a, x = some a ∧ a.block = q) → s0.size ≤ q := fun q ⟨a, ha, hq⟩ => by rw [← hq]; exact h2.fr a ha
    have e0 : Ext s0 s' := ⟨Nat.le_trans hs k.1, fun q hq => by
      rw [k.2 q (Nat.lt_of_lt_of_le hq hs) (fun hh => by have := hxs _ hh; omega)]; exact h.ext.2 q hq⟩
    have kk : Kp (fun q => ¬ D q ∧ s0.size ≤ q) s s' := k.mono fun q ⟨a, ha, hq⟩ => ⟨fun hd => (h5 q hd).2.1 a ha hq.symm, by rw [← hq]; exact h2.fr a ha⟩
    refine WR_own (a := ⟨B, 3, none⟩) o3 rfl (hK _ (Kp.setC kk (.inl ⟨fun hd => (h5 B hd).1 rfl, h.blk⟩)) ⟨e0.setC h.blk, h.blk, own_set_ne (.inr (by show (0 : Nat) ≠ 3; decide)) o0, own_set_ne (.inr (by show (1 : Nat) ≠ 3; decide)) o1, ?_, ⟨x', c', ?_, ?_, fun a ha => ?_, fun p hp => ?_, fun q hq => ?_⟩⟩)
    · exact ⟨own_set_ne (.inr (by show (2 : Nat) ≠ 3; decide)) (k.own (fun hd => hnB _ hd rfl) h.off.1), h.off.2⟩
    · rw [List.length_append]; exact own_set o3
    · rw [scs_app, List.length_append]
      exact f.kp (D := (· = B)) (Kp.setC (Kp.refl _) (.inl rfl)) (fun a ha => (hx' a ha).1)
    · exact ⟨(hx' a ha).1, by rw [setC_size]; exact (hx' a ha).2⟩
    · obtain ⟨p1, p2, p3⟩ := h4 p hp
      refine ⟨own_set_ne (.inl p2) (k.own (fun ⟨a, ha, hq⟩ => p3 a ha hq.symm) p1), p2, fun a ha => ?_⟩
      rcases g a ha with ⟨a', h5, h6⟩ | h5
      · rw [← h6]; exact p3 a' h5
      · have := p1.lt; omega
    · obtain ⟨a1, a2, a3, a4, a5⟩ := h5 q hq
      refine ⟨a1, fun a ha => ?_, by rw [setC_size]; exact Nat.lt_of_lt_of_le a3 k.1, a4, a5⟩
      rcases g a ha with ⟨a', h5, h6⟩ | h5
      · rw [← h6]; exact a2 a' h5
      · omega
/-- It is returned by way of the variable 'C'. -/
theorem TbB.ret {C : Nat} {R : Ending → Hp → Prop} (h : TbB s0 s B T sc kp D xo) (hC : s0.size ≤ C) (hk : kp = z4 C)
    (hR : ∀ s' y c', Ext s0 s' → ScAt s' y sc → (∀ a, y = some a → s0.size ≤ a.block ∧ a.block < s'.size) → R (.returned (.agg #[.int .i64 T.men, .int .i64 T.sheets, .slice xo.1 T.off.length xo.2, .slice y sc.length c'])) s') :
    (RDI .i64 (Addr.add ⟨B, 0, none⟩ 0) fun n17 => RDI .i64 (Addr.add ⟨B, 0, none⟩ 1) fun n18 => RDL (Addr.add ⟨B, 0, none⟩ 2) fun x19 l20 c21 => RDL (Addr.add ⟨B, 0, none⟩ 3) fun x22 l23 c24 =>
      WR (Addr.add ⟨C, 0, none⟩ 0) (.int .i64 n17) <| WR (Addr.add ⟨C, 0, none⟩ 1) (.int .i64 n18) <| WR (Addr.add ⟨C, 0, none⟩ 2) (.slice x19 l20 c21) <| WR (Addr.add ⟨C, 0, none⟩ 3) (.slice x22 l23 c24) <|
      RDI .i64 (Addr.add ⟨C, 0, none⟩ 0) fun n25 => RDI .i64 (Addr.add ⟨C, 0, none⟩ 1) fun n26 => RDL (Addr.add ⟨C, 0, none⟩ 2) fun x27 l28 c29 => RDL (Addr.add ⟨C, 0, none⟩ 3) fun x30 l31 c32 =>
      R (.returned (.agg #[(.int .i64 n25), (.int .i64 n26), (.slice x27 l28 c29), (.slice x30 l31 c32)]))) s := by
  obtain ⟨y, cy, h1, h2, h3, h4, _⟩ := h.sc
  obtain ⟨g1, g2⟩ := h.off
  subst hk
  have k0 := h4 (⟨C, 0, none⟩, .int .i64 0) (by simp [z4])
  have k1 := h4 (⟨C, 1, none⟩, .int .i64 0) (by simp [z4])
  have k2 := h4 (⟨C, 2, none⟩, .slice none 0 0) (by simp [z4])
  have k3 := h4 (⟨C, 3, none⟩, .slice none 0 0) (by simp [z4])
  refine ⟨_, h.men.cell, _, h.sheets.cell, _, _, _, g1.cell, _, _, _, h1.cell, ?_⟩
  refine wr4 rfl rfl rfl rfl (a := ⟨C, 0, none⟩) (fun j hj => ?_) fun s' k z o0 o1 o2 o3 => ?_
  · match j, hj with
    | 0, _ => exact ⟨_, k0.1⟩
    | 1, _ => exact ⟨_, k1.1⟩
    | 2, _ => exact ⟨_, k2.1⟩
    | 3, _ => exact ⟨_, k3.1⟩
  · refine ⟨_, o0.cell, _, o1.cell, _, _, _, o2.cell, _, _, _, o3.cell, ?_⟩
    have e := ext_kp h.ext hC k
    exact hR s' y cy e (scAt_row (h2.row.keep k fun a ha hd => k0.2.2 a ha hd.symm)) fun a ha => ⟨h2.fr a ha, Nat.lt_of_lt_of_le (h3 a ha).2 k.1⟩
/-- It is itself what is returned. -/
theorem TbB.ret_same {KK : Int → Int → Option Addr → Nat → Nat → Option Addr → Nat → Nat → Hp → Prop} (h : TbB s0 s B T sc kp D xo)
    (hR : ∀ s' y c', Kp (· = B) s s' → Ext s0 s' → ScAt s' y sc → KK T.men T.sheets xo.1 T.off.length xo.2 y sc.length c' s') :
    (RDI .i64 (Addr.add ⟨B, 0, none⟩ 0) fun n17 => RDI .i64 (Addr.add ⟨B, 0, none⟩ 1) fun n18 => RDL (Addr.add ⟨B, 0, none⟩ 2) fun x19 l20 c21 => RDL (Addr.add ⟨B, 0, none⟩ 3) fun x22 l23 c24 =>
      WR (Addr.add ⟨B, 0, none⟩ 0) (.int .i64 n17) <| WR (Addr.add ⟨B, 0, none⟩ 1) (.int .i64 n18) <| WR (Addr.add ⟨B, 0, none⟩ 2) (.slice x19 l20 c21) <| WR (Addr.add ⟨B, 0, none⟩ 3) (.slice x22 l23 c24) <|
      RDI .i64 (Addr.add ⟨B, 0, none⟩ 0) fun n25 => RDI .i64 (Addr.add ⟨B, 0, none⟩ 1) fun n26 => RDL (Addr.add ⟨B, 0, none⟩ 2) fun x27 l28 c29 => RDL (Addr.add ⟨B, 0, none⟩ 3) fun x30 l31 c32 =>
      KK n25 n26 x27 l28 c29 x30 l31 c32) s := by
  obtain ⟨y, cy, h1, h2, h3, h4, _⟩ := h.sc
  obtain ⟨g1, g2⟩ := h.off
  refine ⟨_, h.men.cell, _, h.sheets.cell, _, _, _, g1.cell, _, _, _, h1.cell, ?_⟩
  refine wr4 rfl rfl rfl rfl (a := ⟨B, 0, none⟩) (fun j hj => ?_) fun s' k z o0 o1 o2 o3 => ?_
  · match j, hj with
    | 0, _ => exact ⟨_, h.men⟩
    | 1, _ => exact ⟨_, h.sheets⟩
    | 2, _ => exact ⟨_, g1⟩
    | 3, _ => exact ⟨_, h1⟩
  · refine ⟨_, o0.cell, _, o1.cell, _, _, _, o2.cell, _, _, _, o3.cell, ?_⟩
    have e := ext_kp h.ext h.blk k
    exact hR s' y cy k e (scAt_row (h2.row.keep k fun a ha => (h3 a ha).1))
end
end Go.Proofs.Ytkgcbfbbcaajpaa.G

/- Rank: a table with one more score read. -/
set_option linter.unusedSimpArgs false
set_option linter.unusedVariables false
set_option maxRecDepth 20000
namespace Go.Proofs.Ytkgcbfbbcaajpaa.G
open Go.V
def isNot (a k : Int) (c : Sc) : Bool := decide (c.man ≠ a) || decide (c.sheet ≠ k)
section
variable {W : World} {K : VK} {E : List PanicEntry → Hp → Prop} {s : Hp} {T : Tb}
theorem f_With {x y : Option Addr} {c c' : Nat} {a k n : Int} (hl30 : T.sc.length ≤ 900) (hx : RowAt s x (ints T.off)) (hy : ScAt s y T.sc)
    (h : ∀ s' y c', Ext s s' → ScAt s' y (withT T a k n).sc → (∀ a, y = some a → s.size ≤ a.block ∧ a.block < s'.size) → K (.agg #[.int .i64 T.men, .int .i64 T.sheets, .slice x T.off.length c, .slice y (withT T a k n).sc.length c']) s') :
    CALL Pg W F_ref10_With [.agg #[.int .i64 T.men, .int .i64 T.sheets, .slice x T.off.length c, .slice y T.sc.length c'], .int .i64 a, .int .i64 k, .int .i64 n] K E s := by
  refine does_ref10_With W T.men T.sheets x T.off.length c y T.sc.length c' a k n _ s ?_
  unfold T_ref10_With
  refine NEW_rule fun s1 e1 z1 n1 _ => ?_
  have ta := tbA_new e1 hx hy n1
  refine nz4 zc_25 fun s2 e2 z2 r0 r1 r2 r3 => ?_
  have g1 := (n1 0 _ rfl).cell
  have g2 := (n1 1 _ rfl).cell
  have g3 := (n1 2 _ rfl).cell
  have g4 := (n1 3 _ rfl).cell
  have hx1 := hx.ext e1
  have hy1 := hy.ext e1
  refine ⟨_, e2.cell g1, _, e2.cell g2, _, _, _, e2.cell g3, _, _, _, e2.cell g4, ?_⟩
  refine tbB_new (s0 := s1) (kp := z4 s1.size) e2 hx1 (z4_own r0 r1 r2 r3) fun s3 B e3 tb => ?_
  refine L_ref10_With_0_rule W _ a k n ⟨s.size, 0, none⟩ ⟨s1.size, 0, none⟩ ⟨B, 0, none⟩ (fun q u => ∃ i : Nat, i ≤ T.sc.length ∧ q = i ∧ TbB s1 u B T ((T.sc.take i).filter (isNot a k)) (z4 s1.size) noD (x, c)) (fun q _ => (T.sc.length - q).toNat) 0 s3 ⟨0, by omega, rfl, tb⟩ ?_
  rintro q u ⟨i, hi, rfl, tbu⟩
  have g4u := tbu.ext.cell g4
  have hyu := hy1.ext tbu.ext
  have hfl : ((T.sc.take i).filter (isNot a k)).length ≤ 900 := Nat.le_trans (List.length_filter_le _ _) (by rw [List.length_take]; omega)
  unfold B_ref10_With_0
  refine ⟨_, _, _, g4u, ?_⟩
  refine BR_dec (fun h1 => ?_) (fun h1 => ?_)
  · have hil : i < T.sc.length := by omega
    obtain ⟨ad, had, d0, d1, d2, d3⟩ := hyu i hil
    subst had
    have htake : (T.sc.take (i + 1)).filter (isNot a k) = (T.sc.take i).filter (isNot a k) ++ if isNot a k T.sc[i] then [T.sc[i]] else [] := by
      rw [List.take_add_one, List.getElem?_eq_getElem hil, List.filter_append]
      congr 1
      show List.filter (isNot a k) [T.sc[i]] = _
      cases hh : isNot a k T.sc[i] <;> simp [hh]
    have j1 : ∀ b, b = isNot a k T.sc[i] → J_ref10_With_1 W (endK K E) b ⟨B, 0, none⟩ ⟨s.size, 0, none⟩ i a k n ⟨s1.size, 0, none⟩ (fun vs => N_ref10_With_0 (fun q u => ∃ i : Nat, i ≤ T.sc.length ∧ q = i ∧ TbB s1 u B T ((T.sc.take i).filter (isNot a k)) (z4 s1.size) noD (x, c)) (fun q _ => (T.sc.length - q).toNat) i u vs) u := by
      rintro b rfl
      unfold J_ref10_With_1
      refine BR_bool (fun hb => ?_) (fun hb => ?_)
      · obtain ⟨yy, cy, q1, _⟩ := tbu.sc
        refine ⟨_, _, _, q1.cell, _, _, _, g4u, IXS_nat hil ⟨_, d0, _, d1, _, d2, _, d3, ?_⟩⟩
        refine ne4 fun v f z p0 p1 p2 p3 => ?_
        have q2 := f.cell q1.cell
        refine ⟨⟨_, _, _, q2, rfl⟩, ?_⟩
        refine (tbu.after f).app (q := T.sc[i]) q2 p0.cell p1.cell p2.cell p3.cell (by omega) fun v2 _ tb2 => ?_
        unfold J_ref10_With_0
        refine ⟨rfl, _, rfl, ⟨i + 1, by omega, wrap_succ (by omega), ?_⟩, ms_succ hil (by omega)⟩
        rw [htake, hb]; exact tb2
      · unfold J_ref10_With_0
        refine ⟨rfl, _, rfl, ⟨i + 1, by omega, wrap_succ (by omega), ?_⟩, ms_succ hil (by omega)⟩
        rw [htake, hb]; simp only [Bool.false_eq_true, if_false, List.append_nil]; exact tbu
    refine ⟨_, _, _, g4u, IXS_nat hil ⟨_, d0, ?_⟩⟩
    refine BR_ne (fun hne => ?_) (fun he => ?_)
    · refine j1 true ?_
      unfold isNot; rw [decide_eq_true hne]; rfl
    · refine ⟨_, _, _, g4u, IXS_nat hil ⟨_, d1, ?_⟩⟩
      refine j1 _ ?_
      unfold isNot
      rw [decide_eq_false (fun hn => hn he), Bool.false_or, Bool.eq_iff_iff]; simp
  · have hil : i = T.sc.length := by omega
    subst hil
    rw [List.take_length] at tbu hfl
    obtain ⟨yy, cy, q1, _⟩ := tbu.sc
    refine ⟨_, _, _, q1.cell, ?_⟩
    refine ne4 fun v f z p0 p1 p2 p3 => ?_
    have q2 := f.cell q1.cell
    refine (tbu.after f).app (q := ⟨a, k, n, n⟩) q2 p0.cell p1.cell p2.cell p3.cell (by omega) fun v2 _ tb2 => ?_
    exact tb2.ret (Nat.le_refl _) rfl fun s' y c' e hy hf => h s' y c' (e1.trans e) hy fun a ha => ⟨Nat.le_trans e1.1 (hf a ha).1, (hf a ha).2⟩
/-- A table as good as read. -/
theorem f_WithN {x y : Option Addr} {c c' : Nat} {a k : Nat} {n : Int} (hok : okT T = true) (ha : a < T.n) (hk : k < T.m) (h0 : 0 ≤ n) (h1 : n ≤ 40) (hx : RowAt s x (ints T.off)) (hy : ScAt s y T.sc)
    (h : ∀ s' y c', Ext s s' → okT (withT T a k n) = true → RowAt s' x (ints (withT T a k n).off) → ScAt s' y (withT T a k n).sc → (∀ a, y = some a → s.size ≤ a.block ∧ a.block < s'.size) → K (.agg #[.int .i64 (withT T a k n).men, .int .i64 (withT T a k n).sheets, .slice x (withT T a k n).off.length c, .slice y (withT T a k n).sc.length c']) s') :
    CALL Pg W F_ref10_With [.agg #[.int .i64 T.men, .int .i64 T.sheets, .slice x T.off.length c, .slice y T.sc.length c'], .int .i64 a, .int .i64 k, .int .i64 n] K E s := by
  obtain ⟨_, _, _, _, h30, _⟩ := okT_iff.1 hok
  have hm := sheets_m hok
  exact f_With (by omega) hx hy fun s' y c' e hy hf => h s' y c' e (withT_ok hok (isM_nat hok ha) (by unfold isS; omega) h0 h1) (hx.ext e) hy hf
end
end Go.Proofs.Ytkgcbfbbcaajpaa.G

/- More of the functions' shallow texts, by gen.py. -/
set_option linter.unusedVariables false
set_option maxRecDepth 100000
namespace Go.Proofs.Ytkgcbfbbcaajpaa.G
open Go.V
def an_6 : Nat → Ann := fun b => match b with
  | _ => {}
abbrev rv_6 : List ResultVar := [.tmp 6]
abbrev rs_6 : List Nat := [232, 6]
def J_law10_RankEnds_0 (W : World) (R : Ending → Hp → Prop) (b390 : Bool) (B29 : Nat) (n10 : Int) (n28 : Int) (n327 : Int) (b363 : Bool) : Hp → Prop :=
  BR b390
    (RDI .i64 ⟨B29, 0, none⟩ fun n391 =>
      BR (n391 != (Int.tmod (IntKind.wrap .i64 n10) n28))
        (CALL Pg W F_law10_awake []
          (fun v392 => TYB v392 fun b394 =>
            R (.returned (.bool b394)))
            (fun e393 => R (.panicked e393)))
        (BR (n327 == 0)
          (BR b363
            (CALL Pg W F_law10_awake []
              (fun v395 => TYB v395 fun b397 =>
                R (.returned (.bool b397)))
                (fun e396 => R (.panicked e396)))
            (R (.returned (.bool false))))
          (R (.returned (.bool false)))))
    (R (.returned (.bool false)))
def J_law10_RankEnds_1 (W : World) (R : Ending → Hp → Prop) (b389 : Bool) (n327 : Int) (n345 : Int) (b363 : Bool) (B29 : Nat) (n10 : Int) (n28 : Int) : Hp → Prop :=
  BR b389
    (BR (n327 == 0)
      (J_law10_RankEnds_0 W R ((n345 == 2) == (!b363)) B29 n10 n28 n327 b363)
      (J_law10_RankEnds_0 W R ((n345 == 2) == false) B29 n10 n28 n327 b363))
    (J_law10_RankEnds_0 W R false B29 n10 n28 n327 b363)
def J_law10_RankEnds_2 (W : World) (R : Ending → Hp → Prop) (b388 : Bool) (n345 : Int) (n327 : Int) (b363 : Bool) (B29 : Nat) (n10 : Int) (n28 : Int) : Hp → Prop :=
  BR b388
    (BR (n345 == 0)
      (J_law10_RankEnds_1 W R ((n327 == 2) == (!b363)) n327 n345 b363 B29 n10 n28)
      (J_law10_RankEnds_1 W R ((n327 == 2) == false) n327 n345 b363 B29 n10 n28))
    (J_law10_RankEnds_1 W R false n327 n345 b363 B29 n10 n28)
def J_law10_RankEnds_3 (W : World) (R : Ending → Hp → Prop) (b387 : Bool) (b363 : Bool) (b381 : Bool) (n345 : Int) (n327 : Int) (B29 : Nat) (n10 : Int) (n28 : Int) : Hp → Prop :=
  BR b387
    (J_law10_RankEnds_2 W R (b363 == b381) n345 n327 b363 B29 n10 n28)
    (J_law10_RankEnds_2 W R false n345 n327 b363 B29 n10 n28)
def J_law10_RankEnds_4 (W : World) (R : Ending → Hp → Prop) (b386 : Bool) (n384 : Int) (b363 : Bool) (b381 : Bool) (n345 : Int) (n327 : Int) (B29 : Nat) (n10 : Int) (n28 : Int) : Hp → Prop :=
  BR b386
    (J_law10_RankEnds_3 W R (n384 == 0) b363 b381 n345 n327 B29 n10 n28)
    (J_law10_RankEnds_3 W R false b363 b381 n345 n327 B29 n10 n28)
def J_law10_RankEnds_5 (W : World) (R : Ending → Hp → Prop) (b385 : Bool) (n366 : Int) (n384 : Int) (b363 : Bool) (b381 : Bool) (n345 : Int) (n327 : Int) (B29 : Nat) (n10 : Int) (n28 : Int) : Hp → Prop :=
  BR b385
    (J_law10_RankEnds_4 W R (n366 == 0) n384 b363 b381 n345 n327 B29 n10 n28)
    (J_law10_RankEnds_4 W R false n384 b363 b381 n345 n327 B29 n10 n28)
def J_law10_RankEnds_6 (W : World) (R : Ending → Hp → Prop) (b312 : Bool) (B11 : Nat) (B29 : Nat) (n10 : Int) (n28 : Int) : Hp → Prop :=
  BR b312
    (R (.returned (.bool false)))
    (RDI .i64 (Addr.add ⟨B11, 0, none⟩ 0) fun n313 =>
      RDI .i64 (Addr.add ⟨B11, 0, none⟩ 1) fun n314 =>
        RDL (Addr.add ⟨B11, 0, none⟩ 2) fun x315 l316 c317 =>
          RDL (Addr.add ⟨B11, 0, none⟩ 3) fun x318 l319 c320 =>
            RDI .i64 ⟨B29, 0, none⟩ fun n321 =>
              CALL Pg W F_rank_Before [(.agg #[(.int .i64 n313), (.int .i64 n314), (.slice x315 l316 c317), (.slice x318 l319 c320)]), (.int .i64 n321), (.int .i64 (Int.tmod (IntKind.wrap .i64 n10) n28))]
                (fun v322 => TUP v322 fun q324 => HD q324 fun v325 r326 => TYI .i64 v325 fun n327 =>
                  HD r326 fun v328 r329 => TYI .i64 v328 fun n330 =>
                    NL r329 <|
                      RDI .i64 (Addr.add ⟨B11, 0, none⟩ 0) fun n331 =>
                        RDI .i64 (Addr.add ⟨B11, 0, none⟩ 1) fun n332 =>
                          RDL (Addr.add ⟨B11, 0, none⟩ 2) fun x333 l334 c335 =>
                            RDL (Addr.add ⟨B11, 0, none⟩ 3) fun x336 l337 c338 =>
                              RDI .i64 ⟨B29, 0, none⟩ fun n339 =>
                                CALL Pg W F_rank_Before [(.agg #[(.int .i64 n331), (.int .i64 n332), (.slice x333 l334 c335), (.slice x336 l337 c338)]), (.int .i64 (Int.tmod (IntKind.wrap .i64 n10) n28)), (.int .i64 n339)]
                                  (fun v340 => TUP v340 fun q342 => HD q342 fun v343 r344 => TYI .i64 v343 fun n345 =>
                                    HD r344 fun v346 r347 => TYI .i64 v346 fun n348 =>
                                      NL r347 <|
                                        RDI .i64 (Addr.add ⟨B11, 0, none⟩ 0) fun n349 =>
                                          RDI .i64 (Addr.add ⟨B11, 0, none⟩ 1) fun n350 =>
                                            RDL (Addr.add ⟨B11, 0, none⟩ 2) fun x351 l352 c353 =>
                                              RDL (Addr.add ⟨B11, 0, none⟩ 3) fun x354 l355 c356 =>
                                                RDI .i64 ⟨B29, 0, none⟩ fun n357 =>
                                                  CALL Pg W F_rank_Equal [(.agg #[(.int .i64 n349), (.int .i64 n350), (.slice x351 l352 c353), (.slice x354 l355 c356)]), (.int .i64 n357), (.int .i64 (Int.tmod (IntKind.wrap .i64 n10) n28))]
                                                    (fun v358 => TUP v358 fun q360 => HD q360 fun v361 r362 => TYB v361 fun b363 =>
                                                      HD r362 fun v364 r365 => TYI .i64 v364 fun n366 =>
                                                        NL r365 <|
                                                          RDI .i64 (Addr.add ⟨B11, 0, none⟩ 0) fun n367 =>
                                                            RDI .i64 (Addr.add ⟨B11, 0, none⟩ 1) fun n368 =>
                                                              RDL (Addr.add ⟨B11, 0, none⟩ 2) fun x369 l370 c371 =>
                                                                RDL (Addr.add ⟨B11, 0, none⟩ 3) fun x372 l373 c374 =>
                                                                  RDI .i64 ⟨B29, 0, none⟩ fun n375 =>
                                                                    CALL Pg W F_rank_Equal [(.agg #[(.int .i64 n367), (.int .i64 n368), (.slice x369 l370 c371), (.slice x372 l373 c374)]), (.int .i64 (Int.tmod (IntKind.wrap .i64 n10) n28)), (.int .i64 n375)]
                                                                      (fun v376 => TUP v376 fun q378 => HD q378 fun v379 r380 => TYB v379 fun b381 =>
                                                                        HD r380 fun v382 r383 => TYI .i64 v382 fun n384 =>
                                                                          NL r383 <|
                                                                            BR (n330 == 0)
                                                                              (J_law10_RankEnds_5 W R (n348 == 0) n366 n384 b363 b381 n345 n327 B29 n10 n28)
                                                                              (J_law10_RankEnds_5 W R false n366 n384 b363 b381 n345 n327 B29 n10 n28))
                                                                        (fun e377 => R (.panicked e377)))
                                                      (fun e359 => R (.panicked e359)))
                                    (fun e341 => R (.panicked e341)))
                  (fun e323 => R (.panicked e323)))
def J_law10_RankEnds_7 (W : World) (R : Ending → Hp → Prop) (b311 : Bool) (B11 : Nat) (B29 : Nat) (n10 : Int) (n28 : Int) (B82 : Nat) : Hp → Prop :=
  BR b311
    (J_law10_RankEnds_6 W R true B11 B29 n10 n28)
    (RDI .i64 (Addr.add ⟨B82, 0, none⟩ 1) fun n398 =>
      RDI .i64 (Addr.add ⟨B11, 0, none⟩ 0) fun n399 =>
        J_law10_RankEnds_6 W R (decide (n398 > n399)) B11 B29 n10 n28)
def J_law10_RankEnds_8 (W : World) (R : Ending → Hp → Prop) (b288 : Bool) (B11 : Nat) (B29 : Nat) (n10 : Int) (n28 : Int) (B82 : Nat) : Hp → Prop :=
  BR b288
    (J_law10_RankEnds_7 W R true B11 B29 n10 n28 B82)
    (RDI .i64 (Addr.add ⟨B82, 0, none⟩ 0) fun n400 =>
      RDI .i64 (Addr.add ⟨B82, 0, none⟩ 1) fun n401 =>
        J_law10_RankEnds_7 W R (decide (n400 > n401)) B11 B29 n10 n28 B82)
def J_law10_RankEnds_9 (W : World) (R : Ending → Hp → Prop) (b270 : Bool) (B11 : Nat) (B29 : Nat) (n10 : Int) (n28 : Int) (B82 : Nat) : Hp → Prop :=
  BR b270
    (J_law10_RankEnds_8 W R true B11 B29 n10 n28 B82)
    (RDI .i64 (Addr.add ⟨B82, 0, none⟩ 0) fun n402 =>
      J_law10_RankEnds_8 W R (decide (n402 < 1)) B11 B29 n10 n28 B82)
def J_law10_RankEnds_10 (W : World) (R : Ending → Hp → Prop) (b255 : Bool) (B11 : Nat) (B29 : Nat) (n10 : Int) (n28 : Int) (B82 : Nat) (p201 : Option Addr) (p241 : Option Addr) : Hp → Prop :=
  BR b255
    (J_law10_RankEnds_9 W R true B11 B29 n10 n28 B82)
    (RDI .i64 (Addr.add ⟨B82, 0, none⟩ 0) fun n403 =>
      RDI .i64 (Addr.add ⟨B82, 0, none⟩ 1) fun n404 =>
        SO p201 fun a405 =>
          RDI .i64 (Addr.add a405 0) fun n406 =>
            SO p241 fun a407 =>
              RDI .i64 (Addr.add a407 1) fun n408 =>
                CALL Pg W F_law10_span [(.int .i64 n406), (.int .i64 n408)]
                  (fun v409 => AGG v409 fun q411 => HD q411 fun v412 r413 => TYI .i64 v412 fun n414 =>
                    HD r413 fun v415 r416 => TYI .i64 v415 fun n417 =>
                      NL r416 <|
                        ANDS (RDI .i64 (Addr.add ⟨B82, 0, none⟩ 0) fun n420 =>
                          RDI .i64 (Addr.add ⟨B82, 0, none⟩ 1) fun n421 =>
                            fun _ => ((.agg #[(.int .i64 n420), (.int .i64 n421)]) : Value) = (.agg #[(.int .i64 n403), (.int .i64 n404)])) <|
                          J_law10_RankEnds_9 W R (!((n403 == n414) && (n404 == n417))) B11 B29 n10 n28 B82)
                    (fun e410 => R (.panicked e410)))
def J_law10_RankEnds_11 (W : World) (R : Ending → Hp → Prop) (b247 : Bool) (B11 : Nat) (B29 : Nat) (n10 : Int) (n28 : Int) (B82 : Nat) (p201 : Option Addr) (p241 : Option Addr) (B57 : Nat) (p161 : Option Addr) (p121 : Option Addr) : Hp → Prop :=
  BR b247
    (J_law10_RankEnds_10 W R true B11 B29 n10 n28 B82 p201 p241)
    (RDI .i64 (Addr.add ⟨B57, 0, none⟩ 0) fun n422 =>
      RDI .i64 (Addr.add ⟨B57, 0, none⟩ 1) fun n423 =>
        SO p161 fun a424 =>
          RDI .i64 (Addr.add a424 0) fun n425 =>
            SO p121 fun a426 =>
              RDI .i64 (Addr.add a426 1) fun n427 =>
                CALL Pg W F_law10_span [(.int .i64 n425), (.int .i64 n427)]
                  (fun v428 => AGG v428 fun q430 => HD q430 fun v431 r432 => TYI .i64 v431 fun n433 =>
                    HD r432 fun v434 r435 => TYI .i64 v434 fun n436 =>
                      NL r435 <|
                        ANDS (RDI .i64 (Addr.add ⟨B57, 0, none⟩ 0) fun n439 =>
                          RDI .i64 (Addr.add ⟨B57, 0, none⟩ 1) fun n440 =>
                            fun _ => ((.agg #[(.int .i64 n439), (.int .i64 n440)]) : Value) = (.agg #[(.int .i64 n422), (.int .i64 n423)])) <|
                          J_law10_RankEnds_10 W R (!((n422 == n433) && (n423 == n436))) B11 B29 n10 n28 B82 p201 p241)
                    (fun e429 => R (.panicked e429)))
def J_law10_RankEnds_12 (W : World) (R : Ending → Hp → Prop) (b246 : Bool) (B11 : Nat) (B29 : Nat) (n10 : Int) (n28 : Int) (B82 : Nat) (p201 : Option Addr) (p241 : Option Addr) (B57 : Nat) (p161 : Option Addr) (p121 : Option Addr) (n242 : Int) : Hp → Prop :=
  BR b246
    (J_law10_RankEnds_11 W R true B11 B29 n10 n28 B82 p201 p241 B57 p161 p121)
    (J_law10_RankEnds_11 W R (n242 != 0) B11 B29 n10 n28 B82 p201 p241 B57 p161 p121)
def J_law10_RankEnds_13 (W : World) (R : Ending → Hp → Prop) (b245 : Bool) (B11 : Nat) (B29 : Nat) (n10 : Int) (n28 : Int) (B82 : Nat) (p201 : Option Addr) (p241 : Option Addr) (B57 : Nat) (p161 : Option Addr) (p121 : Option Addr) (n242 : Int) (n202 : Int) : Hp → Prop :=
  BR b245
    (J_law10_RankEnds_12 W R true B11 B29 n10 n28 B82 p201 p241 B57 p161 p121 n242)
    (J_law10_RankEnds_12 W R (n202 != 0) B11 B29 n10 n28 B82 p201 p241 B57 p161 p121 n242)
def J_law10_RankEnds_14 (W : World) (R : Ending → Hp → Prop) (b244 : Bool) (B11 : Nat) (B29 : Nat) (n10 : Int) (n28 : Int) (B82 : Nat) (p201 : Option Addr) (p241 : Option Addr) (B57 : Nat) (p161 : Option Addr) (p121 : Option Addr) (n242 : Int) (n202 : Int) (n162 : Int) : Hp → Prop :=
  BR b244
    (J_law10_RankEnds_13 W R true B11 B29 n10 n28 B82 p201 p241 B57 p161 p121 n242 n202)
    (J_law10_RankEnds_13 W R (n162 != 0) B11 B29 n10 n28 B82 p201 p241 B57 p161 p121 n242 n202)
def J_law10_RankEnds_15 (W : World) (R : Ending → Hp → Prop) (b243 : Bool) (B11 : Nat) (B29 : Nat) (n10 : Int) (n28 : Int) (B82 : Nat) (p201 : Option Addr) (p241 : Option Addr) (B57 : Nat) (p161 : Option Addr) (p121 : Option Addr) (n242 : Int) (n202 : Int) (n162 : Int) (n122 : Int) : Hp → Prop :=
  BR b243
    (J_law10_RankEnds_14 W R true B11 B29 n10 n28 B82 p201 p241 B57 p161 p121 n242 n202 n162)
    (J_law10_RankEnds_14 W R (n122 != 0) B11 B29 n10 n28 B82 p201 p241 B57 p161 p121 n242 n202 n162)
def J_law10_RankEnds_16 (W : World) (R : Ending → Hp → Prop) (n56 : Int) (B11 : Nat) (B29 : Nat) (n10 : Int) (n28 : Int) (B82 : Nat) (p201 : Option Addr) (p241 : Option Addr) (B57 : Nat) (p161 : Option Addr) (p121 : Option Addr) (n242 : Int) (n202 : Int) (n162 : Int) (n122 : Int) (n81 : Int) : Hp → Prop :=
  BR (n56 != 0)
    (J_law10_RankEnds_15 W R true B11 B29 n10 n28 B82 p201 p241 B57 p161 p121 n242 n202 n162 n122)
    (J_law10_RankEnds_15 W R (n81 != 0) B11 B29 n10 n28 B82 p201 p241 B57 p161 p121 n242 n202 n162 n122)
def J_law10_RankEnds_17 (W : World) (R : Ending → Hp → Prop) (B29 : Nat) (B11 : Nat) (n56 : Int) (n10 : Int) (n28 : Int) (B82 : Nat) (p201 : Option Addr) (B57 : Nat) (p161 : Option Addr) (p121 : Option Addr) (n202 : Int) (n162 : Int) (n122 : Int) (n81 : Int) : Hp → Prop :=
  RDI .i64 ⟨B29, 0, none⟩ fun n203 =>
    CONJ [
      CALLV Pg W (.func (.func 36) #[] #[(.pointer (some ⟨B11, 0, none⟩)), (.pointer (some ⟨B29, 0, none⟩))]) [(.bool false)]
        (fun v204 => AGG v204 fun q206 => HD q206 fun v207 r208 => TYI .i64 v207 fun n209 =>
          HD r208 fun v210 r211 => TYI .i64 v210 fun n212 =>
            HD r211 fun v213 r214 => TYL v213 fun x215 l216 c217 =>
              HD r214 fun v218 r219 => TYL v218 fun x220 l221 c222 =>
                NL r219 <|
                  ANDS (RDI .i64 ⟨B29, 0, none⟩ fun n223 =>
                    fun _ => ((.int .i64 n223) : Value) = (.int .i64 n203)) <|
                    CONJ [
                      CALL Pg W F_rank_Place [(.agg #[(.int .i64 n209), (.int .i64 n212), (.slice x215 l216 c217), (.slice x220 l221 c222)]), (.int .i64 n203)]
                        (fun v224 => TUP v224 fun q226 => HD q226 fun v227 r228 => AGG v227 fun q229 => HD q229 fun v230 r231 => TYI .i64 v230 fun n232 =>
                          HD r231 fun v233 r234 => TYI .i64 v233 fun n235 =>
                            NL r234 <|
                              HD r228 fun v236 r237 => TYI .i64 v236 fun n238 =>
                                NL r237 <|
                                  NEWZ Pg 29 fun B239 =>
                                    ANDS (RDI .i64 ⟨B29, 0, none⟩ fun n240 =>
                                      fun _ => ((.int .i64 n240) : Value) = (.int .i64 n203)) <|
                                      WR (Addr.add ⟨B239, 0, none⟩ 0) (.int .i64 n232) <|
                                        WR (Addr.add ⟨B239, 0, none⟩ 1) (.int .i64 n235) <|
                                          J_law10_RankEnds_16 W R n56 B11 B29 n10 n28 B82 p201 (some ⟨B239, 0, none⟩) B57 p161 p121 n238 n202 n162 n122 n81)
                          (fun e225 => R (.panicked e225)),
                      NEWZ Pg 29 fun B441 =>
                        ANDS (RDI .i64 ⟨B29, 0, none⟩ fun n442 =>
                          fun _ => ((.int .i64 n442) : Value) = (.int .i64 n203)) <|
                          CALL Pg W F_rank_Place [(.agg #[(.int .i64 n209), (.int .i64 n212), (.slice x215 l216 c217), (.slice x220 l221 c222)]), (.int .i64 n203)]
                            (fun v443 => TUP v443 fun q445 => HD q445 fun v446 r447 => AGG v446 fun q448 => HD q448 fun v449 r450 => TYI .i64 v449 fun n451 =>
                              HD r450 fun v452 r453 => TYI .i64 v452 fun n454 =>
                                NL r453 <|
                                  HD r447 fun v455 r456 => TYI .i64 v455 fun n457 =>
                                    NL r456 <|
                                      WR (Addr.add ⟨B441, 0, none⟩ 0) (.int .i64 n451) <|
                                        WR (Addr.add ⟨B441, 0, none⟩ 1) (.int .i64 n454) <|
                                          J_law10_RankEnds_16 W R n56 B11 B29 n10 n28 B82 p201 (some ⟨B441, 0, none⟩) B57 p161 p121 n457 n202 n162 n122 n81)
                              (fun e444 => R (.panicked e444))])
          (fun e205 => R (.panicked e205)),
      NEWZ Pg 29 fun B458 =>
        ANDS (RDI .i64 ⟨B29, 0, none⟩ fun n459 =>
          fun _ => ((.int .i64 n459) : Value) = (.int .i64 n203)) <|
          CALLV Pg W (.func (.func 36) #[] #[(.pointer (some ⟨B11, 0, none⟩)), (.pointer (some ⟨B29, 0, none⟩))]) [(.bool false)]
            (fun v460 => AGG v460 fun q462 => HD q462 fun v463 r464 => TYI .i64 v463 fun n465 =>
              HD r464 fun v466 r467 => TYI .i64 v466 fun n468 =>
                HD r467 fun v469 r470 => TYL v469 fun x471 l472 c473 =>
                  HD r470 fun v474 r475 => TYL v474 fun x476 l477 c478 =>
                    NL r475 <|
                      ANDS (RDI .i64 ⟨B29, 0, none⟩ fun n479 =>
                        fun _ => ((.int .i64 n479) : Value) = (.int .i64 n203)) <|
                        CALL Pg W F_rank_Place [(.agg #[(.int .i64 n465), (.int .i64 n468), (.slice x471 l472 c473), (.slice x476 l477 c478)]), (.int .i64 n203)]
                          (fun v480 => TUP v480 fun q482 => HD q482 fun v483 r484 => AGG v483 fun q485 => HD q485 fun v486 r487 => TYI .i64 v486 fun n488 =>
                            HD r487 fun v489 r490 => TYI .i64 v489 fun n491 =>
                              NL r490 <|
                                HD r484 fun v492 r493 => TYI .i64 v492 fun n494 =>
                                  NL r493 <|
                                    WR (Addr.add ⟨B458, 0, none⟩ 0) (.int .i64 n488) <|
                                      WR (Addr.add ⟨B458, 0, none⟩ 1) (.int .i64 n491) <|
                                        J_law10_RankEnds_16 W R n56 B11 B29 n10 n28 B82 p201 (some ⟨B458, 0, none⟩) B57 p161 p121 n494 n202 n162 n122 n81)
                            (fun e481 => R (.panicked e481)))
              (fun e461 => R (.panicked e461))]
def J_law10_RankEnds_18 (W : World) (R : Ending → Hp → Prop) (B29 : Nat) (B11 : Nat) (n56 : Int) (n10 : Int) (n28 : Int) (B82 : Nat) (B57 : Nat) (p161 : Option Addr) (p121 : Option Addr) (n162 : Int) (n122 : Int) (n81 : Int) : Hp → Prop :=
  RDI .i64 ⟨B29, 0, none⟩ fun n163 =>
    CONJ [
      CALLV Pg W (.func (.func 36) #[] #[(.pointer (some ⟨B11, 0, none⟩)), (.pointer (some ⟨B29, 0, none⟩))]) [(.bool true)]
        (fun v164 => AGG v164 fun q166 => HD q166 fun v167 r168 => TYI .i64 v167 fun n169 =>
          HD r168 fun v170 r171 => TYI .i64 v170 fun n172 =>
            HD r171 fun v173 r174 => TYL v173 fun x175 l176 c177 =>
              HD r174 fun v178 r179 => TYL v178 fun x180 l181 c182 =>
                NL r179 <|
                  ANDS (RDI .i64 ⟨B29, 0, none⟩ fun n183 =>
                    fun _ => ((.int .i64 n183) : Value) = (.int .i64 n163)) <|
                    CONJ [
                      CALL Pg W F_rank_Place [(.agg #[(.int .i64 n169), (.int .i64 n172), (.slice x175 l176 c177), (.slice x180 l181 c182)]), (.int .i64 n163)]
                        (fun v184 => TUP v184 fun q186 => HD q186 fun v187 r188 => AGG v187 fun q189 => HD q189 fun v190 r191 => TYI .i64 v190 fun n192 =>
                          HD r191 fun v193 r194 => TYI .i64 v193 fun n195 =>
                            NL r194 <|
                              HD r188 fun v196 r197 => TYI .i64 v196 fun n198 =>
                                NL r197 <|
                                  NEWZ Pg 29 fun B199 =>
                                    ANDS (RDI .i64 ⟨B29, 0, none⟩ fun n200 =>
                                      fun _ => ((.int .i64 n200) : Value) = (.int .i64 n163)) <|
                                      WR (Addr.add ⟨B199, 0, none⟩ 0) (.int .i64 n192) <|
                                        WR (Addr.add ⟨B199, 0, none⟩ 1) (.int .i64 n195) <|
                                          J_law10_RankEnds_17 W R B29 B11 n56 n10 n28 B82 (some ⟨B199, 0, none⟩) B57 p161 p121 n198 n162 n122 n81)
                          (fun e185 => R (.panicked e185)),
                      NEWZ Pg 29 fun B495 =>
                        ANDS (RDI .i64 ⟨B29, 0, none⟩ fun n496 =>
                          fun _ => ((.int .i64 n496) : Value) = (.int .i64 n163)) <|
                          CALL Pg W F_rank_Place [(.agg #[(.int .i64 n169), (.int .i64 n172), (.slice x175 l176 c177), (.slice x180 l181 c182)]), (.int .i64 n163)]
                            (fun v497 => TUP v497 fun q499 => HD q499 fun v500 r501 => AGG v500 fun q502 => HD q502 fun v503 r504 => TYI .i64 v503 fun n505 =>
                              HD r504 fun v506 r507 => TYI .i64 v506 fun n508 =>
                                NL r507 <|
                                  HD r501 fun v509 r510 => TYI .i64 v509 fun n511 =>
                                    NL r510 <|
                                      WR (Addr.add ⟨B495, 0, none⟩ 0) (.int .i64 n505) <|
                                        WR (Addr.add ⟨B495, 0, none⟩ 1) (.int .i64 n508) <|
                                          J_law10_RankEnds_17 W R B29 B11 n56 n10 n28 B82 (some ⟨B495, 0, none⟩) B57 p161 p121 n511 n162 n122 n81)
                              (fun e498 => R (.panicked e498))])
          (fun e165 => R (.panicked e165)),
      NEWZ Pg 29 fun B512 =>
        ANDS (RDI .i64 ⟨B29, 0, none⟩ fun n513 =>
          fun _ => ((.int .i64 n513) : Value) = (.int .i64 n163)) <|
          CALLV Pg W (.func (.func 36) #[] #[(.pointer (some ⟨B11, 0, none⟩)), (.pointer (some ⟨B29, 0, none⟩))]) [(.bool true)]
            (fun v514 => AGG v514 fun q516 => HD q516 fun v517 r518 => TYI .i64 v517 fun n519 =>
              HD r518 fun v520 r521 => TYI .i64 v520 fun n522 =>
                HD r521 fun v523 r524 => TYL v523 fun x525 l526 c527 =>
                  HD r524 fun v528 r529 => TYL v528 fun x530 l531 c532 =>
                    NL r529 <|
                      ANDS (RDI .i64 ⟨B29, 0, none⟩ fun n533 =>
                        fun _ => ((.int .i64 n533) : Value) = (.int .i64 n163)) <|
                        CALL Pg W F_rank_Place [(.agg #[(.int .i64 n519), (.int .i64 n522), (.slice x525 l526 c527), (.slice x530 l531 c532)]), (.int .i64 n163)]
                          (fun v534 => TUP v534 fun q536 => HD q536 fun v537 r538 => AGG v537 fun q539 => HD q539 fun v540 r541 => TYI .i64 v540 fun n542 =>
                            HD r541 fun v543 r544 => TYI .i64 v543 fun n545 =>
                              NL r544 <|
                                HD r538 fun v546 r547 => TYI .i64 v546 fun n548 =>
                                  NL r547 <|
                                    WR (Addr.add ⟨B512, 0, none⟩ 0) (.int .i64 n542) <|
                                      WR (Addr.add ⟨B512, 0, none⟩ 1) (.int .i64 n545) <|
                                        J_law10_RankEnds_17 W R B29 B11 n56 n10 n28 B82 (some ⟨B512, 0, none⟩) B57 p161 p121 n548 n162 n122 n81)
                            (fun e535 => R (.panicked e535)))
              (fun e515 => R (.panicked e515))]
def J_law10_RankEnds_19 (W : World) (R : Ending → Hp → Prop) (B29 : Nat) (B11 : Nat) (n56 : Int) (n10 : Int) (n28 : Int) (B82 : Nat) (B57 : Nat) (p121 : Option Addr) (n122 : Int) (n81 : Int) : Hp → Prop :=
  RDI .i64 ⟨B29, 0, none⟩ fun n123 =>
    CONJ [
      CALLV Pg W (.func (.func 36) #[] #[(.pointer (some ⟨B11, 0, none⟩)), (.pointer (some ⟨B29, 0, none⟩))]) [(.bool false)]
        (fun v124 => AGG v124 fun q126 => HD q126 fun v127 r128 => TYI .i64 v127 fun n129 =>
          HD r128 fun v130 r131 => TYI .i64 v130 fun n132 =>
            HD r131 fun v133 r134 => TYL v133 fun x135 l136 c137 =>
              HD r134 fun v138 r139 => TYL v138 fun x140 l141 c142 =>
                NL r139 <|
                  ANDS (RDI .i64 ⟨B29, 0, none⟩ fun n143 =>
                    fun _ => ((.int .i64 n143) : Value) = (.int .i64 n123)) <|
                    CONJ [
                      CALL Pg W F_rank_Sum [(.agg #[(.int .i64 n129), (.int .i64 n132), (.slice x135 l136 c137), (.slice x140 l141 c142)]), (.int .i64 n123)]
                        (fun v144 => TUP v144 fun q146 => HD q146 fun v147 r148 => AGG v147 fun q149 => HD q149 fun v150 r151 => TYI .i64 v150 fun n152 =>
                          HD r151 fun v153 r154 => TYI .i64 v153 fun n155 =>
                            NL r154 <|
                              HD r148 fun v156 r157 => TYI .i64 v156 fun n158 =>
                                NL r157 <|
                                  NEWZ Pg 29 fun B159 =>
                                    ANDS (RDI .i64 ⟨B29, 0, none⟩ fun n160 =>
                                      fun _ => ((.int .i64 n160) : Value) = (.int .i64 n123)) <|
                                      WR (Addr.add ⟨B159, 0, none⟩ 0) (.int .i64 n152) <|
                                        WR (Addr.add ⟨B159, 0, none⟩ 1) (.int .i64 n155) <|
                                          J_law10_RankEnds_18 W R B29 B11 n56 n10 n28 B82 B57 (some ⟨B159, 0, none⟩) p121 n158 n122 n81)
                          (fun e145 => R (.panicked e145)),
                      NEWZ Pg 29 fun B549 =>
                        ANDS (RDI .i64 ⟨B29, 0, none⟩ fun n550 =>
                          fun _ => ((.int .i64 n550) : Value) = (.int .i64 n123)) <|
                          CALL Pg W F_rank_Sum [(.agg #[(.int .i64 n129), (.int .i64 n132), (.slice x135 l136 c137), (.slice x140 l141 c142)]), (.int .i64 n123)]
                            (fun v551 => TUP v551 fun q553 => HD q553 fun v554 r555 => AGG v554 fun q556 => HD q556 fun v557 r558 => TYI .i64 v557 fun n559 =>
                              HD r558 fun v560 r561 => TYI .i64 v560 fun n562 =>
                                NL r561 <|
                                  HD r555 fun v563 r564 => TYI .i64 v563 fun n565 =>
                                    NL r564 <|
                                      WR (Addr.add ⟨B549, 0, none⟩ 0) (.int .i64 n559) <|
                                        WR (Addr.add ⟨B549, 0, none⟩ 1) (.int .i64 n562) <|
                                          J_law10_RankEnds_18 W R B29 B11 n56 n10 n28 B82 B57 (some ⟨B549, 0, none⟩) p121 n565 n122 n81)
                              (fun e552 => R (.panicked e552))])
          (fun e125 => R (.panicked e125)),
      NEWZ Pg 29 fun B566 =>
        ANDS (RDI .i64 ⟨B29, 0, none⟩ fun n567 =>
          fun _ => ((.int .i64 n567) : Value) = (.int .i64 n123)) <|
          CALLV Pg W (.func (.func 36) #[] #[(.pointer (some ⟨B11, 0, none⟩)), (.pointer (some ⟨B29, 0, none⟩))]) [(.bool false)]
            (fun v568 => AGG v568 fun q570 => HD q570 fun v571 r572 => TYI .i64 v571 fun n573 =>
              HD r572 fun v574 r575 => TYI .i64 v574 fun n576 =>
                HD r575 fun v577 r578 => TYL v577 fun x579 l580 c581 =>
                  HD r578 fun v582 r583 => TYL v582 fun x584 l585 c586 =>
                    NL r583 <|
                      ANDS (RDI .i64 ⟨B29, 0, none⟩ fun n587 =>
                        fun _ => ((.int .i64 n587) : Value) = (.int .i64 n123)) <|
                        CALL Pg W F_rank_Sum [(.agg #[(.int .i64 n573), (.int .i64 n576), (.slice x579 l580 c581), (.slice x584 l585 c586)]), (.int .i64 n123)]
                          (fun v588 => TUP v588 fun q590 => HD q590 fun v591 r592 => AGG v591 fun q593 => HD q593 fun v594 r595 => TYI .i64 v594 fun n596 =>
                            HD r595 fun v597 r598 => TYI .i64 v597 fun n599 =>
                              NL r598 <|
                                HD r592 fun v600 r601 => TYI .i64 v600 fun n602 =>
                                  NL r601 <|
                                    WR (Addr.add ⟨B566, 0, none⟩ 0) (.int .i64 n596) <|
                                      WR (Addr.add ⟨B566, 0, none⟩ 1) (.int .i64 n599) <|
                                        J_law10_RankEnds_18 W R B29 B11 n56 n10 n28 B82 B57 (some ⟨B566, 0, none⟩) p121 n602 n122 n81)
                            (fun e589 => R (.panicked e589)))
              (fun e569 => R (.panicked e569))]
def J_law10_RankEnds_20 (W : World) (R : Ending → Hp → Prop) (b23 : Bool) (B11 : Nat) (n9 : Int) (n10 : Int) : Hp → Prop :=
  BR b23
    (CALL Pg W F_law10_awake []
      (fun v24 => TYB v24 fun b26 =>
        R (.returned (.bool b26)))
        (fun e25 => R (.panicked e25)))
    (RDI .i64 (Addr.add ⟨B11, 0, none⟩ 0) fun n27 =>
      NZI n27 <|
        RDI .i64 (Addr.add ⟨B11, 0, none⟩ 0) fun n28 =>
          NZI n28 <|
            NEWZ Pg 3 fun B29 =>
              ANDS (RDI .i64 (Addr.add ⟨B11, 0, none⟩ 0) fun n30 =>
                fun _ => ((.int .i64 n30) : Value) = (.int .i64 n28)) <|
                ANDS (RDI .i64 (Addr.add ⟨B11, 0, none⟩ 0) fun n31 =>
                  fun _ => ((.int .i64 n31) : Value) = (.int .i64 n27)) <|
                  WR (Addr.add ⟨B29, 0, none⟩ 0) (.int .i64 (Int.tmod (IntKind.wrap .i64 n9) n27)) <|
                    ANDS (RDI .i64 (Addr.add ⟨B11, 0, none⟩ 0) fun n32 =>
                      fun _ => ((.int .i64 n32) : Value) = (.int .i64 n28)) <|
                      RDI .i64 (Addr.add ⟨B11, 0, none⟩ 0) fun n33 =>
                        RDI .i64 (Addr.add ⟨B11, 0, none⟩ 1) fun n34 =>
                          RDL (Addr.add ⟨B11, 0, none⟩ 2) fun x35 l36 c37 =>
                            RDL (Addr.add ⟨B11, 0, none⟩ 3) fun x38 l39 c40 =>
                              RDI .i64 ⟨B29, 0, none⟩ fun n41 =>
                                CALL Pg W F_rank_Sum [(.agg #[(.int .i64 n33), (.int .i64 n34), (.slice x35 l36 c37), (.slice x38 l39 c40)]), (.int .i64 n41)]
                                  (fun v42 => TUP v42 fun q44 => HD q44 fun v45 r46 => AGG v45 fun q47 => HD q47 fun v48 r49 => TYI .i64 v48 fun n50 =>
                                    HD r49 fun v51 r52 => TYI .i64 v51 fun n53 =>
                                      NL r52 <|
                                        HD r46 fun v54 r55 => TYI .i64 v54 fun n56 =>
                                          NL r55 <|
                                            NEWZ Pg 29 fun B57 =>
                                              WR (Addr.add ⟨B57, 0, none⟩ 0) (.int .i64 n50) <|
                                                WR (Addr.add ⟨B57, 0, none⟩ 1) (.int .i64 n53) <|
                                                  RDI .i64 (Addr.add ⟨B11, 0, none⟩ 0) fun n58 =>
                                                    RDI .i64 (Addr.add ⟨B11, 0, none⟩ 1) fun n59 =>
                                                      RDL (Addr.add ⟨B11, 0, none⟩ 2) fun x60 l61 c62 =>
                                                        RDL (Addr.add ⟨B11, 0, none⟩ 3) fun x63 l64 c65 =>
                                                          RDI .i64 ⟨B29, 0, none⟩ fun n66 =>
                                                            CALL Pg W F_rank_Place [(.agg #[(.int .i64 n58), (.int .i64 n59), (.slice x60 l61 c62), (.slice x63 l64 c65)]), (.int .i64 n66)]
                                                              (fun v67 => TUP v67 fun q69 => HD q69 fun v70 r71 => AGG v70 fun q72 => HD q72 fun v73 r74 => TYI .i64 v73 fun n75 =>
                                                                HD r74 fun v76 r77 => TYI .i64 v76 fun n78 =>
                                                                  NL r77 <|
                                                                    HD r71 fun v79 r80 => TYI .i64 v79 fun n81 =>
                                                                      NL r80 <|
                                                                        NEWZ Pg 29 fun B82 =>
                                                                          WR (Addr.add ⟨B82, 0, none⟩ 0) (.int .i64 n75) <|
                                                                            WR (Addr.add ⟨B82, 0, none⟩ 1) (.int .i64 n78) <|
                                                                              RDI .i64 ⟨B29, 0, none⟩ fun n83 =>
                                                                                CONJ [
                                                                                  CALLV Pg W (.func (.func 36) #[] #[(.pointer (some ⟨B11, 0, none⟩)), (.pointer (some ⟨B29, 0, none⟩))]) [(.bool true)]
                                                                                    (fun v84 => AGG v84 fun q86 => HD q86 fun v87 r88 => TYI .i64 v87 fun n89 =>
                                                                                      HD r88 fun v90 r91 => TYI .i64 v90 fun n92 =>
                                                                                        HD r91 fun v93 r94 => TYL v93 fun x95 l96 c97 =>
                                                                                          HD r94 fun v98 r99 => TYL v98 fun x100 l101 c102 =>
                                                                                            NL r99 <|
                                                                                              ANDS (RDI .i64 ⟨B29, 0, none⟩ fun n103 =>
                                                                                                fun _ => ((.int .i64 n103) : Value) = (.int .i64 n83)) <|
                                                                                                CONJ [
                                                                                                  CALL Pg W F_rank_Sum [(.agg #[(.int .i64 n89), (.int .i64 n92), (.slice x95 l96 c97), (.slice x100 l101 c102)]), (.int .i64 n83)]
                                                                                                    (fun v104 => TUP v104 fun q106 => HD q106 fun v107 r108 => AGG v107 fun q109 => HD q109 fun v110 r111 => TYI .i64 v110 fun n112 =>
                                                                                                      HD r111 fun v113 r114 => TYI .i64 v113 fun n115 =>
                                                                                                        NL r114 <|
                                                                                                          HD r108 fun v116 r117 => TYI .i64 v116 fun n118 =>
                                                                                                            NL r117 <|
                                                                                                              NEWZ Pg 29 fun B119 =>
                                                                                                                ANDS (RDI .i64 ⟨B29, 0, none⟩ fun n120 =>
                                                                                                                  fun _ => ((.int .i64 n120) : Value) = (.int .i64 n83)) <|
                                                                                                                  WR (Addr.add ⟨B119, 0, none⟩ 0) (.int .i64 n112) <|
                                                                                                                    WR (Addr.add ⟨B119, 0, none⟩ 1) (.int .i64 n115) <|
                                                                                                                      J_law10_RankEnds_19 W R B29 B11 n56 n10 n28 B82 B57 (some ⟨B119, 0, none⟩) n118 n81)
                                                                                                      (fun e105 => R (.panicked e105)),
                                                                                                  NEWZ Pg 29 fun B603 =>
                                                                                                    ANDS (RDI .i64 ⟨B29, 0, none⟩ fun n604 =>
                                                                                                      fun _ => ((.int .i64 n604) : Value) = (.int .i64 n83)) <|
                                                                                                      CALL Pg W F_rank_Sum [(.agg #[(.int .i64 n89), (.int .i64 n92), (.slice x95 l96 c97), (.slice x100 l101 c102)]), (.int .i64 n83)]
                                                                                                        (fun v605 => TUP v605 fun q607 => HD q607 fun v608 r609 => AGG v608 fun q610 => HD q610 fun v611 r612 => TYI .i64 v611 fun n613 =>
                                                                                                          HD r612 fun v614 r615 => TYI .i64 v614 fun n616 =>
                                                                                                            NL r615 <|
                                                                                                              HD r609 fun v617 r618 => TYI .i64 v617 fun n619 =>
                                                                                                                NL r618 <|
                                                                                                                  WR (Addr.add ⟨B603, 0, none⟩ 0) (.int .i64 n613) <|
                                                                                                                    WR (Addr.add ⟨B603, 0, none⟩ 1) (.int .i64 n616) <|
                                                                                                                      J_law10_RankEnds_19 W R B29 B11 n56 n10 n28 B82 B57 (some ⟨B603, 0, none⟩) n619 n81)
                                                                                                          (fun e606 => R (.panicked e606))])
                                                                                      (fun e85 => R (.panicked e85)),
                                                                                  NEWZ Pg 29 fun B620 =>
                                                                                    ANDS (RDI .i64 ⟨B29, 0, none⟩ fun n621 =>
                                                                                      fun _ => ((.int .i64 n621) : Value) = (.int .i64 n83)) <|
                                                                                      CALLV Pg W (.func (.func 36) #[] #[(.pointer (some ⟨B11, 0, none⟩)), (.pointer (some ⟨B29, 0, none⟩))]) [(.bool true)]
                                                                                        (fun v622 => AGG v622 fun q624 => HD q624 fun v625 r626 => TYI .i64 v625 fun n627 =>
                                                                                          HD r626 fun v628 r629 => TYI .i64 v628 fun n630 =>
                                                                                            HD r629 fun v631 r632 => TYL v631 fun x633 l634 c635 =>
                                                                                              HD r632 fun v636 r637 => TYL v636 fun x638 l639 c640 =>
                                                                                                NL r637 <|
                                                                                                  ANDS (RDI .i64 ⟨B29, 0, none⟩ fun n641 =>
                                                                                                    fun _ => ((.int .i64 n641) : Value) = (.int .i64 n83)) <|
                                                                                                    CALL Pg W F_rank_Sum [(.agg #[(.int .i64 n627), (.int .i64 n630), (.slice x633 l634 c635), (.slice x638 l639 c640)]), (.int .i64 n83)]
                                                                                                      (fun v642 => TUP v642 fun q644 => HD q644 fun v645 r646 => AGG v645 fun q647 => HD q647 fun v648 r649 => TYI .i64 v648 fun n650 =>
                                                                                                        HD r649 fun v651 r652 => TYI .i64 v651 fun n653 =>
                                                                                                          NL r652 <|
                                                                                                            HD r646 fun v654 r655 => TYI .i64 v654 fun n656 =>
                                                                                                              NL r655 <|
                                                                                                                WR (Addr.add ⟨B620, 0, none⟩ 0) (.int .i64 n650) <|
                                                                                                                  WR (Addr.add ⟨B620, 0, none⟩ 1) (.int .i64 n653) <|
                                                                                                                    J_law10_RankEnds_19 W R B29 B11 n56 n10 n28 B82 B57 (some ⟨B620, 0, none⟩) n656 n81)
                                                                                                        (fun e643 => R (.panicked e643)))
                                                                                          (fun e623 => R (.panicked e623))])
                                                                (fun e68 => R (.panicked e68)))
                                    (fun e43 => R (.panicked e43)))
def T_law10_RankEnds (W : World) (n1 : Int) (n2 : Int) (x3 : Option Addr) (l4 : Nat) (c5 : Nat) (x6 : Option Addr) (l7 : Nat) (c8 : Nat) (n9 : Int) (n10 : Int) (R : Ending → Hp → Prop) : Hp → Prop :=
  NEW 25 [(.int .i64 n1), (.int .i64 n2), (.slice x3 l4 c5), (.slice x6 l7 c8)] fun B11 =>
    RDI .i64 (Addr.add ⟨B11, 0, none⟩ 0) fun n12 =>
      RDI .i64 (Addr.add ⟨B11, 0, none⟩ 1) fun n13 =>
        RDL (Addr.add ⟨B11, 0, none⟩ 2) fun x14 l15 c16 =>
          RDL (Addr.add ⟨B11, 0, none⟩ 3) fun x17 l18 c19 =>
            CALL Pg W F_law10_far [(.agg #[(.int .i64 n12), (.int .i64 n13), (.slice x14 l15 c16), (.slice x17 l18 c19)])]
              (fun v20 => TYB v20 fun b22 =>
                BR b22
                  (J_law10_RankEnds_20 W R true B11 n9 n10)
                  (RDI .i64 (Addr.add ⟨B11, 0, none⟩ 0) fun n657 =>
                    RDI .i64 (Addr.add ⟨B11, 0, none⟩ 1) fun n658 =>
                      RDL (Addr.add ⟨B11, 0, none⟩ 2) fun x659 l660 c661 =>
                        RDL (Addr.add ⟨B11, 0, none⟩ 3) fun x662 l663 c664 =>
                          CALL Pg W F_ref10_Table [(.agg #[(.int .i64 n657), (.int .i64 n658), (.slice x659 l660 c661), (.slice x662 l663 c664)])]
                            (fun v665 => TYB v665 fun b667 =>
                              J_law10_RankEnds_20 W R (!b667) B11 n9 n10)
                              (fun e666 => R (.panicked e666))))
                (fun e21 => R (.panicked e21))
theorem T_law10_RankEnds_eq (W : World) (n1 : Int) (n2 : Int) (x3 : Option Addr) (l4 : Nat) (c5 : Nat) (x6 : Option Addr) (l7 : Nat) (c8 : Nat) (n9 : Int) (n10 : Int) (R : Ending → Hp → Prop) : vfun Pg W an_6 Try.f6 [(.agg #[(.int .i64 n1), (.int .i64 n2), (.slice x3 l4 c5), (.slice x6 l7 c8)]), (.int .u8 n9), (.int .u8 n10)] R = T_law10_RankEnds W n1 n2 x3 l4 c5 x6 l7 c8 n9 n10 R := by kernel_rfl
theorem does_law10_RankEnds (W : World) (n1 : Int) (n2 : Int) (x3 : Option Addr) (l4 : Nat) (c5 : Nat) (x6 : Option Addr) (l7 : Nat) (c8 : Nat) (n9 : Int) (n10 : Int) (R : Ending → Hp → Prop) (s : Hp) (h : T_law10_RankEnds W n1 n2 x3 l4 c5 x6 l7 c8 n9 n10 R s) : Does Pg W F_law10_RankEnds #[(.agg #[(.int .i64 n1), (.int .i64 n2), (.slice x3 l4 c5), (.slice x6 l7 c8)]), (.int .u8 n9), (.int .u8 n10)] s R :=
  does_of_vfun Pg W an_6 Try.func6 rfl (by kernel_rfl) (by rw [T_law10_RankEnds_eq]; exact h)
def an_36 : Nat → Ann := fun b => match b with
  | 0 => { ms := [14], ks := [.i .i64], us := [0, 1, 2, 4, 5, 13, 49], rt := false, ex := [] }
  | 2 => { ms := [19], ks := [.i .i64], us := [0, 1, 2, 4, 5, 6, 13, 14, 18, 49], rt := false, ex := [] }
  | _ => {}
abbrev rv_36 : List ResultVar := [.cell 4 25]
abbrev rs_36 : List Nat := [49, 4]
def L_law10_RankEnds_c1_0 (W : World) (R : Ending → Hp → Prop) (zb0 : Bool) (za1 : Addr) (za2 : Addr) (za3 : Addr) (za4 : Addr) (zn5 : Int) (n15 : Int) : Hp → Prop :=
  LOOPN [.i .i64] (fun ys next s => ∀ j : Tm, vc Pg W 49 rs_36 an_36 false (sub (bodyOf Try.f36) [1, 1, 1, 0, 1, 0, 0]) 0 (KLoop [14] [0, 1, 2, 4, 5, 13, 49] [(.bool zb0), (.pointer (some za1)), (.pointer (some za2)), (.pointer (some za3)), (.pointer (some za4)), (.int .i64 zn5), (.tuple #[])] next (KBlk 0 (KS Pg W 49 rs_36 an_36 false (sub (bodyOf Try.f36) [1, 1, 1, 1]) 0 (fin Pg W 49 rv_36 R)))) (known [14] ys (known [0, 1, 2, 4, 5, 13, 49] [(.bool zb0), (.pointer (some za1)), (.pointer (some za2)), (.pointer (some za3)), (.pointer (some za4)), (.int .i64 zn5), (.tuple #[])] j)) s) [(.int .i64 n15)]
def L_law10_RankEnds_c1_1 (W : World) (R : Ending → Hp → Prop) (nx0 : List Value → Hp → Prop) (zb0 : Bool) (za1 : Addr) (za2 : Addr) (za3 : Addr) (za4 : Addr) (zn5 : Int) (zn6 : Int) (zn7 : Int) (n33 : Int) : Hp → Prop :=
  LOOPN [.i .i64] (fun ys next s => ∀ j : Tm, vc Pg W 49 rs_36 an_36 false (sub (bodyOf Try.f36) [1, 1, 1, 0, 1, 0, 0, 1, 1, 0, 0, 1, 1, 0, 0]) 2 (KLoop [19] [0, 1, 2, 4, 5, 6, 13, 14, 18, 49] [(.bool zb0), (.pointer (some za1)), (.pointer (some za2)), (.pointer (some za3)), (.pointer (some za4)), (.int .i64 zn5), (.int .i64 zn6), (.int .i64 zn5), (.int .i64 zn7), (.tuple #[])] next (KBlk 2 (KBlk 1 (KS Pg W 49 rs_36 an_36 false (sub (bodyOf Try.f36) [1, 1, 1, 0, 1, 0, 0, 1, 1, 1]) 0 (KLoop [14] [0, 1, 2, 4, 5, 13, 49] [(.bool zb0), (.pointer (some za1)), (.pointer (some za2)), (.pointer (some za3)), (.pointer (some za4)), (.int .i64 zn6), (.tuple #[])] nx0 (KBlk 0 (KS Pg W 49 rs_36 an_36 false (sub (bodyOf Try.f36) [1, 1, 1, 1]) 0 (fin Pg W 49 rv_36 R)))))))) (known [19] ys (known [0, 1, 2, 4, 5, 6, 13, 14, 18, 49] [(.bool zb0), (.pointer (some za1)), (.pointer (some za2)), (.pointer (some za3)), (.pointer (some za4)), (.int .i64 zn5), (.int .i64 zn6), (.int .i64 zn5), (.int .i64 zn7), (.tuple #[])] j)) s) [(.int .i64 n33)]
def J_law10_RankEnds_c1_0 (W : World) (R : Ending → Hp → Prop) (za4 : Addr) (n55 : Int) (zn5 : Int) (n33 : Int) (zb0 : Bool) (za1 : Addr) (za2 : Addr) (za3 : Addr) (zn6 : Int) (zn7 : Int) (nx1 : List Value → Hp → Prop) : Hp → Prop :=
  RDL (Addr.add za4 3) fun x56 l57 c58 =>
    CALL Pg W F_law10_span [(.int .i64 n55), (.int .i64 n55)]
      (fun v59 => AGG v59 fun q61 => HD q61 fun v62 r63 => TYI .i64 v62 fun n64 =>
        HD r63 fun v65 r66 => TYI .i64 v65 fun n67 =>
          NL r66 <|
            ANDS (RDL (Addr.add za4 3) fun x68 l69 c70 =>
              fun _ => ((.slice x68 l69 c70) : Value) = (.slice x56 l57 c58)) <|
              NEW 55 [(.int .i64 zn5), (.int .i64 n33), (.int .i64 n64), (.int .i64 n67)] fun B71 =>
                ANDS (RDL (Addr.add za4 3) fun x72 l73 c74 =>
                  fun _ => ((.slice x72 l73 c74) : Value) = (.slice x56 l57 c58)) <|
                  APP Pg 55 4 x56 l57 c58 (some ⟨B71, 0, none⟩) 1 fun x75 l76 c77 =>
                    WR (Addr.add (Addr.add za4 3) 0) (.slice x75 l76 c77) <|
                      NX [(.bool zb0), (.pointer (some za1)), (.pointer (some za2)), (.pointer (some za3)), (.pointer (some za4)), (.int .i64 zn5), (.int .i64 zn6), (.int .i64 zn5), (.int .i64 zn7), (.tuple #[])] [(.bool zb0), (.pointer (some za1)), (.pointer (some za2)), (.pointer (some za3)), (.pointer (some za4)), (.int .i64 zn5), (.int .i64 zn6), (.int .i64 zn5), (.int .i64 zn7), (.tuple #[])] (nx1 [(.int .i64 (IntKind.wrap .i64 (n33 + 1)))]))
        (fun e60 => R (.panicked e60))
def B_law10_RankEnds_c1_0 (W : World) (R : Ending → Hp → Prop) (zb0 : Bool) (za1 : Addr) (za2 : Addr) (za3 : Addr) (za4 : Addr) (zn5 : Int) (n15 : Int) (nx0 : List Value → Hp → Prop) : Hp → Prop :=
  BR (decide (n15 < zn5))
    (RDI .i64 (Addr.add za1 1) fun n16 =>
      L_law10_RankEnds_c1_1 W R nx0 zb0 za1 za2 za3 za4 n15 zn5 n16 0)
    (RDI .i64 (Addr.add za4 0) fun n17 =>
      RDI .i64 (Addr.add za4 1) fun n18 =>
        RDL (Addr.add za4 2) fun x19 l20 c21 =>
          RDL (Addr.add za4 3) fun x22 l23 c24 =>
            WR (Addr.add za3 0) (.int .i64 n17) <|
              WR (Addr.add za3 1) (.int .i64 n18) <|
                WR (Addr.add za3 2) (.slice x19 l20 c21) <|
                  WR (Addr.add za3 3) (.slice x22 l23 c24) <|
                    RDI .i64 (Addr.add za3 0) fun n25 =>
                      RDI .i64 (Addr.add za3 1) fun n26 =>
                        RDL (Addr.add za3 2) fun x27 l28 c29 =>
                          RDL (Addr.add za3 3) fun x30 l31 c32 =>
                            R (.returned (.agg #[(.int .i64 n25), (.int .i64 n26), (.slice x27 l28 c29), (.slice x30 l31 c32)])))
theorem B_law10_RankEnds_c1_0_eq (W : World) (R : Ending → Hp → Prop) (zb0 : Bool) (za1 : Addr) (za2 : Addr) (za3 : Addr) (za4 : Addr) (zn5 : Int) (n15 : Int) (nx0 : List Value → Hp → Prop) (j : Tm) : vc Pg W 49 rs_36 an_36 false (sub (bodyOf Try.f36) [1, 1, 1, 0, 1, 0, 0]) 0 (KLoop [14] [0, 1, 2, 4, 5, 13, 49] [(.bool zb0), (.pointer (some za1)), (.pointer (some za2)), (.pointer (some za3)), (.pointer (some za4)), (.int .i64 zn5), (.tuple #[])] nx0 (KBlk 0 (KS Pg W 49 rs_36 an_36 false (sub (bodyOf Try.f36) [1, 1, 1, 1]) 0 (fin Pg W 49 rv_36 R)))) (known [14] [(.int .i64 n15)] (known [0, 1, 2, 4, 5, 13, 49] [(.bool zb0), (.pointer (some za1)), (.pointer (some za2)), (.pointer (some za3)), (.pointer (some za4)), (.int .i64 zn5), (.tuple #[])] j)) = B_law10_RankEnds_c1_0 W R zb0 za1 za2 za3 za4 zn5 n15 nx0 := by kernel_rfl
def N_law10_RankEnds_c1_0 (I : Int → Hp → Prop) (μ : Int → Hp → Nat) (n150 : Int) (s : Hp) (vs : List Value) : Hp → Prop := fun s' => ∃ n15, vs = [(.int .i64 n15)] ∧ I n15 s' ∧ μ n15 s' < μ n150 s
theorem L_law10_RankEnds_c1_0_rule (W : World) (R : Ending → Hp → Prop) (zb0 : Bool) (za1 : Addr) (za2 : Addr) (za3 : Addr) (za4 : Addr) (zn5 : Int) (I : Int → Hp → Prop) (μ : Int → Hp → Nat) (n150 : Int) (s : Hp) (h0 : I n150 s)
    (hr : ∀ (n15 : Int) (s : Hp), I n15 s → B_law10_RankEnds_c1_0 W R zb0 za1 za2 za3 za4 zn5 n15 (fun vs => N_law10_RankEnds_c1_0 I μ n15 s vs) s) : L_law10_RankEnds_c1_0 W R zb0 za1 za2 za3 za4 zn5 n150 s := by
  refine ⟨fun vs s => ∃ n15, vs = [(.int .i64 n15)] ∧ I n15 s, fun vs s => (match vs with | [.int _ n15] => μ n15 s | _ => 0), ⟨⟨⟨_, rfl⟩, trivial⟩, ⟨_, rfl, h0⟩⟩, ?_⟩
  intro n15 s hI j
  obtain ⟨n15', hy, hI⟩ := hI
  have hI' : I n15 s := by cases hy; exact hI
  have hh := hr n15 s hI'
  rw [← B_law10_RankEnds_c1_0_eq W R zb0 za1 za2 za3 za4 zn5 n15 _ j] at hh
  refine vc_mono ?_ _ _ hh
  exact KLoop_mono (fun vs s' h => by obtain ⟨n151, rfl, h1, h2⟩ := h; exact ⟨⟨⟨_, rfl⟩, trivial⟩, ⟨_, rfl, h1⟩, h2⟩)
def B_law10_RankEnds_c1_1 (W : World) (R : Ending → Hp → Prop) (nx0 : List Value → Hp → Prop) (zb0 : Bool) (za1 : Addr) (za2 : Addr) (za3 : Addr) (za4 : Addr) (zn5 : Int) (zn6 : Int) (zn7 : Int) (n33 : Int) (nx1 : List Value → Hp → Prop) : Hp → Prop :=
  BR (decide (n33 < zn7))
    (RDI .i64 (Addr.add za1 0) fun n34 =>
      RDI .i64 (Addr.add za1 1) fun n35 =>
        RDL (Addr.add za1 2) fun x36 l37 c38 =>
          RDL (Addr.add za1 3) fun x39 l40 c41 =>
            CALL Pg W F_ref10_Points [(.agg #[(.int .i64 n34), (.int .i64 n35), (.slice x36 l37 c38), (.slice x39 l40 c41)]), (.int .i64 zn5), (.int .i64 n33)]
              (fun v42 => AGG v42 fun q44 => HD q44 fun v45 r46 => TYI .i64 v45 fun n47 =>
                HD r46 fun v48 r49 => TYI .i64 v48 fun n50 =>
                  NL r49 <|
                    NEWZ Pg 29 fun B51 =>
                      WR (Addr.add ⟨B51, 0, none⟩ 0) (.int .i64 n47) <|
                        WR (Addr.add ⟨B51, 0, none⟩ 1) (.int .i64 n50) <|
                          RDI .i64 (Addr.add ⟨B51, 0, none⟩ 0) fun n52 =>
                            RDI .i64 za2 fun n53 =>
                              BR ((zn5 == n53) == zb0)
                                (RDI .i64 (Addr.add ⟨B51, 0, none⟩ 1) fun n54 =>
                                  J_law10_RankEnds_c1_0 W R za4 n54 zn5 n33 zb0 za1 za2 za3 zn6 zn7 nx1)
                                (J_law10_RankEnds_c1_0 W R za4 n52 zn5 n33 zb0 za1 za2 za3 zn6 zn7 nx1))
                (fun e43 => R (.panicked e43)))
    (NX [(.bool zb0), (.pointer (some za1)), (.pointer (some za2)), (.pointer (some za3)), (.pointer (some za4)), (.int .i64 zn6), (.tuple #[])] [(.bool zb0), (.pointer (some za1)), (.pointer (some za2)), (.pointer (some za3)), (.pointer (some za4)), (.int .i64 zn6), (.tuple #[])] (nx0 [(.int .i64 (IntKind.wrap .i64 (zn5 + 1)))]))
theorem B_law10_RankEnds_c1_1_eq (W : World) (R : Ending → Hp → Prop) (nx0 : List Value → Hp → Prop) (zb0 : Bool) (za1 : Addr) (za2 : Addr) (za3 : Addr) (za4 : Addr) (zn5 : Int) (zn6 : Int) (zn7 : Int) (n33 : Int) (nx1 : List Value → Hp → Prop) (j : Tm) : vc Pg W 49 rs_36 an_36 false (sub (bodyOf Try.f36) [1, 1, 1, 0, 1, 0, 0, 1, 1, 0, 0, 1, 1, 0, 0]) 2 (KLoop [19] [0, 1, 2, 4, 5, 6, 13, 14, 18, 49] [(.bool zb0), (.pointer (some za1)), (.pointer (some za2)), (.pointer (some za3)), (.pointer (some za4)), (.int .i64 zn5), (.int .i64 zn6), (.int .i64 zn5), (.int .i64 zn7), (.tuple #[])] nx1 (KBlk 2 (KBlk 1 (KS Pg W 49 rs_36 an_36 false (sub (bodyOf Try.f36) [1, 1, 1, 0, 1, 0, 0, 1, 1, 1]) 0 (KLoop [14] [0, 1, 2, 4, 5, 13, 49] [(.bool zb0), (.pointer (some za1)), (.pointer (some za2)), (.pointer (some za3)), (.pointer (some za4)), (.int .i64 zn6), (.tuple #[])] nx0 (KBlk 0 (KS Pg W 49 rs_36 an_36 false (sub (bodyOf Try.f36) [1, 1, 1, 1]) 0 (fin Pg W 49 rv_36 R)))))))) (known [19] [(.int .i64 n33)] (known [0, 1, 2, 4, 5, 6, 13, 14, 18, 49] [(.bool zb0), (.pointer (some za1)), (.pointer (some za2)), (.pointer (some za3)), (.pointer (some za4)), (.int .i64 zn5), (.int .i64 zn6), (.int .i64 zn5), (.int .i64 zn7), (.tuple #[])] j)) = B_law10_RankEnds_c1_1 W R nx0 zb0 za1 za2 za3 za4 zn5 zn6 zn7 n33 nx1 := by kernel_rfl
def N_law10_RankEnds_c1_1 (I : Int → Hp → Prop) (μ : Int → Hp → Nat) (n330 : Int) (s : Hp) (vs : List Value) : Hp → Prop := fun s' => ∃ n33, vs = [(.int .i64 n33)] ∧ I n33 s' ∧ μ n33 s' < μ n330 s
theorem L_law10_RankEnds_c1_1_rule (W : World) (R : Ending → Hp → Prop) (nx0 : List Value → Hp → Prop) (zb0 : Bool) (za1 : Addr) (za2 : Addr) (za3 : Addr) (za4 : Addr) (zn5 : Int) (zn6 : Int) (zn7 : Int) (I : Int → Hp → Prop) (μ : Int → Hp → Nat) (n330 : Int) (s : Hp) (h0 : I n330 s)
    (hr : ∀ (n33 : Int) (s : Hp), I n33 s → B_law10_RankEnds_c1_1 W R nx0 zb0 za1 za2 za3 za4 zn5 zn6 zn7 n33 (fun vs => N_law10_RankEnds_c1_1 I μ n33 s vs) s) : L_law10_RankEnds_c1_1 W R nx0 zb0 za1 za2 za3 za4 zn5 zn6 zn7 n330 s := by
  refine ⟨fun vs s => ∃ n33, vs = [(.int .i64 n33)] ∧ I n33 s, fun vs s => (match vs with | [.int _ n33] => μ n33 s | _ => 0), ⟨⟨⟨_, rfl⟩, trivial⟩, ⟨_, rfl, h0⟩⟩, ?_⟩
  intro n33 s hI j
  obtain ⟨n33', hy, hI⟩ := hI
  have hI' : I n33 s := by cases hy; exact hI
  have hh := hr n33 s hI'
  rw [← B_law10_RankEnds_c1_1_eq W R nx0 zb0 za1 za2 za3 za4 zn5 zn6 zn7 n33 _ j] at hh
  refine vc_mono ?_ _ _ hh
  exact KLoop_mono (fun vs s' h => by obtain ⟨n331, rfl, h1, h2⟩ := h; exact ⟨⟨⟨_, rfl⟩, trivial⟩, ⟨_, rfl, h1⟩, h2⟩)
def T_law10_RankEnds_c1 (W : World) (b1 : Bool) (a2 : Addr) (a3 : Addr) (R : Ending → Hp → Prop) : Hp → Prop :=
  NEWZ Pg 25 fun B4 =>
    RDI .i64 (Addr.add a2 0) fun n5 =>
      RDI .i64 (Addr.add a2 1) fun n6 =>
        RDL (Addr.add a2 2) fun x7 l8 c9 =>
          RDL (Addr.add a2 3) fun x10 l11 c12 =>
            NEWZ Pg 25 fun B13 =>
              WR (Addr.add ⟨B13, 0, none⟩ 0) (.int .i64 n5) <|
                WR (Addr.add ⟨B13, 0, none⟩ 1) (.int .i64 n6) <|
                  WR (Addr.add ⟨B13, 0, none⟩ 2) (.slice x7 l8 c9) <|
                    WR (Addr.add ⟨B13, 0, none⟩ 3) (.slice x10 l11 c12) <|
                      WR (Addr.add (Addr.add ⟨B13, 0, none⟩ 3) 0) (.slice none 0 0) <|
                        RDI .i64 (Addr.add a2 0) fun n14 =>
                          L_law10_RankEnds_c1_0 W R b1 a2 a3 ⟨B4, 0, none⟩ ⟨B13, 0, none⟩ n14 0
theorem T_law10_RankEnds_c1_eq (W : World) (b1 : Bool) (a2 : Addr) (a3 : Addr) (R : Ending → Hp → Prop) : vfun Pg W an_36 Try.f36 [(.bool b1), (.pointer (some a2)), (.pointer (some a3))] R = T_law10_RankEnds_c1 W b1 a2 a3 R := by kernel_rfl
theorem does_law10_RankEnds_c1 (W : World) (b1 : Bool) (a2 : Addr) (a3 : Addr) (R : Ending → Hp → Prop) (s : Hp) (h : T_law10_RankEnds_c1 W b1 a2 a3 R s) : Does Pg W F_law10_RankEnds_c1 #[(.bool b1), (.pointer (some a2)), (.pointer (some a3))] s R :=
  does_of_vfun Pg W an_36 Try.func36 rfl (by kernel_rfl) (by rw [T_law10_RankEnds_c1_eq]; exact h)
end Go.Proofs.Ytkgcbfbbcaajpaa.G

/- Rank: both ends of what is told: tables that are as good, or as bad, for one as can be. -/
set_option linter.unusedSimpArgs false
set_option linter.unusedVariables false
set_option maxRecDepth 20000
namespace Go.Proofs.Ytkgcbfbbcaajpaa.G
open Go.V
def loP (T : Tb) (i k : Nat) : Int := (pts (prs T) ((i : Int), (k : Int))).1
def hiP (T : Tb) (i k : Nat) : Int := (pts (prs T) ((i : Int), (k : Int))).2
theorem lowR_loP (T : Tb) (i : Nat) : lowR T i = rowG (loP T i) T.m (offT T i) := rfl
theorem topR_hiP (T : Tb) (i : Nat) : topR T i = rowG (hiP T i) T.m (offT T i) := rfl
theorem lo_hi {T : Tb} (hok : okT T = true) (i k : Nat) : 0 ≤ loP T i k ∧ loP T i k ≤ hiP T i k ∧ hiP T i k ≤ 40 := pts_in (okT_vd hok) _
def bestV (T : Tb) (a : Nat) (high : Bool) (i k : Nat) : Int := if decide (i = a) == high then hiP T i k else loP T i k
def bestT (T : Tb) (a : Nat) (high : Bool) : Tb := fillT T (bestV T a high)
theorem fill_n (T : Tb) (v : Nat → Nat → Int) : (fillT T v).n = T.n := rfl
theorem fill_m (T : Tb) (v : Nat → Nat → Int) : (fillT T v).m = T.m := rfl
theorem fill_off (T : Tb) (v : Nat → Nat → Int) (i : Nat) : offT (fillT T v) i = offT T i := rfl
theorem fill_low {T : Tb} {v : Nat → Nat → Int} {i : Nat} (hi : i < T.n) : lowR (fillT T v) i = rowG (v i) T.m (offT T i) := by
  rw [lowR_loP]
  refine rowG_congr fun k hk => ?_
  unfold loP
  rw [fillT_pts hi hk]
theorem fill_top {T : Tb} {v : Nat → Nat → Int} {i : Nat} (hi : i < T.n) : topR (fillT T v) i = rowG (v i) T.m (offT T i) := by
  rw [topR_hiP]
  refine rowG_congr fun k hk => ?_
  unfold hiP
  rw [fillT_pts hi hk]
theorem best_ok {T : Tb} (hok : okT T = true) (a : Nat) (high : Bool) : okT (bestT T a high) = true := fillT_ok hok fun i k _ _ => by
  have := lo_hi hok i k
  unfold bestV
  split <;> omega
theorem best_t (T : Tb) (a : Nat) : rowG (bestV T a true a) T.m (offT T a) = topR T a := by
  rw [topR_hiP]; refine rowG_congr fun k _ => ?_; unfold bestV; simp
theorem best_f (T : Tb) (a : Nat) : rowG (bestV T a false a) T.m (offT T a) = lowR T a := by
  rw [lowR_loP]; refine rowG_congr fun k _ => ?_; unfold bestV; simp
theorem best_t' (T : Tb) {a i : Nat} (h : i ≠ a) : rowG (bestV T a true i) T.m (offT T i) = lowR T i := by
  rw [lowR_loP]; refine rowG_congr fun k _ => ?_; unfold bestV; simp [h]
theorem best_f' (T : Tb) {a i : Nat} (h : i ≠ a) : rowG (bestV T a false i) T.m (offT T i) = topR T i := by
  rw [topR_hiP]; refine rowG_congr fun k _ => ?_; unfold bestV; simp [h]
theorem best_sum {T : Tb} {a : Nat} (ha : a < T.n) : sumT T a = ((sumT (bestT T a false) a).1, (sumT (bestT T a true) a).2) := by
  have e1 : lowR (bestT T a false) a = lowR T a := (fill_low ha).trans (best_f T a)
  have e2 : topR (bestT T a true) a = topR T a := (fill_top ha).trans (best_t T a)
  unfold sumT
  rw [e1, e2]
theorem best_plc {T : Tb} {a : Nat} (ha : a < T.n) : plcT T a = ((plcT (bestT T a true) a).1, (plcT (bestT T a false) a).2) := by
  rw [plcT_eq, plcT_eq, plcT_eq]
  have e1 : cntB (fun o => surT T o a) T.n = cntB (fun o => surT (bestT T a true) o a) (bestT T a true).n := cntB_ext fun o ho => by
    show surT T o a = surT (bestT T a true) o a
    rw [surT_eq, surT_eq]
    by_cases e : o = a
    · subst e; simp
    · unfold bestT
      rw [fill_low ho, fill_top ha, best_t' T e, best_t]
  have e2 : cntB (fun o => canT T o a) T.n = cntB (fun o => canT (bestT T a false) o a) (bestT T a false).n := cntB_ext fun o ho => by
    show canT T o a = canT (bestT T a false) o a
    rw [canT_eq, canT_eq]
    by_cases e : o = a
    · subst e; simp
    · unfold bestT
      rw [fill_top ho, fill_low ha, best_f' T e, best_f]
  rw [e1, e2]
theorem plc_lim {T : Tb} (hok : okT T = true) {a : Nat} (ha : a < T.n) : 1 ≤ (plcT T a).1 ∧ (plcT T a).1 ≤ (plcT T a).2 ∧ (plcT T a).2 ≤ T.n := by
  refine ⟨by rw [plcT_eq]; show (1 : Int) ≤ 1 + _; omega, plc_le hok a, ?_⟩
  have := cntB_lt (f := fun o => canT T o a) (g := fun _ => true) (canT_self T a) rfl T.n ha fun _ _ _ => rfl
  have h2 := cntB_le (fun _ => true) T.n
  rw [plcT_eq]
  show (1 : Int) + _ ≤ _
  omega
theorem eqP_iff {T : Tb} {a b : Nat} : eqP T a b = true ↔ (∀ k, k < T.m → loP T a k ≤ hiP T b k ∧ loP T b k ≤ hiP T a k) ∧ offT T a = offT T b := by
  unfold eqP
  rw [Bool.and_eq_true, decide_eq_true_eq, List.all_eq_true]
  constructor
  · rintro ⟨h1, h2⟩
    refine ⟨fun k hk => ?_, h2⟩
    have := h1 k (List.mem_range.2 hk)
    unfold ovl at this
    simp only [Bool.not_eq_true', Bool.or_eq_false_iff, decide_eq_false_iff_not] at this
    unfold loP hiP
    omega
  · rintro ⟨h1, h2⟩
    refine ⟨fun k hk => ?_, h2⟩
    have := h1 k (List.mem_range.1 hk)
    unfold loP hiP at this
    unfold ovl
    simp only [Bool.not_eq_true', Bool.or_eq_false_iff, decide_eq_false_iff_not]
    omega
theorem eqP_comm (T : Tb) (a b : Nat) : eqP T a b = eqP T b a := by
  have : ∀ a b, eqP T a b = true → eqP T b a = true := fun a b h => by
    obtain ⟨h1, h2⟩ := eqP_iff.1 h
    exact eqP_iff.2 ⟨fun k hk => ⟨(h1 k hk).2, (h1 k hk).1⟩, h2.symm⟩
  cases h : eqP T a b with
  | true => exact (this a b h).symm
  | false => cases h2 : eqP T b a with
    | false => rfl
    | true => rw [this b a h2] at h; cases h
theorem eqP_self {T : Tb} (hok : okT T = true) (a : Nat) : eqP T a a = true := eqP_iff.2 ⟨fun k _ => ⟨(lo_hi hok a k).2.1, (lo_hi hok a k).2.1⟩, rfl⟩
theorem sur_eq {T : Tb} (hok : okT T = true) (a b : Nat) : surT T a b = (!canT T b a && !eqP T a b) := by
  by_cases e : a = b
  · subst e; rw [surT_self, eqP_self hok]; simp
  · cases hs : surT T a b with
    | true =>
      rw [sur_not hs]
      cases he : eqP T a b with
      | false => rfl
      | true =>
        obtain ⟨h1, h2⟩ := eqP_iff.1 he
        have h3 := (surT_iff.1 hs).2
        rw [lowR_loP, topR_hiP, rowG_le (fun k hk => (h1 k hk).1) (by omega)] at h3
        cases h3
    | false =>
      rw [surT_eq, decide_eq_true e, Bool.true_and] at hs
      cases hc : canT T b a with
      | true => simp
      | false =>
        rw [canT_eq, decide_eq_true (show b ≠ a from fun h => e h.symm), Bool.true_and] at hc
        have h := ahead_tri _ _ (by rw [lowR_len, topR_len]) hs hc
        rw [lowR_loP, topR_hiP] at h
        obtain ⟨h1, h2⟩ := rowG_inj h
        have : eqP T a b = true := eqP_iff.2 ⟨fun k hk => ⟨by rw [h2 k hk]; omega, by
          have := lo_hi hok b k; have := lo_hi hok a k; have := h2 k hk; omega⟩, h1⟩
        rw [this]; simp
section
variable {W : World} {K : VK} {E : List PanicEntry → Hp → Prop} {s : Hp} {T : Tb}
theorem c_best {za zb : Addr} {a : Nat} {high : Bool} (hok : okT T = true) (ha : TbA s za T) (hb : cellAt s zb = some (.int .i64 a))
    (h : ∀ s' x c y c', Ext s s' → RowAt s' x (ints (bestT T a high).off) → ScAt s' y (bestT T a high).sc → K (.agg #[.int .i64 (bestT T a high).men, .int .i64 (bestT T a high).sheets, .slice x (bestT T a high).off.length c, .slice y (bestT T a high).sc.length c']) s') :
    CALLV Pg W (.func (.func 36) #[] #[.pointer (some za), .pointer (some zb)]) [.bool high] K E s := by
  have hn := men_n hok
  have hm := sheets_m hok
  obtain ⟨_, n6, _, m5⟩ := n_lim hok
  obtain ⟨_, _, _, _, h30, _⟩ := okT_iff.1 hok
  refine CALLV_func ?_
  refine does_law10_RankEnds_c1 W high za zb _ s ?_
  unfold T_law10_RankEnds_c1
  refine nz4 zc_25 fun s1 e1 z1 r0 r1 r2 r3 => ?_
  obtain ⟨x0, c0, y, c', g1, g2, g3, g4, hx0, hy⟩ := ha.all
  refine ⟨_, e1.cell g1, _, e1.cell g2, _, _, _, e1.cell g3, _, _, _, e1.cell g4, ?_⟩
  refine tbB_new (s0 := s) (kp := z4 s.size) e1 hx0 (z4_own r0 r1 r2 r3) fun s2 B e2 tb => ?_
  refine ⟨_, (ha.ext tb.ext).men, ?_⟩
  refine L_law10_RankEnds_c1_0_rule W _ high za zb ⟨s.size, 0, none⟩ ⟨B, 0, none⟩ T.men (fun n u => ∃ i : Nat, i ≤ T.n ∧ n = i ∧ TbB s u B T (fillL (bestV T a high) i T.m) (z4 s.size) noD (x0, c0)) (fun n _ => (T.n - n).toNat) 0 s2 ⟨0, by omega, rfl, tb⟩ ?_
  rintro n15 u ⟨i, hi, rfl, tbu⟩
  unfold B_law10_RankEnds_c1_0
  refine BR_dec (fun h1 => ?_) (fun h1 => ?_)
  · have hin : i < T.n := by omega
    have hll : ∀ k, k ≤ T.m → (fillL (bestV T a high) i T.m ++ fillR (bestV T a high) i k).length ≤ 1000 := fun k hk => by
      rw [List.length_append, fillL_len, fillR_len]
      have := Nat.mul_le_mul (show i ≤ 6 by omega) m5
      omega
    refine ⟨_, (ha.ext tbu.ext).sheets, ?_⟩
    refine L_law10_RankEnds_c1_1_rule W _ _ high za zb ⟨s.size, 0, none⟩ ⟨B, 0, none⟩ i T.men T.sheets (fun n v => ∃ k : Nat, k ≤ T.m ∧ n = k ∧ TbB s v B T (fillL (bestV T a high) i T.m ++ fillR (bestV T a high) i k) (z4 s.size) noD (x0, c0)) (fun n _ => (T.m - n).toNat) 0 u ⟨0, by omega, rfl, by rw [show fillR (bestV T a high) i 0 = [] from rfl, List.append_nil]; exact tbu⟩ ?_
    rintro n33 v ⟨k, hk, rfl, tbv⟩
    unfold B_law10_RankEnds_c1_1
    refine BR_dec (fun h2 => ?_) (fun h2 => ?_)
    · have hkm : k < T.m := by omega
      refine rdT (ha.ext tbv.ext) fun x c y c' hx hy => ?_
      refine f_Points hx hy (by omega) fun v1 f1 => ?_
      unfold spanV
      try simp only [TUP_mk, AGG_mk, HD_mk, NL_mk, TYI_mk, TYB_mk, TYP_mk, TYL_mk, TYS_mk, TYM_mk, SO_mk, NX_mk, endK_mk, endK_mk', add_0]
      refine nw2 zc_29 rfl rfl fun v2 f2 y2 p0 p1 => ?_
      have tb2 := (tbv.after f1).after f2
      refine ⟨_, p0.cell, _, tb2.ext.cell hb, ?_⟩
      have j0 : ∀ q, q = bestV T a high i k → J_law10_RankEnds_c1_0 W (endK K E) ⟨B, 0, none⟩ q i k high za zb ⟨s.size, 0, none⟩ T.men T.sheets (fun vs => N_law10_RankEnds_c1_1 (fun n v => ∃ k : Nat, k ≤ T.m ∧ n = k ∧ TbB s v B T (fillL (bestV T a high) i T.m ++ fillR (bestV T a high) i k) (z4 s.size) noD (x0, c0)) (fun n _ => (T.m - n).toNat) k v vs) v2 := by
        rintro q rfl
        unfold J_law10_RankEnds_c1_0
        obtain ⟨yy, cy, g1, _⟩ := tb2.sc
        refine ⟨_, _, _, g1.cell, ?_⟩
        refine c_span fun v3 f3 => ?_
        unfold spanV
        try simp only [TUP_mk, AGG_mk, HD_mk, NL_mk, TYI_mk, TYB_mk, TYP_mk, TYL_mk, TYS_mk, TYM_mk, SO_mk, NX_mk, endK_mk, endK_mk', add_0]
        refine ⟨⟨_, _, _, f3.cell g1.cell, rfl⟩, ?_⟩
        refine ne4 fun v4 f4 y4 d0 d1 d2 d3 => ?_
        have g4 := f4.cell (f3.cell g1.cell)
        refine ⟨⟨_, _, _, g4, rfl⟩, ?_⟩
        refine ((tb2.after f3).after f4).app (q := ⟨(i : Nat), (k : Nat), bestV T a high i k, bestV T a high i k⟩) g4 d0.cell d1.cell d2.cell d3.cell (hll k hk) fun v5 _ tb5 => ?_
        refine ⟨_, rfl, ⟨k + 1, by omega, wrap_succ (by omega), ?_⟩, ms_succ hkm (by omega)⟩
        rw [fillR_succ, ← List.append_assoc]; exact tb5
      have hcond : (((i : Int) == (a : Int)) == high) = (decide (i = a) == high) := by
        congr 1
        rw [Bool.beq_eq_decide_eq]
        congr 1
        exact propext ⟨fun h => by omega, fun h => by omega⟩
      dsimp only
      rw [hcond]
      refine BR_bool (fun hq => ?_) (fun hq => ?_)
      · refine ⟨_, p1.cell, j0 _ ?_⟩
        unfold bestV; rw [hq]; rfl
      · refine j0 _ ?_
        unfold bestV; rw [hq]; rfl
    · have hkm : k = T.m := by omega
      subst hkm
      refine ⟨rfl, _, rfl, ⟨i + 1, by omega, wrap_succ (by omega), ?_⟩, ms_succ hin (by omega)⟩
      rw [fillL_succ]; exact tbv
  · have hin : i = T.n := by omega
    subst hin
    exact tbu.ret (Nat.le_refl _) rfl fun s' y c' e hy _ => h s' x0 c0 y c' e (hx0.ext e) hy
/-- A call with the best table, or the worst one: any order of the variable, the closure and the call. -/
theorem ends_call {B29 B11 a : Nat} {hi : Bool} {g : FuncId} {res : Int × Int} {R : Ending → Hp → Prop} {KK : Option Addr → Int → Hp → Prop} (hok : okT T = true) (ta : TbA s ⟨B11, 0, none⟩ T) (hb : cellAt s ⟨B29, 0, none⟩ = some (.int .i64 a))
    (hg : ∀ (t : Hp) (x y : Option Addr) (c c' : Nat) (K : VK) (E : List PanicEntry → Hp → Prop), RowAt t x (ints (bestT T a hi).off) → ScAt t y (bestT T a hi).sc → (∀ s', Ext t s' → K (.tuple #[.agg #[.int .i64 res.1, .int .i64 res.2], .int .i64 0]) s') →
      CALL Pg W g [.agg #[.int .i64 (bestT T a hi).men, .int .i64 (bestT T a hi).sheets, .slice x (bestT T a hi).off.length c, .slice y (bestT T a hi).sc.length c'], .int .i64 a] K E t)
    (hK : ∀ t C, Ext s t → Own t ⟨C, 0, none⟩ (.int .i64 res.1) → Own t ⟨C, 1, none⟩ (.int .i64 res.2) → KK (some ⟨C, 0, none⟩) 0 t) :
    (
  RDI .i64 ⟨B29, 0, none⟩ fun n163 =>
    CONJ [
      CALLV Pg W (.func (.func 36) #[] #[(.pointer (some ⟨B11, 0, none⟩)), (.pointer (some ⟨B29, 0, none⟩))]) [(.bool hi)]
        (fun v164 => AGG v164 fun q166 => HD q166 fun v167 r168 => TYI .i64 v167 fun n169 =>
          HD r168 fun v170 r171 => TYI .i64 v170 fun n172 =>
            HD r171 fun v173 r174 => TYL v173 fun x175 l176 c177 =>
              HD r174 fun v178 r179 => TYL v178 fun x180 l181 c182 =>
                NL r179 <|
                  ANDS (RDI .i64 ⟨B29, 0, none⟩ fun n183 =>
                    fun _ => ((.int .i64 n183) : Value) = (.int .i64 n163)) <|
                    CONJ [
                      CALL Pg W g [(.agg #[(.int .i64 n169), (.int .i64 n172), (.slice x175 l176 c177), (.slice x180 l181 c182)]), (.int .i64 n163)]
                        (fun v184 => TUP v184 fun q186 => HD q186 fun v187 r188 => AGG v187 fun q189 => HD q189 fun v190 r191 => TYI .i64 v190 fun n192 =>
                          HD r191 fun v193 r194 => TYI .i64 v193 fun n195 =>
                            NL r194 <|
                              HD r188 fun v196 r197 => TYI .i64 v196 fun n198 =>
                                NL r197 <|
                                  NEWZ Pg 29 fun B199 =>
                                    ANDS (RDI .i64 ⟨B29, 0, none⟩ fun n200 =>
                                      fun _ => ((.int .i64 n200) : Value) = (.int .i64 n163)) <|
                                      WR (Addr.add ⟨B199, 0, none⟩ 0) (.int .i64 n192) <|
                                        WR (Addr.add ⟨B199, 0, none⟩ 1) (.int .i64 n195) <|
                                          KK (some ⟨B199, 0, none⟩) n198)
                          (fun e185 => R (.panicked e185)),
                      NEWZ Pg 29 fun B495 =>
                        ANDS (RDI .i64 ⟨B29, 0, none⟩ fun n496 =>
                          fun _ => ((.int .i64 n496) : Value) = (.int .i64 n163)) <|
                          CALL Pg W g [(.agg #[(.int .i64 n169), (.int .i64 n172), (.slice x175 l176 c177), (.slice x180 l181 c182)]), (.int .i64 n163)]
                            (fun v497 => TUP v497 fun q499 => HD q499 fun v500 r501 => AGG v500 fun q502 => HD q502 fun v503 r504 => TYI .i64 v503 fun n505 =>
                              HD r504 fun v506 r507 => TYI .i64 v506 fun n508 =>
                                NL r507 <|
                                  HD r501 fun v509 r510 => TYI .i64 v509 fun n511 =>
                                    NL r510 <|
                                      WR (Addr.add ⟨B495, 0, none⟩ 0) (.int .i64 n505) <|
                                        WR (Addr.add ⟨B495, 0, none⟩ 1) (.int .i64 n508) <|
                                          KK (some ⟨B495, 0, none⟩) n511)
                              (fun e498 => R (.panicked e498))])
          (fun e165 => R (.panicked e165)),
      NEWZ Pg 29 fun B512 =>
        ANDS (RDI .i64 ⟨B29, 0, none⟩ fun n513 =>
          fun _ => ((.int .i64 n513) : Value) = (.int .i64 n163)) <|
          CALLV Pg W (.func (.func 36) #[] #[(.pointer (some ⟨B11, 0, none⟩)), (.pointer (some ⟨B29, 0, none⟩))]) [(.bool hi)]
            (fun v514 => AGG v514 fun q516 => HD q516 fun v517 r518 => TYI .i64 v517 fun n519 =>
              HD r518 fun v520 r521 => TYI .i64 v520 fun n522 =>
                HD r521 fun v523 r524 => TYL v523 fun x525 l526 c527 =>
                  HD r524 fun v528 r529 => TYL v528 fun x530 l531 c532 =>
                    NL r529 <|
                      ANDS (RDI .i64 ⟨B29, 0, none⟩ fun n533 =>
                        fun _ => ((.int .i64 n533) : Value) = (.int .i64 n163)) <|
                        CALL Pg W g [(.agg #[(.int .i64 n519), (.int .i64 n522), (.slice x525 l526 c527), (.slice x530 l531 c532)]), (.int .i64 n163)]
                          (fun v534 => TUP v534 fun q536 => HD q536 fun v537 r538 => AGG v537 fun q539 => HD q539 fun v540 r541 => TYI .i64 v540 fun n542 =>
                            HD r541 fun v543 r544 => TYI .i64 v543 fun n545 =>
                              NL r544 <|
                                HD r538 fun v546 r547 => TYI .i64 v546 fun n548 =>
                                  NL r547 <|
                                    WR (Addr.add ⟨B512, 0, none⟩ 0) (.int .i64 n542) <|
                                      WR (Addr.add ⟨B512, 0, none⟩ 1) (.int .i64 n545) <|
                                        KK (some ⟨B512, 0, none⟩) n548)
                            (fun e535 => R (.panicked e535)))
              (fun e515 => R (.panicked e515))]) s := by
  refine ⟨_, hb, CONJ_two ?_ ?_⟩
  · refine c_best hok ta hb fun s1 x c y c' e1 hx hy => ?_
    try simp only [TUP_mk, AGG_mk, HD_mk, NL_mk, TYI_mk, TYB_mk, TYP_mk, TYL_mk, TYS_mk, TYM_mk, SO_mk, NX_mk, endK_mk, endK_mk', add_0]
    refine ⟨⟨_, e1.cell hb, rfl⟩, CONJ_two ?_ ?_⟩
    · refine hg s1 x y c c' _ _ hx hy fun s2 e2 => ?_
      try simp only [TUP_mk, AGG_mk, HD_mk, NL_mk, TYI_mk, TYB_mk, TYP_mk, TYL_mk, TYS_mk, TYM_mk, SO_mk, NX_mk, endK_mk, endK_mk', add_0]
      refine nz2 zc_29 fun s3 e3 z3 o0 o1 => ?_
      have e13 := e1.trans (e2.trans e3)
      refine ⟨⟨_, e13.cell hb, rfl⟩, ?_⟩
      refine wr2 rfl rfl (new2' o0 o1) fun s4 k4 z4 p0 p1 => ?_
      exact hK s4 _ (ext_kp e13 (Nat.le_trans e1.1 e2.1) k4) p0 p1
    · refine nz2 zc_29 fun s2 e2 z2 o0 o1 => ?_
      have e12 := e1.trans e2
      refine ⟨⟨_, e12.cell hb, rfl⟩, ?_⟩
      refine hg s2 x y c c' _ _ (hx.ext e2) (hy.ext e2) fun s3 e3 => ?_
      try simp only [TUP_mk, AGG_mk, HD_mk, NL_mk, TYI_mk, TYB_mk, TYP_mk, TYL_mk, TYS_mk, TYM_mk, SO_mk, NX_mk, endK_mk, endK_mk', add_0]
      refine wr2 rfl rfl (new2' (e3.own o0) (e3.own o1)) fun s4 k4 z4 p0 p1 => ?_
      exact hK s4 _ (ext_kp (e12.trans e3) e1.1 k4) p0 p1
  · refine nz2 zc_29 fun s2 e2 z2 o0 o1 => ?_
    refine ⟨⟨_, e2.cell hb, rfl⟩, ?_⟩
    refine c_best hok (ta.ext e2) (e2.cell hb) fun s1 x c y c' e1 hx hy => ?_
    try simp only [TUP_mk, AGG_mk, HD_mk, NL_mk, TYI_mk, TYB_mk, TYP_mk, TYL_mk, TYS_mk, TYM_mk, SO_mk, NX_mk, endK_mk, endK_mk', add_0]
    have e12 := e2.trans e1
    refine ⟨⟨_, e12.cell hb, rfl⟩, ?_⟩
    refine hg s1 x y c c' _ _ hx hy fun s3 e3 => ?_
    try simp only [TUP_mk, AGG_mk, HD_mk, NL_mk, TYI_mk, TYB_mk, TYP_mk, TYL_mk, TYS_mk, TYM_mk, SO_mk, NX_mk, endK_mk, endK_mk', add_0]
    have e13 := e1.trans e3
    refine wr2 rfl rfl (new2' (e13.own o0) (e13.own o1)) fun s4 k4 z4 p0 p1 => ?_
    exact hK s4 _ (ext_kp (e2.trans e13) (Nat.le_refl _) k4) p0 p1
end
end Go.Proofs.Ytkgcbfbbcaajpaa.G

/- Rank: tables whose scores all were read; the points. -/
set_option linter.unusedSimpArgs false
set_option linter.unusedVariables false
set_option maxRecDepth 20000
namespace Go.Proofs.Ytkgcbfbbcaajpaa.G
open Go.V
theorem zc_22 : zc Pg 22 = [.slice none 0 0] := by kernel_rfl
theorem row_byte {s : Hp} {y : Option Addr} {l : List Nat} {k : Nat} (hy : RowAt s y (bytes l)) (hk : k < l.length) : ∃ a, y = some a ∧ cellAt s (a.add (k * 1)) = some (.int .u8 ((l.getD k 0 : Nat) : Int)) := by
  have hkv : k < (bytes l).length := by rw [bytes_len]; exact hk
  obtain ⟨a, ha, g⟩ := hy k hkv
  rw [bytes_get hkv] at g
  have : l.getD k 0 = l[k] := by simp [List.getD, hk]
  rw [this]
  exact ⟨a, ha, g⟩
/-! ### Points of one's own -/
def rowsV (blk : Nat → Nat) (M l : Nat) : List Value := (List.range l).map fun i => .slice (some ⟨blk i, 0, none⟩) M M
theorem rowsV_len (blk : Nat → Nat) (M l : Nat) : (rowsV blk M l).length = l := by simp [rowsV]
theorem rowsV_get {blk : Nat → Nat} {M l i : Nat} (h : i < (rowsV blk M l).length) : (rowsV blk M l)[i] = .slice (some ⟨blk i, 0, none⟩) M M := by simp [rowsV]
structure PtB (lo : Nat) (s : Hp) (x : Option Addr) (l c M : Nat) (blk : Nat → Nat) (v : Nat → Nat → Int) : Prop where
  fr : Fr lo s x l c 1 (rowsV blk M l)
  lt : ∀ a, x = some a → a.block < s.size
  row : ∀ i, i < l → lo ≤ blk i ∧ blk i < s.size ∧ (∀ a, x = some a → blk i ≠ a.block) ∧ (∀ j, j < i → blk j ≠ blk i) ∧ ∀ k, k < M → Own s ⟨blk i, k, none⟩ (.int .i64 (v i k))
/-- Its blocks. -/
def PtD (x : Option Addr) (l : Nat) (blk : Nat → Nat) (q : Nat) : Prop := (∃ a, x = some a ∧ a.block = q) ∨ ∃ i, i < l ∧ blk i = q
/-- Points that can be read. -/
def PtA (s : Hp) (x : Option Addr) (l M : Nat) (v : Nat → Nat → Int) : Prop := ∀ i, i < l → ∃ a y c, x = some a ∧ cellAt s (a.add (i * 1)) = some (.slice y M c) ∧ RowAt s y (ints ((List.range M).map (v i)))
theorem PtA.ext {s s' : Hp} {x : Option Addr} {l M : Nat} {v : Nat → Nat → Int} (e : Ext s s') (h : PtA s x l M v) : PtA s' x l M v := fun i hi => by
  obtain ⟨a, y, c, h1, h2, h3⟩ := h i hi
  exact ⟨a, y, c, h1, e.cell h2, h3.ext e⟩
section
variable {lo : Nat} {s s' : Hp} {x : Option Addr} {l c M : Nat} {blk : Nat → Nat} {v : Nat → Nat → Int}
theorem PtA.rd {i k : Nat} {KK : Int → Hp → Prop} (h : PtA s x l M v) (hi : i < l) (hk : k < M) (hK : KK (v i k) s) :
    (IXS x l (i : Int) 1 fun a => RDL a fun x l c => IXS x l (k : Int) 1 fun a' => RDI .i64 a' KK) s := by
  obtain ⟨a, y, cy, rfl, h2, h3⟩ := h i hi
  refine IXS_nat hi ⟨_, _, _, h2, ?_⟩
  obtain ⟨a', rfl, g⟩ := row_int h3 (show k < _ by simpa using hk)
  refine IXS_nat hk ⟨_, g, ?_⟩
  have : ((List.range M).map (v i)).getD k 0 = v i k := by simp [List.getD, hk]
  rw [this]; exact hK
theorem PtB.ptA (h : PtB lo s x l c M blk v) : PtA s x l M v := fun i hi => by
  obtain ⟨a, ha, g⟩ := h.fr.row i (by rw [rowsV_len]; exact hi)
  rw [rowsV_get] at g
  refine ⟨a, _, _, ha, g, fun k hk => ?_⟩
  rw [ints_len] at hk
  have hk' : k < M := by simpa using hk
  refine ⟨_, rfl, ?_⟩
  rw [ints_get]
  have := ((h.row i hi).2.2.2.2 k hk').cell
  simpa [add_nil] using this
theorem PtB.kp {D : Nat → Prop} (k : Kp D s s') (hD : ∀ q, PtD x l blk q → ¬ D q) (h : PtB lo s x l c M blk v) : PtB lo s' x l c M blk v where
  fr := h.fr.kp k fun a ha => hD _ (.inl ⟨a, ha, rfl⟩)
  lt := fun a ha => Nat.lt_of_lt_of_le (h.lt a ha) k.1
  row := fun i hi => by
    obtain ⟨h1, h2, h3, h4, h5⟩ := h.row i hi
    exact ⟨h1, Nat.lt_of_lt_of_le h2 k.1, h3, h4, fun j hj => k.own (hD _ (.inr ⟨i, hi, rfl⟩)) (h5 j hj)⟩
theorem PtB.ext (e : Ext s s') (h : PtB lo s x l c M blk v) : PtB lo s' x l c M blk v := h.kp (D := noD) e.kp fun q _ hd => hd
theorem PtB.dlt (h : PtB lo s x l c M blk v) {q : Nat} (hq : PtD x l blk q) : q < s.size ∧ lo ≤ q := by
  rcases hq with ⟨a, ha, rfl⟩ | ⟨i, hi, rfl⟩
  · exact ⟨h.lt a ha, h.fr.fr a ha⟩
  · exact ⟨(h.row i hi).2.1, (h.row i hi).1⟩
/-- One more row, all of whose points are 0. -/
theorem PtB.add {b C : Nat} {KK : Option Addr → Nat → Nat → Hp → Prop} (h : PtB lo s x l c M blk v) (hlo : lo ≤ s.size) (hv : ∀ k, k < M → v l k = 0) (hb : blk l = b) (hbl : lo ≤ b) (hbn : ¬ PtD x l blk b) (hbs : b < s.size) (hz : ∀ k, k < M → Own s ⟨b, k, none⟩ (.int .i64 0))
    (hC : cellAt s ⟨C, 0, none⟩ = some (.slice (some ⟨b, 0, none⟩) M M)) (hl : l ≤ 1000)
    (hK : ∀ s' x' c', Kp (PtD x l blk) s s' → (∀ q, PtD x' (l + 1) blk q → PtD x l blk q ∨ q = b ∨ s.size ≤ q) → PtB lo s' x' (l + 1) c' M blk v → KK x' (l + 1) c' s') :
    APP Pg 22 1 x l c (some ⟨C, 0, none⟩) 1 KK s := by
  subst hb
  have hrv : rowsV blk M (l + 1) = rowsV blk M l ++ [.slice (some ⟨blk l, 0, none⟩) M M] := by unfold rowsV; rw [List.range_succ, List.map_append]; rfl
  refine APP_fr (ws := [.slice (some ⟨blk l, 0, none⟩) M M]) h.fr hlo ?_ rfl zc_22 rfl (by omega) (by simp [oneCell]) (by omega) fun s' x' c' k g f => ?_
  · intro i hi
    have hi0 : i = 0 := by simpa using hi
    subst hi0
    exact ⟨_, rfl, hC⟩
  · rw [← hrv] at f
    have hpos : 0 < (rowsV blk M (l + 1)).length := by rw [rowsV_len]; omega
    have nl : ∀ q, (∃ a, x = some a ∧ a.block = q) → PtD x l blk q := fun q h => .inl h
    refine hK s' x' c' (k.mono nl) (fun q hq => ?_) ⟨f, fun a ha => ?_, fun i hi => ?_⟩
    · rcases hq with ⟨a, ha, rfl⟩ | ⟨i, hi, rfl⟩
      · rcases g a ha with ⟨a', h1, h2⟩ | h1
        · exact .inl (.inl ⟨a', h1, h2⟩)
        · exact .inr (.inr h1)
      · by_cases e : i = l
        · subst e; exact .inr (.inl rfl)
        · exact .inl (.inr ⟨i, by omega, rfl⟩)
    · subst ha; exact (f.buf.at hpos).lt
    · by_cases e : i = l
      · subst e
        refine ⟨hbl, Nat.lt_of_lt_of_le hbs k.1, fun a ha => ?_, fun j hj he => hbn (.inr ⟨j, hj, he⟩), fun j hj => ?_⟩
        · rcases g a ha with ⟨a', h1, h2⟩ | h1
          · exact fun he => hbn (.inl ⟨a', h1, by rw [h2, he]⟩)
          · omega
        · rw [hv j hj]
          exact k.own (fun ⟨a, ha, hq⟩ => hbn (.inl ⟨a, ha, hq⟩)) (hz j hj)
      · obtain ⟨h1, h2, h3, h4, h5⟩ := h.row i (by omega)
        refine ⟨h1, Nat.lt_of_lt_of_le h2 k.1, fun a ha => ?_, h4, fun j hj => k.own (fun ⟨a, ha, hq⟩ => h3 a ha hq.symm) (h5 j hj)⟩
        rcases g a ha with ⟨a', h6, h7⟩ | h6
        · rw [← h7]; exact h3 a' h6
        · omega
/-- A point is written. -/
theorem PtB.set {i k : Nat} {n : Int} {KK : Hp → Prop} (h : PtB lo s x l c M blk v) (hi : i < l) (hk : k < M)
    (hK : ∀ s', Kp (PtD x l blk) s s' → s'.size = s.size → PtB lo s' x l c M blk (fun i' k' => if i' = i ∧ k' = k then n else v i' k') → KK s') :
    (IXS x l (i : Int) 1 fun a => RDL a fun x l c => IXS x l (k : Int) 1 fun a' => WR (Addr.add a' 0) (.int .i64 n) KK) s := by
  obtain ⟨a, ha, g⟩ := h.fr.row i (by rw [rowsV_len]; exact hi)
  rw [rowsV_get] at g
  subst ha
  refine IXS_nat hi ⟨_, _, _, g, IXS_nat hk ?_⟩
  obtain ⟨h1, h2, h3, h4, h5⟩ := h.row i hi
  have ho := h5 k hk
  rw [add_nil, Nat.zero_add, Nat.mul_one]
  refine WR_own (a := ⟨blk i, k, none⟩) ho rfl (hK _ (Kp.setC (Kp.refl _) (.inl (.inr ⟨i, hi, rfl⟩))) (setC_size _ _ _) ⟨h.fr.kp (D := (· = blk i)) (Kp.setC (Kp.refl _) (.inl rfl)) (fun a ha he => h3 a ha he.symm), fun a ha => by rw [setC_size]; exact h.lt a ha, fun i' hi' => ?_⟩)
  obtain ⟨g1, g2, g3, g4, g5⟩ := h.row i' hi'
  refine ⟨g1, by rw [setC_size]; exact g2, g3, g4, fun k' hk' => ?_⟩
  by_cases e : i' = i
  · subst e
    by_cases e2 : k' = k
    · subst e2
      rw [if_pos ⟨rfl, rfl⟩]; exact own_set ho
    · rw [if_neg (fun hh => e2 hh.2)]
      exact own_set_ne (.inr e2) (g5 k' hk')
  · rw [if_neg (fun hh => e hh.1)]
    refine own_set_ne (.inl ?_) (g5 k' hk')
    show blk i' ≠ blk i
    rcases Nat.lt_or_gt_of_ne e with hlt | hgt
    · exact h4 i' hlt
    · exact fun he => g4 i hgt he.symm
end
theorem PtB.congr {lo : Nat} {s : Hp} {x : Option Addr} {l c M : Nat} {blk blk' : Nat → Nat} {v v' : Nat → Nat → Int} (hb : ∀ i, i < l → blk i = blk' i) (hv : ∀ i k, i < l → k < M → v i k = v' i k) (h : PtB lo s x l c M blk v) : PtB lo s x l c M blk' v' where
  fr := by
    have : rowsV blk M l = rowsV blk' M l := List.map_congr_left fun i hi => by rw [hb i (List.mem_range.1 hi)]
    rw [← this]; exact h.fr
  lt := h.lt
  row := fun i hi => by
    obtain ⟨h1, h2, h3, h4, h5⟩ := h.row i hi
    rw [← hb i hi]
    exact ⟨h1, h2, h3, fun j hj => by rw [← hb j (by omega)]; exact h4 j hj, fun k hk => by rw [← hv i k hi hk]; exact h5 k hk⟩
theorem PtD.congr {x : Option Addr} {l : Nat} {blk blk' : Nat → Nat} (hb : ∀ i, i < l → blk i = blk' i) {q : Nat} (h : PtD x l blk q) : PtD x l blk' q := by
  rcases h with h | ⟨i, hi, rfl⟩
  · exact .inl h
  · exact .inr ⟨i, hi, (hb i hi).symm⟩
/-! ### filled -/
def fillV (T : Tb) (bs : List Nat) (i k : Nat) : Int :=
  if bs.length = 0 then loP T i k else
    if (bs.getD ((i * T.m + k) % bs.length) 0 + 11 * (i * T.m + k)) % 3 = 0 then hiP T i k else
      if (bs.getD ((i * T.m + k) % bs.length) 0 + 11 * (i * T.m + k)) % 3 = 1 then loP T i k + ((((bs.getD ((i * T.m + k) % bs.length) 0 + 11 * (i * T.m + k)) / 3) % (hiP T i k - loP T i k + 1).toNat : Nat) : Int) else loP T i k
theorem fillV_in {T : Tb} (hok : okT T = true) (bs : List Nat) (i k : Nat) : loP T i k ≤ fillV T bs i k ∧ fillV T bs i k ≤ hiP T i k := by
  have := lo_hi hok i k
  unfold fillV
  split
  · omega
  · split
    · omega
    · split
      · have hm := Nat.mod_lt ((bs.getD ((i * T.m + k) % bs.length) 0 + 11 * (i * T.m + k)) / 3) (show (hiP T i k - loP T i k + 1).toNat > 0 by omega)
        omega
      · omega
theorem fillV_ok {T : Tb} (hok : okT T = true) (bs : List Nat) : okT (fillT T (fillV T bs)) = true := fillT_ok hok fun i k _ _ => by
  have := lo_hi hok i k
  have := fillV_in hok bs i k
  omega
end Go.Proofs.Ytkgcbfbbcaajpaa.G

/- More of the functions' shallow texts, by gen.py. -/
set_option linter.unusedVariables false
set_option maxRecDepth 100000
namespace Go.Proofs.Ytkgcbfbbcaajpaa.G
open Go.V
def an_32 : Nat → Ann := fun b => match b with
  | 0 => { ms := [5, 6, 16], ks := [.l, .i .i64, .i .i64], us := [1, 2, 4, 15, 94], rt := false, ex := [] }
  | 2 => { ms := [6, 27], ks := [.i .i64, .i .i64], us := [1, 2, 4, 5, 7, 15, 16, 26, 94], rt := false, ex := [] }
  | _ => {}
abbrev rv_32 : List ResultVar := [.cell 4 25, .tmp 5]
abbrev rs_32 : List Nat := [94, 4, 5]
def L_law10_filled_0 (W : World) (R : Ending → Hp → Prop) (zp0 : Option Addr) (zl1 : Nat) (zl2 : Nat) (za3 : Addr) (za4 : Addr) (zn5 : Int) (x23 : Option Addr) (l24 : Nat) (c25 : Nat) (n26 : Int) (n27 : Int) : Hp → Prop :=
  LOOPN [.l, .i .i64, .i .i64] (fun ys next s => ∀ j : Tm, vc Pg W 94 rs_32 an_32 false (sub (bodyOf Try.f32) [1, 1, 1, 1, 0, 1, 0, 0]) 0 (KLoop [5, 6, 16] [1, 2, 4, 15, 94] [(.slice zp0 zl1 zl2), (.pointer (some za3)), (.pointer (some za4)), (.int .i64 zn5), (.tuple #[])] next (KBlk 0 (KS Pg W 94 rs_32 an_32 false (sub (bodyOf Try.f32) [1, 1, 1, 1, 1]) 0 (fin Pg W 94 rv_32 R)))) (known [5, 6, 16] ys (known [1, 2, 4, 15, 94] [(.slice zp0 zl1 zl2), (.pointer (some za3)), (.pointer (some za4)), (.int .i64 zn5), (.tuple #[])] j)) s) [(.slice x23 l24 c25), (.int .i64 n26), (.int .i64 n27)]
def L_law10_filled_1 (W : World) (R : Ending → Hp → Prop) (nx0 : List Value → Hp → Prop) (zp0 : Option Addr) (zl1 : Nat) (zl2 : Nat) (za3 : Addr) (za4 : Addr) (zp5 : Option Addr) (zl6 : Nat) (zl7 : Nat) (zn8 : Int) (zn9 : Int) (zn10 : Int) (n51 : Int) (n52 : Int) : Hp → Prop :=
  LOOPN [.i .i64, .i .i64] (fun ys next s => ∀ j : Tm, vc Pg W 94 rs_32 an_32 false (sub (bodyOf Try.f32) [1, 1, 1, 1, 0, 1, 0, 0, 1, 1, 0, 0, 1, 1, 1, 0, 0]) 2 (KLoop [6, 27] [1, 2, 4, 5, 7, 15, 16, 26, 94] [(.slice zp0 zl1 zl2), (.pointer (some za3)), (.pointer (some za4)), (.slice zp5 zl6 zl7), (.int .i64 zn8), (.int .i64 zn9), (.int .i64 zn8), (.int .i64 zn10), (.tuple #[])] next (KBlk 2 (KBlk 1 (KS Pg W 94 rs_32 an_32 false (sub (bodyOf Try.f32) [1, 1, 1, 1, 0, 1, 0, 0, 1, 1, 1]) 0 (KLoop [5, 6, 16] [1, 2, 4, 15, 94] [(.slice zp0 zl1 zl2), (.pointer (some za3)), (.pointer (some za4)), (.int .i64 zn9), (.tuple #[])] nx0 (KBlk 0 (KS Pg W 94 rs_32 an_32 false (sub (bodyOf Try.f32) [1, 1, 1, 1, 1]) 0 (fin Pg W 94 rv_32 R)))))))) (known [6, 27] ys (known [1, 2, 4, 5, 7, 15, 16, 26, 94] [(.slice zp0 zl1 zl2), (.pointer (some za3)), (.pointer (some za4)), (.slice zp5 zl6 zl7), (.int .i64 zn8), (.int .i64 zn9), (.int .i64 zn8), (.int .i64 zn10), (.tuple #[])] j)) s) [(.int .i64 n51), (.int .i64 n52)]
def J_law10_filled_0 (W : World) (R : Ending → Hp → Prop) (zp5 : Option Addr) (zl6 : Nat) (zn8 : Int) (n52 : Int) (n75 : Int) (za4 : Addr) (zp0 : Option Addr) (zl1 : Nat) (zl2 : Nat) (za3 : Addr) (zl7 : Nat) (zn9 : Int) (zn10 : Int) (nx1 : List Value → Hp → Prop) (n51 : Int) : Hp → Prop :=
  IXS zp5 zl6 zn8 1 fun a76 =>
    RDL a76 fun x77 l78 c79 =>
      IXS x77 l78 n52 1 fun a80 =>
        WR (Addr.add a80 0) (.int .i64 n75) <|
          RDL (Addr.add za4 3) fun x81 l82 c83 =>
            CALL Pg W F_law10_span [(.int .i64 n75), (.int .i64 n75)]
              (fun v84 => AGG v84 fun q86 => HD q86 fun v87 r88 => TYI .i64 v87 fun n89 =>
                HD r88 fun v90 r91 => TYI .i64 v90 fun n92 =>
                  NL r91 <|
                    ANDS (RDL (Addr.add za4 3) fun x93 l94 c95 =>
                      fun _ => ((.slice x93 l94 c95) : Value) = (.slice x81 l82 c83)) <|
                      NEW 55 [(.int .i64 zn8), (.int .i64 n52), (.int .i64 n89), (.int .i64 n92)] fun B96 =>
                        ANDS (RDL (Addr.add za4 3) fun x97 l98 c99 =>
                          fun _ => ((.slice x97 l98 c99) : Value) = (.slice x81 l82 c83)) <|
                          APP Pg 55 4 x81 l82 c83 (some ⟨B96, 0, none⟩) 1 fun x100 l101 c102 =>
                            WR (Addr.add (Addr.add za4 3) 0) (.slice x100 l101 c102) <|
                              NX [(.slice zp0 zl1 zl2), (.pointer (some za3)), (.pointer (some za4)), (.slice zp5 zl6 zl7), (.int .i64 zn8), (.int .i64 zn9), (.int .i64 zn8), (.int .i64 zn10), (.tuple #[])] [(.slice zp0 zl1 zl2), (.pointer (some za3)), (.pointer (some za4)), (.slice zp5 zl6 zl7), (.int .i64 zn8), (.int .i64 zn9), (.int .i64 zn8), (.int .i64 zn10), (.tuple #[])] (nx1 [(.int .i64 (IntKind.wrap .i64 (n51 + 1))), (.int .i64 (IntKind.wrap .i64 (n52 + 1)))]))
                (fun e85 => R (.panicked e85))
def B_law10_filled_0 (W : World) (R : Ending → Hp → Prop) (zp0 : Option Addr) (zl1 : Nat) (zl2 : Nat) (za3 : Addr) (za4 : Addr) (zn5 : Int) (x23 : Option Addr) (l24 : Nat) (c25 : Nat) (n26 : Int) (n27 : Int) (nx0 : List Value → Hp → Prop) : Hp → Prop :=
  BR (decide (n27 < zn5))
    (RDI .i64 (Addr.add za3 1) fun n28 =>
      MKS Pg 3 n28 n28 fun B29 =>
        NEW 22 [(.slice (some ⟨B29, 0, none⟩) (Int.toNat n28) (Int.toNat n28))] fun B30 =>
          APP Pg 22 1 x23 l24 c25 (some ⟨B30, 0, none⟩) 1 fun x31 l32 c33 =>
            RDI .i64 (Addr.add za3 1) fun n34 =>
              L_law10_filled_1 W R nx0 zp0 zl1 zl2 za3 za4 x31 l32 c33 n27 zn5 n34 n26 0)
    (RDI .i64 (Addr.add za4 0) fun n35 =>
      RDI .i64 (Addr.add za4 1) fun n36 =>
        RDL (Addr.add za4 2) fun x37 l38 c39 =>
          RDL (Addr.add za4 3) fun x40 l41 c42 =>
            WR (Addr.add za4 0) (.int .i64 n35) <|
              WR (Addr.add za4 1) (.int .i64 n36) <|
                WR (Addr.add za4 2) (.slice x37 l38 c39) <|
                  WR (Addr.add za4 3) (.slice x40 l41 c42) <|
                    RDI .i64 (Addr.add za4 0) fun n43 =>
                      RDI .i64 (Addr.add za4 1) fun n44 =>
                        RDL (Addr.add za4 2) fun x45 l46 c47 =>
                          RDL (Addr.add za4 3) fun x48 l49 c50 =>
                            R (.returned (.tuple #[(.agg #[(.int .i64 n43), (.int .i64 n44), (.slice x45 l46 c47), (.slice x48 l49 c50)]), (.slice x23 l24 c25)])))
theorem B_law10_filled_0_eq (W : World) (R : Ending → Hp → Prop) (zp0 : Option Addr) (zl1 : Nat) (zl2 : Nat) (za3 : Addr) (za4 : Addr) (zn5 : Int) (x23 : Option Addr) (l24 : Nat) (c25 : Nat) (n26 : Int) (n27 : Int) (nx0 : List Value → Hp → Prop) (j : Tm) : vc Pg W 94 rs_32 an_32 false (sub (bodyOf Try.f32) [1, 1, 1, 1, 0, 1, 0, 0]) 0 (KLoop [5, 6, 16] [1, 2, 4, 15, 94] [(.slice zp0 zl1 zl2), (.pointer (some za3)), (.pointer (some za4)), (.int .i64 zn5), (.tuple #[])] nx0 (KBlk 0 (KS Pg W 94 rs_32 an_32 false (sub (bodyOf Try.f32) [1, 1, 1, 1, 1]) 0 (fin Pg W 94 rv_32 R)))) (known [5, 6, 16] [(.slice x23 l24 c25), (.int .i64 n26), (.int .i64 n27)] (known [1, 2, 4, 15, 94] [(.slice zp0 zl1 zl2), (.pointer (some za3)), (.pointer (some za4)), (.int .i64 zn5), (.tuple #[])] j)) = B_law10_filled_0 W R zp0 zl1 zl2 za3 za4 zn5 x23 l24 c25 n26 n27 nx0 := by kernel_rfl
def N_law10_filled_0 (I : Option Addr → Nat → Nat → Int → Int → Hp → Prop) (μ : Option Addr → Nat → Nat → Int → Int → Hp → Nat) (x230 : Option Addr) (l240 : Nat) (c250 : Nat) (n260 : Int) (n270 : Int) (s : Hp) (vs : List Value) : Hp → Prop := fun s' => ∃ x23 l24 c25 n26 n27, vs = [(.slice x23 l24 c25), (.int .i64 n26), (.int .i64 n27)] ∧ I x23 l24 c25 n26 n27 s' ∧ μ x23 l24 c25 n26 n27 s' < μ x230 l240 c250 n260 n270 s
theorem L_law10_filled_0_rule (W : World) (R : Ending → Hp → Prop) (zp0 : Option Addr) (zl1 : Nat) (zl2 : Nat) (za3 : Addr) (za4 : Addr) (zn5 : Int) (I : Option Addr → Nat → Nat → Int → Int → Hp → Prop) (μ : Option Addr → Nat → Nat → Int → Int → Hp → Nat) (x230 : Option Addr) (l240 : Nat) (c250 : Nat) (n260 : Int) (n270 : Int) (s : Hp) (h0 : I x230 l240 c250 n260 n270 s)
    (hr : ∀ (x23 : Option Addr) (l24 : Nat) (c25 : Nat) (n26 : Int) (n27 : Int) (s : Hp), I x23 l24 c25 n26 n27 s → B_law10_filled_0 W R zp0 zl1 zl2 za3 za4 zn5 x23 l24 c25 n26 n27 (fun vs => N_law10_filled_0 I μ x23 l24 c25 n26 n27 s vs) s) : L_law10_filled_0 W R zp0 zl1 zl2 za3 za4 zn5 x230 l240 c250 n260 n270 s := by
  refine ⟨fun vs s => ∃ x23 l24 c25 n26 n27, vs = [(.slice x23 l24 c25), (.int .i64 n26), (.int .i64 n27)] ∧ I x23 l24 c25 n26 n27 s, fun vs s => (match vs with | [.slice x23 l24 c25, .int _ n26, .int _ n27] => μ x23 l24 c25 n26 n27 s | _ => 0), ⟨⟨⟨_, _, _, rfl⟩, ⟨⟨_, rfl⟩, ⟨⟨_, rfl⟩, trivial⟩⟩⟩, ⟨_, _, _, _, _, rfl, h0⟩⟩, ?_⟩
  intro x23 l24 c25 n26 n27 s hI j
  obtain ⟨x23', l24', c25', n26', n27', hy, hI⟩ := hI
  have hI' : I x23 l24 c25 n26 n27 s := by cases hy; exact hI
  have hh := hr x23 l24 c25 n26 n27 s hI'
  rw [← B_law10_filled_0_eq W R zp0 zl1 zl2 za3 za4 zn5 x23 l24 c25 n26 n27 _ j] at hh
  refine vc_mono ?_ _ _ hh
  exact KLoop_mono (fun vs s' h => by obtain ⟨x231, l241, c251, n261, n271, rfl, h1, h2⟩ := h; exact ⟨⟨⟨_, _, _, rfl⟩, ⟨⟨_, rfl⟩, ⟨⟨_, rfl⟩, trivial⟩⟩⟩, ⟨_, _, _, _, _, rfl, h1⟩, h2⟩)
def B_law10_filled_1 (W : World) (R : Ending → Hp → Prop) (nx0 : List Value → Hp → Prop) (zp0 : Option Addr) (zl1 : Nat) (zl2 : Nat) (za3 : Addr) (za4 : Addr) (zp5 : Option Addr) (zl6 : Nat) (zl7 : Nat) (zn8 : Int) (zn9 : Int) (zn10 : Int) (n51 : Int) (n52 : Int) (nx1 : List Value → Hp → Prop) : Hp → Prop :=
  BR (decide (n52 < zn10))
    (RDI .i64 (Addr.add za3 0) fun n53 =>
      RDI .i64 (Addr.add za3 1) fun n54 =>
        RDL (Addr.add za3 2) fun x55 l56 c57 =>
          RDL (Addr.add za3 3) fun x58 l59 c60 =>
            CALL Pg W F_ref10_Points [(.agg #[(.int .i64 n53), (.int .i64 n54), (.slice x55 l56 c57), (.slice x58 l59 c60)]), (.int .i64 zn8), (.int .i64 n52)]
              (fun v61 => AGG v61 fun q63 => HD q63 fun v64 r65 => TYI .i64 v64 fun n66 =>
                HD r65 fun v67 r68 => TYI .i64 v67 fun n69 =>
                  NL r68 <|
                    NEWZ Pg 29 fun B70 =>
                      WR (Addr.add ⟨B70, 0, none⟩ 0) (.int .i64 n66) <|
                        WR (Addr.add ⟨B70, 0, none⟩ 1) (.int .i64 n69) <|
                          RDI .i64 (Addr.add ⟨B70, 0, none⟩ 0) fun n71 =>
                            BR (decide ((↑zl1 : Int) > 0))
                              (NZI (↑zl1 : Int) <|
                                IXS zp0 zl1 (Int.tmod n51 (↑zl1 : Int)) 1 fun a72 =>
                                  RDI .u8 a72 fun n73 =>
                                    BR ((Int.tmod (IntKind.wrap .i64 ((IntKind.wrap .i64 n73) + (IntKind.wrap .i64 (11 * n51)))) 3) == 0)
                                      (RDI .i64 (Addr.add ⟨B70, 0, none⟩ 1) fun n74 =>
                                        J_law10_filled_0 W R zp5 zl6 zn8 n52 n74 za4 zp0 zl1 zl2 za3 zl7 zn9 zn10 nx1 n51)
                                      (BR ((Int.tmod (IntKind.wrap .i64 ((IntKind.wrap .i64 n73) + (IntKind.wrap .i64 (11 * n51)))) 3) == 1)
                                        (RDI .i64 (Addr.add ⟨B70, 0, none⟩ 0) fun n103 =>
                                          RDI .i64 (Addr.add ⟨B70, 0, none⟩ 1) fun n104 =>
                                            RDI .i64 (Addr.add ⟨B70, 0, none⟩ 0) fun n105 =>
                                              NZI (IntKind.wrap .i64 ((IntKind.wrap .i64 (n104 - n105)) + 1)) <|
                                                J_law10_filled_0 W R zp5 zl6 zn8 n52 (IntKind.wrap .i64 (n103 + (Int.tmod (IntKind.wrap .i64 (Int.tdiv (IntKind.wrap .i64 ((IntKind.wrap .i64 n73) + (IntKind.wrap .i64 (11 * n51)))) 3)) (IntKind.wrap .i64 ((IntKind.wrap .i64 (n104 - n105)) + 1))))) za4 zp0 zl1 zl2 za3 zl7 zn9 zn10 nx1 n51)
                                        (J_law10_filled_0 W R zp5 zl6 zn8 n52 n71 za4 zp0 zl1 zl2 za3 zl7 zn9 zn10 nx1 n51)))
                              (J_law10_filled_0 W R zp5 zl6 zn8 n52 n71 za4 zp0 zl1 zl2 za3 zl7 zn9 zn10 nx1 n51))
                (fun e62 => R (.panicked e62)))
    (NX [(.slice zp0 zl1 zl2), (.pointer (some za3)), (.pointer (some za4)), (.int .i64 zn9), (.tuple #[])] [(.slice zp0 zl1 zl2), (.pointer (some za3)), (.pointer (some za4)), (.int .i64 zn9), (.tuple #[])] (nx0 [(.slice zp5 zl6 zl7), (.int .i64 n51), (.int .i64 (IntKind.wrap .i64 (zn8 + 1)))]))
theorem B_law10_filled_1_eq (W : World) (R : Ending → Hp → Prop) (nx0 : List Value → Hp → Prop) (zp0 : Option Addr) (zl1 : Nat) (zl2 : Nat) (za3 : Addr) (za4 : Addr) (zp5 : Option Addr) (zl6 : Nat) (zl7 : Nat) (zn8 : Int) (zn9 : Int) (zn10 : Int) (n51 : Int) (n52 : Int) (nx1 : List Value → Hp → Prop) (j : Tm) : vc Pg W 94 rs_32 an_32 false (sub (bodyOf Try.f32) [1, 1, 1, 1, 0, 1, 0, 0, 1, 1, 0, 0, 1, 1, 1, 0, 0]) 2 (KLoop [6, 27] [1, 2, 4, 5, 7, 15, 16, 26, 94] [(.slice zp0 zl1 zl2), (.pointer (some za3)), (.pointer (some za4)), (.slice zp5 zl6 zl7), (.int .i64 zn8), (.int .i64 zn9), (.int .i64 zn8), (.int .i64 zn10), (.tuple #[])] nx1 (KBlk 2 (KBlk 1 (KS Pg W 94 rs_32 an_32 false (sub (bodyOf Try.f32) [1, 1, 1, 1, 0, 1, 0, 0, 1, 1, 1]) 0 (KLoop [5, 6, 16] [1, 2, 4, 15, 94] [(.slice zp0 zl1 zl2), (.pointer (some za3)), (.pointer (some za4)), (.int .i64 zn9), (.tuple #[])] nx0 (KBlk 0 (KS Pg W 94 rs_32 an_32 false (sub (bodyOf Try.f32) [1, 1, 1, 1, 1]) 0 (fin Pg W 94 rv_32 R)))))))) (known [6, 27] [(.int .i64 n51), (.int .i64 n52)] (known [1, 2, 4, 5, 7, 15, 16, 26, 94] [(.slice zp0 zl1 zl2), (.pointer (some za3)), (.pointer (some za4)), (.slice zp5 zl6 zl7), (.int .i64 zn8), (.int .i64 zn9), (.int .i64 zn8), (.int .i64 zn10), (.tuple #[])] j)) = B_law10_filled_1 W R nx0 zp0 zl1 zl2 za3 za4 zp5 zl6 zl7 zn8 zn9 zn10 n51 n52 nx1 := by kernel_rfl
def N_law10_filled_1 (I : Int → Int → Hp → Prop) (μ : Int → Int → Hp → Nat) (n510 : Int) (n520 : Int) (s : Hp) (vs : List Value) : Hp → Prop := fun s' => ∃ n51 n52, vs = [(.int .i64 n51), (.int .i64 n52)] ∧ I n51 n52 s' ∧ μ n51 n52 s' < μ n510 n520 s
theorem L_law10_filled_1_rule (W : World) (R : Ending → Hp → Prop) (nx0 : List Value → Hp → Prop) (zp0 : Option Addr) (zl1 : Nat) (zl2 : Nat) (za3 : Addr) (za4 : Addr) (zp5 : Option Addr) (zl6 : Nat) (zl7 : Nat) (zn8 : Int) (zn9 : Int) (zn10 : Int) (I : Int → Int → Hp → Prop) (μ : Int → Int → Hp → Nat) (n510 : Int) (n520 : Int) (s : Hp) (h0 : I n510 n520 s)
    (hr : ∀ (n51 : Int) (n52 : Int) (s : Hp), I n51 n52 s → B_law10_filled_1 W R nx0 zp0 zl1 zl2 za3 za4 zp5 zl6 zl7 zn8 zn9 zn10 n51 n52 (fun vs => N_law10_filled_1 I μ n51 n52 s vs) s) : L_law10_filled_1 W R nx0 zp0 zl1 zl2 za3 za4 zp5 zl6 zl7 zn8 zn9 zn10 n510 n520 s := by
  refine ⟨fun vs s => ∃ n51 n52, vs = [(.int .i64 n51), (.int .i64 n52)] ∧ I n51 n52 s, fun vs s => (match vs with | [.int _ n51, .int _ n52] => μ n51 n52 s | _ => 0), ⟨⟨⟨_, rfl⟩, ⟨⟨_, rfl⟩, trivial⟩⟩, ⟨_, _, rfl, h0⟩⟩, ?_⟩
  intro n51 n52 s hI j
  obtain ⟨n51', n52', hy, hI⟩ := hI
  have hI' : I n51 n52 s := by cases hy; exact hI
  have hh := hr n51 n52 s hI'
  rw [← B_law10_filled_1_eq W R nx0 zp0 zl1 zl2 za3 za4 zp5 zl6 zl7 zn8 zn9 zn10 n51 n52 _ j] at hh
  refine vc_mono ?_ _ _ hh
  exact KLoop_mono (fun vs s' h => by obtain ⟨n511, n521, rfl, h1, h2⟩ := h; exact ⟨⟨⟨_, rfl⟩, ⟨⟨_, rfl⟩, trivial⟩⟩, ⟨_, _, rfl, h1⟩, h2⟩)
def T_law10_filled (W : World) (n1 : Int) (n2 : Int) (x3 : Option Addr) (l4 : Nat) (c5 : Nat) (x6 : Option Addr) (l7 : Nat) (c8 : Nat) (x9 : Option Addr) (l10 : Nat) (c11 : Nat) (R : Ending → Hp → Prop) : Hp → Prop :=
  NEW 25 [(.int .i64 n1), (.int .i64 n2), (.slice x3 l4 c5), (.slice x6 l7 c8)] fun B12 =>
    NEWZ Pg 25 fun B13 =>
      RDI .i64 (Addr.add ⟨B12, 0, none⟩ 0) fun n14 =>
        RDI .i64 (Addr.add ⟨B12, 0, none⟩ 1) fun n15 =>
          RDL (Addr.add ⟨B12, 0, none⟩ 2) fun x16 l17 c18 =>
            RDL (Addr.add ⟨B12, 0, none⟩ 3) fun x19 l20 c21 =>
              WR (Addr.add ⟨B13, 0, none⟩ 0) (.int .i64 n14) <|
                WR (Addr.add ⟨B13, 0, none⟩ 1) (.int .i64 n15) <|
                  WR (Addr.add ⟨B13, 0, none⟩ 2) (.slice x16 l17 c18) <|
                    WR (Addr.add ⟨B13, 0, none⟩ 3) (.slice x19 l20 c21) <|
                      WR (Addr.add (Addr.add ⟨B13, 0, none⟩ 3) 0) (.slice none 0 0) <|
                        RDI .i64 (Addr.add ⟨B12, 0, none⟩ 0) fun n22 =>
                          L_law10_filled_0 W R x9 l10 c11 ⟨B12, 0, none⟩ ⟨B13, 0, none⟩ n22 none 0 0 0 0
theorem T_law10_filled_eq (W : World) (n1 : Int) (n2 : Int) (x3 : Option Addr) (l4 : Nat) (c5 : Nat) (x6 : Option Addr) (l7 : Nat) (c8 : Nat) (x9 : Option Addr) (l10 : Nat) (c11 : Nat) (R : Ending → Hp → Prop) : vfun Pg W an_32 Try.f32 [(.agg #[(.int .i64 n1), (.int .i64 n2), (.slice x3 l4 c5), (.slice x6 l7 c8)]), (.slice x9 l10 c11)] R = T_law10_filled W n1 n2 x3 l4 c5 x6 l7 c8 x9 l10 c11 R := by kernel_rfl
theorem does_law10_filled (W : World) (n1 : Int) (n2 : Int) (x3 : Option Addr) (l4 : Nat) (c5 : Nat) (x6 : Option Addr) (l7 : Nat) (c8 : Nat) (x9 : Option Addr) (l10 : Nat) (c11 : Nat) (R : Ending → Hp → Prop) (s : Hp) (h : T_law10_filled W n1 n2 x3 l4 c5 x6 l7 c8 x9 l10 c11 R s) : Does Pg W F_law10_filled #[(.agg #[(.int .i64 n1), (.int .i64 n2), (.slice x3 l4 c5), (.slice x6 l7 c8)]), (.slice x9 l10 c11)] s R :=
  does_of_vfun Pg W an_32 Try.func32 rfl (by kernel_rfl) (by rw [T_law10_filled_eq]; exact h)
def an_33 : Nat → Ann := fun b => match b with
  | 0 => { ms := [9, 10, 27], ks := [.i .i64, .i .i64, .i .i64], us := [1, 2, 3, 4, 26, 91], rt := false, ex := [] }
  | 2 => { ms := [57], ks := [.i .i64], us := [1, 2, 3, 56, 91], rt := false, ex := [] }
  | _ => {}
abbrev rv_33 : List ResultVar := [.tmp 8]
abbrev rs_33 : List Nat := [91, 8]
def L_law10_order_0 (W : World) (R : Ending → Hp → Prop) (zp0 : Option Addr) (zl1 : Nat) (zl2 : Nat) (zn3 : Int) (zn4 : Int) (za5 : Addr) (zn6 : Int) (n30 : Int) (n31 : Int) (n32 : Int) : Hp → Prop :=
  LOOPN [.i .i64, .i .i64, .i .i64] (fun ys next s => ∀ j : Tm, vc Pg W 91 rs_33 an_33 false (sub (bodyOf Try.f33) [1, 1, 0, 1, 0, 0]) 0 (KLoop [9, 10, 27] [1, 2, 3, 4, 26, 91] [(.slice zp0 zl1 zl2), (.int .i64 zn3), (.int .i64 zn4), (.pointer (some za5)), (.int .i64 zn6), (.tuple #[])] next (KBlk 0 (KS Pg W 91 rs_33 an_33 false (sub (bodyOf Try.f33) [1, 1, 1]) 0 (fin Pg W 91 rv_33 R)))) (known [9, 10, 27] ys (known [1, 2, 3, 4, 26, 91] [(.slice zp0 zl1 zl2), (.int .i64 zn3), (.int .i64 zn4), (.pointer (some za5)), (.int .i64 zn6), (.tuple #[])] j)) s) [(.int .i64 n30), (.int .i64 n31), (.int .i64 n32)]
def L_law10_order_1 (W : World) (R : Ending → Hp → Prop) (zp0 : Option Addr) (zl1 : Nat) (zl2 : Nat) (zn3 : Int) (zn4 : Int) (zn5 : Int) (n50 : Int) : Hp → Prop :=
  LOOPN [.i .i64] (fun ys next s => ∀ j : Tm, vc Pg W 91 rs_33 an_33 false (sub (bodyOf Try.f33) [1, 1, 1, 1, 0, 1, 0, 0]) 2 (KLoop [57] [1, 2, 3, 56, 91] [(.slice zp0 zl1 zl2), (.int .i64 zn3), (.int .i64 zn4), (.int .i64 zn5), (.tuple #[])] next (KBlk 2 (KS Pg W 91 rs_33 an_33 false (sub (bodyOf Try.f33) [1, 1, 1, 1, 1]) 0 (fin Pg W 91 rv_33 R)))) (known [57] ys (known [1, 2, 3, 56, 91] [(.slice zp0 zl1 zl2), (.int .i64 zn3), (.int .i64 zn4), (.int .i64 zn5), (.tuple #[])] j)) s) [(.int .i64 n50)]
def B_law10_order_0 (W : World) (R : Ending → Hp → Prop) (zp0 : Option Addr) (zl1 : Nat) (zl2 : Nat) (zn3 : Int) (zn4 : Int) (za5 : Addr) (zn6 : Int) (n30 : Int) (n31 : Int) (n32 : Int) (nx0 : List Value → Hp → Prop) : Hp → Prop :=
  BR (decide (n32 < zn6))
    (IXS zp0 zl1 zn3 1 fun a33 =>
      RDL a33 fun x34 l35 c36 =>
        IXS x34 l35 n32 1 fun a37 =>
          RDI .i64 a37 fun n38 =>
            IXS zp0 zl1 zn4 1 fun a39 =>
              RDL a39 fun x40 l41 c42 =>
                IXS x40 l41 n32 1 fun a43 =>
                  RDI .i64 a43 fun n44 =>
                    ANDS (RDI .i64 a43 fun n45 =>
                      fun _ => ((.int .i64 n45) : Value) = (.int .i64 n44)) <|
                      ANDS (RDL a39 fun x46 l47 c48 =>
                        fun _ => ((.slice x46 l47 c48) : Value) = (.slice x40 l41 c42)) <|
                        NX [(.slice zp0 zl1 zl2), (.int .i64 zn3), (.int .i64 zn4), (.pointer (some za5)), (.int .i64 zn6), (.tuple #[])] [(.slice zp0 zl1 zl2), (.int .i64 zn3), (.int .i64 zn4), (.pointer (some za5)), (.int .i64 zn6), (.tuple #[])] (nx0 [(.int .i64 (IntKind.wrap .i64 (n30 + n38))), (.int .i64 (IntKind.wrap .i64 (n31 + n44))), (.int .i64 (IntKind.wrap .i64 (n32 + 1)))]))
    (BR (n30 != n31)
      (BR (decide (n30 > n31))
        (R (.returned (.int .i64 1)))
        (R (.returned (.int .i64 (-1)))))
      (RDI .i64 (Addr.add za5 1) fun n49 =>
        L_law10_order_1 W R zp0 zl1 zl2 zn3 zn4 n49 0))
theorem B_law10_order_0_eq (W : World) (R : Ending → Hp → Prop) (zp0 : Option Addr) (zl1 : Nat) (zl2 : Nat) (zn3 : Int) (zn4 : Int) (za5 : Addr) (zn6 : Int) (n30 : Int) (n31 : Int) (n32 : Int) (nx0 : List Value → Hp → Prop) (j : Tm) : vc Pg W 91 rs_33 an_33 false (sub (bodyOf Try.f33) [1, 1, 0, 1, 0, 0]) 0 (KLoop [9, 10, 27] [1, 2, 3, 4, 26, 91] [(.slice zp0 zl1 zl2), (.int .i64 zn3), (.int .i64 zn4), (.pointer (some za5)), (.int .i64 zn6), (.tuple #[])] nx0 (KBlk 0 (KS Pg W 91 rs_33 an_33 false (sub (bodyOf Try.f33) [1, 1, 1]) 0 (fin Pg W 91 rv_33 R)))) (known [9, 10, 27] [(.int .i64 n30), (.int .i64 n31), (.int .i64 n32)] (known [1, 2, 3, 4, 26, 91] [(.slice zp0 zl1 zl2), (.int .i64 zn3), (.int .i64 zn4), (.pointer (some za5)), (.int .i64 zn6), (.tuple #[])] j)) = B_law10_order_0 W R zp0 zl1 zl2 zn3 zn4 za5 zn6 n30 n31 n32 nx0 := by kernel_rfl
def N_law10_order_0 (I : Int → Int → Int → Hp → Prop) (μ : Int → Int → Int → Hp → Nat) (n300 : Int) (n310 : Int) (n320 : Int) (s : Hp) (vs : List Value) : Hp → Prop := fun s' => ∃ n30 n31 n32, vs = [(.int .i64 n30), (.int .i64 n31), (.int .i64 n32)] ∧ I n30 n31 n32 s' ∧ μ n30 n31 n32 s' < μ n300 n310 n320 s
theorem L_law10_order_0_rule (W : World) (R : Ending → Hp → Prop) (zp0 : Option Addr) (zl1 : Nat) (zl2 : Nat) (zn3 : Int) (zn4 : Int) (za5 : Addr) (zn6 : Int) (I : Int → Int → Int → Hp → Prop) (μ : Int → Int → Int → Hp → Nat) (n300 : Int) (n310 : Int) (n320 : Int) (s : Hp) (h0 : I n300 n310 n320 s)
    (hr : ∀ (n30 : Int) (n31 : Int) (n32 : Int) (s : Hp), I n30 n31 n32 s → B_law10_order_0 W R zp0 zl1 zl2 zn3 zn4 za5 zn6 n30 n31 n32 (fun vs => N_law10_order_0 I μ n30 n31 n32 s vs) s) : L_law10_order_0 W R zp0 zl1 zl2 zn3 zn4 za5 zn6 n300 n310 n320 s := by
  refine ⟨fun vs s => ∃ n30 n31 n32, vs = [(.int .i64 n30), (.int .i64 n31), (.int .i64 n32)] ∧ I n30 n31 n32 s, fun vs s => (match vs with | [.int _ n30, .int _ n31, .int _ n32] => μ n30 n31 n32 s | _ => 0), ⟨⟨⟨_, rfl⟩, ⟨⟨_, rfl⟩, ⟨⟨_, rfl⟩, trivial⟩⟩⟩, ⟨_, _, _, rfl, h0⟩⟩, ?_⟩
  intro n30 n31 n32 s hI j
  obtain ⟨n30', n31', n32', hy, hI⟩ := hI
  have hI' : I n30 n31 n32 s := by cases hy; exact hI
  have hh := hr n30 n31 n32 s hI'
  rw [← B_law10_order_0_eq W R zp0 zl1 zl2 zn3 zn4 za5 zn6 n30 n31 n32 _ j] at hh
  refine vc_mono ?_ _ _ hh
  exact KLoop_mono (fun vs s' h => by obtain ⟨n301, n311, n321, rfl, h1, h2⟩ := h; exact ⟨⟨⟨_, rfl⟩, ⟨⟨_, rfl⟩, ⟨⟨_, rfl⟩, trivial⟩⟩⟩, ⟨_, _, _, rfl, h1⟩, h2⟩)
def B_law10_order_1 (W : World) (R : Ending → Hp → Prop) (zp0 : Option Addr) (zl1 : Nat) (zl2 : Nat) (zn3 : Int) (zn4 : Int) (zn5 : Int) (n50 : Int) (nx1 : List Value → Hp → Prop) : Hp → Prop :=
  BR (decide (n50 < zn5))
    (IXS zp0 zl1 zn3 1 fun a51 =>
      RDL a51 fun x52 l53 c54 =>
        IXS x52 l53 n50 1 fun a55 =>
          RDI .i64 a55 fun n56 =>
            IXS zp0 zl1 zn4 1 fun a57 =>
              RDL a57 fun x58 l59 c60 =>
                IXS x58 l59 n50 1 fun a61 =>
                  RDI .i64 a61 fun n62 =>
                    BR (decide (n56 > n62))
                      (R (.returned (.int .i64 1)))
                      (IXS zp0 zl1 zn3 1 fun a63 =>
                        RDL a63 fun x64 l65 c66 =>
                          IXS x64 l65 n50 1 fun a67 =>
                            RDI .i64 a67 fun n68 =>
                              IXS zp0 zl1 zn4 1 fun a69 =>
                                RDL a69 fun x70 l71 c72 =>
                                  IXS x70 l71 n50 1 fun a73 =>
                                    RDI .i64 a73 fun n74 =>
                                      BR (decide (n68 < n74))
                                        (R (.returned (.int .i64 (-1))))
                                        (NX [(.slice zp0 zl1 zl2), (.int .i64 zn3), (.int .i64 zn4), (.int .i64 zn5), (.tuple #[])] [(.slice zp0 zl1 zl2), (.int .i64 zn3), (.int .i64 zn4), (.int .i64 zn5), (.tuple #[])] (nx1 [(.int .i64 (IntKind.wrap .i64 (n50 + 1)))]))))
    (R (.returned (.int .i64 0)))
theorem B_law10_order_1_eq (W : World) (R : Ending → Hp → Prop) (zp0 : Option Addr) (zl1 : Nat) (zl2 : Nat) (zn3 : Int) (zn4 : Int) (zn5 : Int) (n50 : Int) (nx1 : List Value → Hp → Prop) (j : Tm) : vc Pg W 91 rs_33 an_33 false (sub (bodyOf Try.f33) [1, 1, 1, 1, 0, 1, 0, 0]) 2 (KLoop [57] [1, 2, 3, 56, 91] [(.slice zp0 zl1 zl2), (.int .i64 zn3), (.int .i64 zn4), (.int .i64 zn5), (.tuple #[])] nx1 (KBlk 2 (KS Pg W 91 rs_33 an_33 false (sub (bodyOf Try.f33) [1, 1, 1, 1, 1]) 0 (fin Pg W 91 rv_33 R)))) (known [57] [(.int .i64 n50)] (known [1, 2, 3, 56, 91] [(.slice zp0 zl1 zl2), (.int .i64 zn3), (.int .i64 zn4), (.int .i64 zn5), (.tuple #[])] j)) = B_law10_order_1 W R zp0 zl1 zl2 zn3 zn4 zn5 n50 nx1 := by kernel_rfl
def N_law10_order_1 (I : Int → Hp → Prop) (μ : Int → Hp → Nat) (n500 : Int) (s : Hp) (vs : List Value) : Hp → Prop := fun s' => ∃ n50, vs = [(.int .i64 n50)] ∧ I n50 s' ∧ μ n50 s' < μ n500 s
theorem L_law10_order_1_rule (W : World) (R : Ending → Hp → Prop) (zp0 : Option Addr) (zl1 : Nat) (zl2 : Nat) (zn3 : Int) (zn4 : Int) (zn5 : Int) (I : Int → Hp → Prop) (μ : Int → Hp → Nat) (n500 : Int) (s : Hp) (h0 : I n500 s)
    (hr : ∀ (n50 : Int) (s : Hp), I n50 s → B_law10_order_1 W R zp0 zl1 zl2 zn3 zn4 zn5 n50 (fun vs => N_law10_order_1 I μ n50 s vs) s) : L_law10_order_1 W R zp0 zl1 zl2 zn3 zn4 zn5 n500 s := by
  refine ⟨fun vs s => ∃ n50, vs = [(.int .i64 n50)] ∧ I n50 s, fun vs s => (match vs with | [.int _ n50] => μ n50 s | _ => 0), ⟨⟨⟨_, rfl⟩, trivial⟩, ⟨_, rfl, h0⟩⟩, ?_⟩
  intro n50 s hI j
  obtain ⟨n50', hy, hI⟩ := hI
  have hI' : I n50 s := by cases hy; exact hI
  have hh := hr n50 s hI'
  rw [← B_law10_order_1_eq W R zp0 zl1 zl2 zn3 zn4 zn5 n50 _ j] at hh
  refine vc_mono ?_ _ _ hh
  exact KLoop_mono (fun vs s' h => by obtain ⟨n501, rfl, h1, h2⟩ := h; exact ⟨⟨⟨_, rfl⟩, trivial⟩, ⟨_, rfl, h1⟩, h2⟩)
def T_law10_order (W : World) (n1 : Int) (n2 : Int) (x3 : Option Addr) (l4 : Nat) (c5 : Nat) (x6 : Option Addr) (l7 : Nat) (c8 : Nat) (x9 : Option Addr) (l10 : Nat) (c11 : Nat) (n12 : Int) (n13 : Int) (R : Ending → Hp → Prop) : Hp → Prop :=
  NEW 25 [(.int .i64 n1), (.int .i64 n2), (.slice x3 l4 c5), (.slice x6 l7 c8)] fun B14 =>
    RDL (Addr.add ⟨B14, 0, none⟩ 2) fun x15 l16 c17 =>
      IXS x15 l16 n12 1 fun a18 =>
        RDI .i64 a18 fun n19 =>
          RDL (Addr.add ⟨B14, 0, none⟩ 2) fun x20 l21 c22 =>
            IXS x20 l21 n13 1 fun a23 =>
              RDI .i64 a23 fun n24 =>
                ANDS (RDI .i64 a23 fun n25 =>
                  fun _ => ((.int .i64 n25) : Value) = (.int .i64 n24)) <|
                  ANDS (RDL (Addr.add ⟨B14, 0, none⟩ 2) fun x26 l27 c28 =>
                    fun _ => ((.slice x26 l27 c28) : Value) = (.slice x20 l21 c22)) <|
                    RDI .i64 (Addr.add ⟨B14, 0, none⟩ 1) fun n29 =>
                      L_law10_order_0 W R x9 l10 c11 n12 n13 ⟨B14, 0, none⟩ n29 (IntKind.wrap .i64 (0 - n19)) (IntKind.wrap .i64 (0 - n24)) 0
theorem T_law10_order_eq (W : World) (n1 : Int) (n2 : Int) (x3 : Option Addr) (l4 : Nat) (c5 : Nat) (x6 : Option Addr) (l7 : Nat) (c8 : Nat) (x9 : Option Addr) (l10 : Nat) (c11 : Nat) (n12 : Int) (n13 : Int) (R : Ending → Hp → Prop) : vfun Pg W an_33 Try.f33 [(.agg #[(.int .i64 n1), (.int .i64 n2), (.slice x3 l4 c5), (.slice x6 l7 c8)]), (.slice x9 l10 c11), (.int .i64 n12), (.int .i64 n13)] R = T_law10_order W n1 n2 x3 l4 c5 x6 l7 c8 x9 l10 c11 n12 n13 R := by kernel_rfl
theorem does_law10_order (W : World) (n1 : Int) (n2 : Int) (x3 : Option Addr) (l4 : Nat) (c5 : Nat) (x6 : Option Addr) (l7 : Nat) (c8 : Nat) (x9 : Option Addr) (l10 : Nat) (c11 : Nat) (n12 : Int) (n13 : Int) (R : Ending → Hp → Prop) (s : Hp) (h : T_law10_order W n1 n2 x3 l4 c5 x6 l7 c8 x9 l10 c11 n12 n13 R s) : Does Pg W F_law10_order #[(.agg #[(.int .i64 n1), (.int .i64 n2), (.slice x3 l4 c5), (.slice x6 l7 c8)]), (.slice x9 l10 c11), (.int .i64 n12), (.int .i64 n13)] s R :=
  does_of_vfun Pg W an_33 Try.func33 rfl (by kernel_rfl) (by rw [T_law10_order_eq]; exact h)
def an_34 : Nat → Ann := fun b => match b with
  | _ => {}
abbrev rv_34 : List ResultVar := [.tmp 4]
abbrev rs_34 : List Nat := [15, 4]
def T_law10_inside (W : World) (n1 : Int) (n2 : Int) (n3 : Int) (R : Ending → Hp → Prop) : Hp → Prop :=
  NEW 29 [(.int .i64 n1), (.int .i64 n2)] fun B4 =>
    RDI .i64 (Addr.add ⟨B4, 0, none⟩ 0) fun n5 =>
      BR (decide (n5 ≤ n3))
        (RDI .i64 (Addr.add ⟨B4, 0, none⟩ 1) fun n6 =>
          R (.returned (.bool (decide (n3 ≤ n6)))))
        (R (.returned (.bool false)))
theorem T_law10_inside_eq (W : World) (n1 : Int) (n2 : Int) (n3 : Int) (R : Ending → Hp → Prop) : vfun Pg W an_34 Try.f34 [(.agg #[(.int .i64 n1), (.int .i64 n2)]), (.int .i64 n3)] R = T_law10_inside W n1 n2 n3 R := by kernel_rfl
theorem does_law10_inside (W : World) (n1 : Int) (n2 : Int) (n3 : Int) (R : Ending → Hp → Prop) (s : Hp) (h : T_law10_inside W n1 n2 n3 R s) : Does Pg W F_law10_inside #[(.agg #[(.int .i64 n1), (.int .i64 n2)]), (.int .i64 n3)] s R :=
  does_of_vfun Pg W an_34 Try.func34 rfl (by kernel_rfl) (by rw [T_law10_inside_eq]; exact h)
def an_39 : Nat → Ann := fun b => match b with
  | 0 => { ms := [14], ks := [.i .i64], us := [1, 2, 3, 4, 8, 9, 13, 50], rt := false, ex := [] }
  | _ => {}
abbrev rv_39 : List ResultVar := [.cell 8 25]
abbrev rs_39 : List Nat := [50, 8]
def L_law10_read_0 (W : World) (R : Ending → Hp → Prop) (zn0 : Int) (zn1 : Int) (zn2 : Int) (za3 : Addr) (za4 : Addr) (za5 : Addr) (zn6 : Int) (n24 : Int) : Hp → Prop :=
  LOOPN [.i .i64] (fun ys next s => ∀ j : Tm, vc Pg W 50 rs_39 an_39 false (sub (bodyOf Try.f39) [1, 1, 0, 1, 0, 0]) 0 (KLoop [14] [1, 2, 3, 4, 8, 9, 13, 50] [(.int .i64 zn0), (.int .i64 zn1), (.int .i64 zn2), (.pointer (some za3)), (.pointer (some za4)), (.pointer (some za5)), (.int .i64 zn6), (.tuple #[])] next (KBlk 0 (KS Pg W 50 rs_39 an_39 false (sub (bodyOf Try.f39) [1, 1, 1]) 0 (fin Pg W 50 rv_39 R)))) (known [14] ys (known [1, 2, 3, 4, 8, 9, 13, 50] [(.int .i64 zn0), (.int .i64 zn1), (.int .i64 zn2), (.pointer (some za3)), (.pointer (some za4)), (.pointer (some za5)), (.int .i64 zn6), (.tuple #[])] j)) s) [(.int .i64 n24)]
def J_law10_read_0 (W : World) (R : Ending → Hp → Prop) (zn0 : Int) (zn1 : Int) (zn2 : Int) (za3 : Addr) (za4 : Addr) (za5 : Addr) (zn6 : Int) (nx0 : List Value → Hp → Prop) (n24 : Int) : Hp → Prop :=
  NX [(.int .i64 zn0), (.int .i64 zn1), (.int .i64 zn2), (.pointer (some za3)), (.pointer (some za4)), (.pointer (some za5)), (.int .i64 zn6), (.tuple #[])] [(.int .i64 zn0), (.int .i64 zn1), (.int .i64 zn2), (.pointer (some za3)), (.pointer (some za4)), (.pointer (some za5)), (.int .i64 zn6), (.tuple #[])] (nx0 [(.int .i64 (IntKind.wrap .i64 (n24 + 1)))])
def J_law10_read_1 (W : World) (R : Ending → Hp → Prop) (za3 : Addr) (n24 : Int) (zn2 : Int) (za5 : Addr) (zn1 : Int) (zn0 : Int) (za4 : Addr) (zn6 : Int) (nx0 : List Value → Hp → Prop) : Hp → Prop :=
  RDI .i64 (Addr.add za3 1) fun n85 =>
    NNI (IntKind.wrap .i64 (n85 + n24)) <|
      BR ((andv .i64 (shrv .i64 zn2 (IntKind.wrap .i64 (n85 + n24))) 1) == 1)
        (RDI .i64 (Addr.add za5 0) fun n86 =>
          RDI .i64 (Addr.add za5 1) fun n87 =>
            RDL (Addr.add za5 2) fun x88 l89 c90 =>
              RDL (Addr.add za5 3) fun x91 l92 c93 =>
                RDI .i64 (Addr.add za3 0) fun n94 =>
                  RDI .i64 (Addr.add za3 1) fun n95 =>
                    RDL (Addr.add za3 2) fun x96 l97 c98 =>
                      RDL (Addr.add za3 3) fun x99 l100 c101 =>
                        CALL Pg W F_ref10_Points [(.agg #[(.int .i64 n94), (.int .i64 n95), (.slice x96 l97 c98), (.slice x99 l100 c101)]), (.int .i64 zn1), (.int .i64 n24)]
                          (fun v102 => AGG v102 fun q104 => HD q104 fun v105 r106 => TYI .i64 v105 fun n107 =>
                            HD r106 fun v108 r109 => TYI .i64 v108 fun n110 =>
                              NL r109 <|
                                ANDS (RDI .i64 (Addr.add za5 0) fun n111 =>
                                  RDI .i64 (Addr.add za5 1) fun n112 =>
                                    RDL (Addr.add za5 2) fun x113 l114 c115 =>
                                      RDL (Addr.add za5 3) fun x116 l117 c118 =>
                                        fun _ => ((.agg #[(.int .i64 n111), (.int .i64 n112), (.slice x113 l114 c115), (.slice x116 l117 c118)]) : Value) = (.agg #[(.int .i64 n86), (.int .i64 n87), (.slice x88 l89 c90), (.slice x91 l92 c93)])) <|
                                  ANDS (RDI .i64 (Addr.add za5 0) fun n119 =>
                                    RDI .i64 (Addr.add za5 1) fun n120 =>
                                      RDL (Addr.add za5 2) fun x121 l122 c123 =>
                                        RDL (Addr.add za5 3) fun x124 l125 c126 =>
                                          fun _ => ((.agg #[(.int .i64 n119), (.int .i64 n120), (.slice x121 l122 c123), (.slice x124 l125 c126)]) : Value) = (.agg #[(.int .i64 n86), (.int .i64 n87), (.slice x88 l89 c90), (.slice x91 l92 c93)])) <|
                                    CALL Pg W F_ref10_With [(.agg #[(.int .i64 n86), (.int .i64 n87), (.slice x88 l89 c90), (.slice x91 l92 c93)]), (.int .i64 zn1), (.int .i64 n24), (.int .i64 n107)]
                                      (fun v127 => AGG v127 fun q129 => HD q129 fun v130 r131 => TYI .i64 v130 fun n132 =>
                                        HD r131 fun v133 r134 => TYI .i64 v133 fun n135 =>
                                          HD r134 fun v136 r137 => TYL v136 fun x138 l139 c140 =>
                                            HD r137 fun v141 r142 => TYL v141 fun x143 l144 c145 =>
                                              NL r142 <|
                                                WR (Addr.add za5 0) (.int .i64 n132) <|
                                                  WR (Addr.add za5 1) (.int .i64 n135) <|
                                                    WR (Addr.add za5 2) (.slice x138 l139 c140) <|
                                                      WR (Addr.add za5 3) (.slice x143 l144 c145) <|
                                                        J_law10_read_0 W R zn0 zn1 zn2 za3 za4 za5 zn6 nx0 n24)
                                        (fun e128 => R (.panicked e128)))
                            (fun e103 => R (.panicked e103)))
        (J_law10_read_0 W R zn0 zn1 zn2 za3 za4 za5 zn6 nx0 n24)
def B_law10_read_0 (W : World) (R : Ending → Hp → Prop) (zn0 : Int) (zn1 : Int) (zn2 : Int) (za3 : Addr) (za4 : Addr) (za5 : Addr) (zn6 : Int) (n24 : Int) (nx0 : List Value → Hp → Prop) : Hp → Prop :=
  BR (decide (n24 < zn6))
    (NNI n24 <|
      BR ((andv .i64 (shrv .i64 zn2 n24) 1) == 1)
        (RDI .i64 (Addr.add za5 0) fun n25 =>
          RDI .i64 (Addr.add za5 1) fun n26 =>
            RDL (Addr.add za5 2) fun x27 l28 c29 =>
              RDL (Addr.add za5 3) fun x30 l31 c32 =>
                RDI .i64 (Addr.add za3 0) fun n33 =>
                  RDI .i64 (Addr.add za3 1) fun n34 =>
                    RDL (Addr.add za3 2) fun x35 l36 c37 =>
                      RDL (Addr.add za3 3) fun x38 l39 c40 =>
                        CALL Pg W F_ref10_Points [(.agg #[(.int .i64 n33), (.int .i64 n34), (.slice x35 l36 c37), (.slice x38 l39 c40)]), (.int .i64 zn0), (.int .i64 n24)]
                          (fun v41 => AGG v41 fun q43 => HD q43 fun v44 r45 => TYI .i64 v44 fun n46 =>
                            HD r45 fun v47 r48 => TYI .i64 v47 fun n49 =>
                              NL r48 <|
                                ANDS (RDI .i64 (Addr.add za5 0) fun n50 =>
                                  RDI .i64 (Addr.add za5 1) fun n51 =>
                                    RDL (Addr.add za5 2) fun x52 l53 c54 =>
                                      RDL (Addr.add za5 3) fun x55 l56 c57 =>
                                        fun _ => ((.agg #[(.int .i64 n50), (.int .i64 n51), (.slice x52 l53 c54), (.slice x55 l56 c57)]) : Value) = (.agg #[(.int .i64 n25), (.int .i64 n26), (.slice x27 l28 c29), (.slice x30 l31 c32)])) <|
                                  ANDS (RDI .i64 (Addr.add za5 0) fun n58 =>
                                    RDI .i64 (Addr.add za5 1) fun n59 =>
                                      RDL (Addr.add za5 2) fun x60 l61 c62 =>
                                        RDL (Addr.add za5 3) fun x63 l64 c65 =>
                                          fun _ => ((.agg #[(.int .i64 n58), (.int .i64 n59), (.slice x60 l61 c62), (.slice x63 l64 c65)]) : Value) = (.agg #[(.int .i64 n25), (.int .i64 n26), (.slice x27 l28 c29), (.slice x30 l31 c32)])) <|
                                    CALL Pg W F_ref10_With [(.agg #[(.int .i64 n25), (.int .i64 n26), (.slice x27 l28 c29), (.slice x30 l31 c32)]), (.int .i64 zn0), (.int .i64 n24), (.int .i64 n49)]
                                      (fun v66 => AGG v66 fun q68 => HD q68 fun v69 r70 => TYI .i64 v69 fun n71 =>
                                        HD r70 fun v72 r73 => TYI .i64 v72 fun n74 =>
                                          HD r73 fun v75 r76 => TYL v75 fun x77 l78 c79 =>
                                            HD r76 fun v80 r81 => TYL v80 fun x82 l83 c84 =>
                                              NL r81 <|
                                                WR (Addr.add za5 0) (.int .i64 n71) <|
                                                  WR (Addr.add za5 1) (.int .i64 n74) <|
                                                    WR (Addr.add za5 2) (.slice x77 l78 c79) <|
                                                      WR (Addr.add za5 3) (.slice x82 l83 c84) <|
                                                        J_law10_read_1 W R za3 n24 zn2 za5 zn1 zn0 za4 zn6 nx0)
                                        (fun e67 => R (.panicked e67)))
                            (fun e42 => R (.panicked e42)))
        (J_law10_read_1 W R za3 n24 zn2 za5 zn1 zn0 za4 zn6 nx0))
    (RDI .i64 (Addr.add za5 0) fun n146 =>
      RDI .i64 (Addr.add za5 1) fun n147 =>
        RDL (Addr.add za5 2) fun x148 l149 c150 =>
          RDL (Addr.add za5 3) fun x151 l152 c153 =>
            WR (Addr.add za4 0) (.int .i64 n146) <|
              WR (Addr.add za4 1) (.int .i64 n147) <|
                WR (Addr.add za4 2) (.slice x148 l149 c150) <|
                  WR (Addr.add za4 3) (.slice x151 l152 c153) <|
                    RDI .i64 (Addr.add za4 0) fun n154 =>
                      RDI .i64 (Addr.add za4 1) fun n155 =>
                        RDL (Addr.add za4 2) fun x156 l157 c158 =>
                          RDL (Addr.add za4 3) fun x159 l160 c161 =>
                            R (.returned (.agg #[(.int .i64 n154), (.int .i64 n155), (.slice x156 l157 c158), (.slice x159 l160 c161)])))
theorem B_law10_read_0_eq (W : World) (R : Ending → Hp → Prop) (zn0 : Int) (zn1 : Int) (zn2 : Int) (za3 : Addr) (za4 : Addr) (za5 : Addr) (zn6 : Int) (n24 : Int) (nx0 : List Value → Hp → Prop) (j : Tm) : vc Pg W 50 rs_39 an_39 false (sub (bodyOf Try.f39) [1, 1, 0, 1, 0, 0]) 0 (KLoop [14] [1, 2, 3, 4, 8, 9, 13, 50] [(.int .i64 zn0), (.int .i64 zn1), (.int .i64 zn2), (.pointer (some za3)), (.pointer (some za4)), (.pointer (some za5)), (.int .i64 zn6), (.tuple #[])] nx0 (KBlk 0 (KS Pg W 50 rs_39 an_39 false (sub (bodyOf Try.f39) [1, 1, 1]) 0 (fin Pg W 50 rv_39 R)))) (known [14] [(.int .i64 n24)] (known [1, 2, 3, 4, 8, 9, 13, 50] [(.int .i64 zn0), (.int .i64 zn1), (.int .i64 zn2), (.pointer (some za3)), (.pointer (some za4)), (.pointer (some za5)), (.int .i64 zn6), (.tuple #[])] j)) = B_law10_read_0 W R zn0 zn1 zn2 za3 za4 za5 zn6 n24 nx0 := by kernel_rfl
def N_law10_read_0 (I : Int → Hp → Prop) (μ : Int → Hp → Nat) (n240 : Int) (s : Hp) (vs : List Value) : Hp → Prop := fun s' => ∃ n24, vs = [(.int .i64 n24)] ∧ I n24 s' ∧ μ n24 s' < μ n240 s
theorem L_law10_read_0_rule (W : World) (R : Ending → Hp → Prop) (zn0 : Int) (zn1 : Int) (zn2 : Int) (za3 : Addr) (za4 : Addr) (za5 : Addr) (zn6 : Int) (I : Int → Hp → Prop) (μ : Int → Hp → Nat) (n240 : Int) (s : Hp) (h0 : I n240 s)
    (hr : ∀ (n24 : Int) (s : Hp), I n24 s → B_law10_read_0 W R zn0 zn1 zn2 za3 za4 za5 zn6 n24 (fun vs => N_law10_read_0 I μ n24 s vs) s) : L_law10_read_0 W R zn0 zn1 zn2 za3 za4 za5 zn6 n240 s := by
  refine ⟨fun vs s => ∃ n24, vs = [(.int .i64 n24)] ∧ I n24 s, fun vs s => (match vs with | [.int _ n24] => μ n24 s | _ => 0), ⟨⟨⟨_, rfl⟩, trivial⟩, ⟨_, rfl, h0⟩⟩, ?_⟩
  intro n24 s hI j
  obtain ⟨n24', hy, hI⟩ := hI
  have hI' : I n24 s := by cases hy; exact hI
  have hh := hr n24 s hI'
  rw [← B_law10_read_0_eq W R zn0 zn1 zn2 za3 za4 za5 zn6 n24 _ j] at hh
  refine vc_mono ?_ _ _ hh
  exact KLoop_mono (fun vs s' h => by obtain ⟨n241, rfl, h1, h2⟩ := h; exact ⟨⟨⟨_, rfl⟩, trivial⟩, ⟨_, rfl, h1⟩, h2⟩)
def T_law10_read (W : World) (n1 : Int) (n2 : Int) (x3 : Option Addr) (l4 : Nat) (c5 : Nat) (x6 : Option Addr) (l7 : Nat) (c8 : Nat) (n9 : Int) (n10 : Int) (n11 : Int) (R : Ending → Hp → Prop) : Hp → Prop :=
  NEW 25 [(.int .i64 n1), (.int .i64 n2), (.slice x3 l4 c5), (.slice x6 l7 c8)] fun B12 =>
    NEWZ Pg 25 fun B13 =>
      RDI .i64 (Addr.add ⟨B12, 0, none⟩ 0) fun n14 =>
        RDI .i64 (Addr.add ⟨B12, 0, none⟩ 1) fun n15 =>
          RDL (Addr.add ⟨B12, 0, none⟩ 2) fun x16 l17 c18 =>
            RDL (Addr.add ⟨B12, 0, none⟩ 3) fun x19 l20 c21 =>
              NEWZ Pg 25 fun B22 =>
                WR (Addr.add ⟨B22, 0, none⟩ 0) (.int .i64 n14) <|
                  WR (Addr.add ⟨B22, 0, none⟩ 1) (.int .i64 n15) <|
                    WR (Addr.add ⟨B22, 0, none⟩ 2) (.slice x16 l17 c18) <|
                      WR (Addr.add ⟨B22, 0, none⟩ 3) (.slice x19 l20 c21) <|
                        RDI .i64 (Addr.add ⟨B12, 0, none⟩ 1) fun n23 =>
                          L_law10_read_0 W R n9 n10 n11 ⟨B12, 0, none⟩ ⟨B13, 0, none⟩ ⟨B22, 0, none⟩ n23 0
theorem T_law10_read_eq (W : World) (n1 : Int) (n2 : Int) (x3 : Option Addr) (l4 : Nat) (c5 : Nat) (x6 : Option Addr) (l7 : Nat) (c8 : Nat) (n9 : Int) (n10 : Int) (n11 : Int) (R : Ending → Hp → Prop) : vfun Pg W an_39 Try.f39 [(.agg #[(.int .i64 n1), (.int .i64 n2), (.slice x3 l4 c5), (.slice x6 l7 c8)]), (.int .i64 n9), (.int .i64 n10), (.int .i64 n11)] R = T_law10_read W n1 n2 x3 l4 c5 x6 l7 c8 n9 n10 n11 R := by kernel_rfl
theorem does_law10_read (W : World) (n1 : Int) (n2 : Int) (x3 : Option Addr) (l4 : Nat) (c5 : Nat) (x6 : Option Addr) (l7 : Nat) (c8 : Nat) (n9 : Int) (n10 : Int) (n11 : Int) (R : Ending → Hp → Prop) (s : Hp) (h : T_law10_read W n1 n2 x3 l4 c5 x6 l7 c8 n9 n10 n11 R s) : Does Pg W F_law10_read #[(.agg #[(.int .i64 n1), (.int .i64 n2), (.slice x3 l4 c5), (.slice x6 l7 c8)]), (.int .i64 n9), (.int .i64 n10), (.int .i64 n11)] s R :=
  does_of_vfun Pg W an_39 Try.func39 rfl (by kernel_rfl) (by rw [T_law10_read_eq]; exact h)
end Go.Proofs.Ytkgcbfbbcaajpaa.G

/- Rank: filled, order, inside. -/
set_option linter.unusedSimpArgs false
set_option linter.unusedVariables false
set_option maxRecDepth 20000
namespace Go.Proofs.Ytkgcbfbbcaajpaa.G
open Go.V
/-- Whom of two is before the other one, by what they have. -/
def ordP (T : Tb) (v : Nat → Nat → Int) (a b : Nat) : Int := if aheadL (rowG (v a) T.m (offT T a)) (rowG (v b) T.m (offT T b)) then 1 else if aheadL (rowG (v b) T.m (offT T b)) (rowG (v a) T.m (offT T a)) then -1 else 0
def sumK (v : Nat → Int) (k : Nat) : Int := ((List.range k).map v).sum
theorem sumK_succ (v : Nat → Int) (k : Nat) : sumK v (k + 1) = sumK v k + v k := by unfold sumK; rw [List.range_succ, List.map_append, List.sum_append]; simp
theorem sumK_lim {v : Nat → Int} (m : Nat) : ∀ k, k ≤ m → (∀ j, j < m → 0 ≤ v j ∧ v j ≤ 40) → 0 ≤ sumK v k ∧ sumK v k ≤ 40 * k
  | 0, _, _ => by simp [sumK]
  | k + 1, h, hv => by
    have := sumK_lim m k (by omega) hv
    have := hv k (by omega)
    rw [sumK_succ]; omega
section
variable {W : World} {K : VK} {E : List PanicEntry → Hp → Prop} {s : Hp} {T : Tb}
theorem f_inside {a b n : Int} (h : ∀ s', Ext s s' → K (.bool (decide (a ≤ n ∧ n ≤ b))) s') : CALL Pg W F_law10_inside [.agg #[.int .i64 a, .int .i64 b], .int .i64 n] K E s := by
  refine does_law10_inside W a b n _ s ?_
  unfold T_law10_inside
  refine ne2 fun s1 e1 z1 o0 o1 => ?_
  refine ⟨_, o0.cell, ?_⟩
  have h' := h s1 e1
  refine BR_dec (fun h1 => ?_) (fun h1 => ?_)
  · refine ⟨_, o1.cell, ?_⟩
    rw [show decide (a ≤ n ∧ n ≤ b) = decide (n ≤ b) by simp [h1]] at h'
    exact h'
  · rw [show decide (a ≤ n ∧ n ≤ b) = false by simp [h1]] at h'
    exact h'
theorem f_order {x y p : Option Addr} {c c' cp a b : Nat} {v : Nat → Nat → Int} (hok : okT T = true) (ha : a < T.n) (hb : b < T.n) (hx : RowAt s x (ints T.off)) (hy : ScAt s y T.sc) (hp : PtA s p T.n T.m v) (hv : ∀ i k, i < T.n → k < T.m → 0 ≤ v i k ∧ v i k ≤ 40)
    (h : ∀ s', Ext s s' → K (.int .i64 (ordP T v a b)) s') :
    CALL Pg W F_law10_order [.agg #[.int .i64 T.men, .int .i64 T.sheets, .slice x T.off.length c, .slice y T.sc.length c'], .slice p T.n cp, .int .i64 a, .int .i64 b] K E s := by
  have hn := men_n hok
  have hm := sheets_m hok
  have vd := okT_vd hok
  obtain ⟨_, n6, _, m5⟩ := n_lim hok
  refine does_law10_order W T.men T.sheets x T.off.length c y T.sc.length c' p T.n cp a b _ s ?_
  unfold T_law10_order
  refine NEW_rule fun s1 e1 z1 n1 _ => ?_
  have ta := tbA_new e1 hx hy n1
  have c2 := (n1 2 _ rfl).cell
  have hal : a < T.off.length := by rw [vd.len]; exact ha
  have hbl : b < T.off.length := by rw [vd.len]; exact hb
  obtain ⟨q, hq, g1⟩ := row_int (hx.ext e1) hal
  subst hq
  obtain ⟨q', hq', g2⟩ := row_int (hx.ext e1) hbl
  cases hq'
  refine ⟨_, _, _, c2, IXS_nat hal ⟨_, g1, ?_⟩⟩
  refine ⟨_, _, _, c2, IXS_nat hbl ⟨_, g2, ⟨⟨_, g2, rfl⟩, ⟨⟨_, _, _, c2, rfl⟩, ?_⟩⟩⟩⟩
  refine ⟨_, ta.sheets, ?_⟩
  have hoa := vd.off _ (show T.off.getD a 0 ∈ T.off by rw [show T.off.getD a 0 = T.off[a] by simp [List.getD, hal]]; exact List.getElem_mem _)
  have hob := vd.off _ (show T.off.getD b 0 ∈ T.off by rw [show T.off.getD b 0 = T.off[b] by simp [List.getD, hbl]]; exact List.getElem_mem _)
  have w1 : IntKind.wrap .i64 (0 - T.off.getD a 0) = sumK (v a) 0 - offT T a := by rw [wrap_i64 (by omega) (by omega)]; unfold sumK offT; simp
  have w2 : IntKind.wrap .i64 (0 - T.off.getD b 0) = sumK (v b) 0 - offT T b := by rw [wrap_i64 (by omega) (by omega)]; unfold sumK offT; simp
  dsimp only
  rw [w1, w2]
  have hp1 := hp.ext e1
  have hro : 0 ≤ offT T a ∧ offT T a ≤ 100 := hoa
  have hrb : 0 ≤ offT T b ∧ offT T b ≤ 100 := hob
  refine L_law10_order_0_rule W _ p T.n cp a b ⟨s.size, 0, none⟩ T.sheets (fun u w n t => t = s1 ∧ ∃ k : Nat, k ≤ T.m ∧ n = k ∧ u = sumK (v a) k - offT T a ∧ w = sumK (v b) k - offT T b) (fun _ _ n _ => (T.m - n).toNat) _ _ 0 s1 ⟨rfl, 0, by omega, rfl, rfl, rfl⟩ ?_
  rintro n30 n31 n32 t ⟨rfl, k, hk, rfl, rfl, rfl⟩
  have la := sumK_lim (v := v a) T.m k hk fun j hj => hv a j ha hj
  have lb := sumK_lim (v := v b) T.m k hk fun j hj => hv b j hb hj
  unfold B_law10_order_0
  refine BR_dec (fun h1 => ?_) (fun h1 => ?_)
  · have hkm : k < T.m := by omega
    have va := hv a k ha hkm
    have vb := hv b k hb hkm
    refine hp1.rd ha hkm ?_
    obtain ⟨pa, py, pc, hpa, g3, g4⟩ := hp1 b hb
    subst hpa
    obtain ⟨py', hpy', g5⟩ := row_int g4 (show k < _ by simpa using hkm)
    subst hpy'
    have gv : ((List.range T.m).map (v b)).getD k 0 = v b k := by simp [List.getD, hkm]
    rw [gv] at g5
    refine IXS_nat hb ⟨_, _, _, g3, IXS_nat hkm ⟨_, g5, ⟨⟨_, g5, rfl⟩, ⟨⟨_, _, _, g3, rfl⟩, ?_⟩⟩⟩⟩
    refine ⟨rfl, _, _, _, rfl, ⟨rfl, k + 1, by omega, wrap_succ (by omega), ?_, ?_⟩, ms_succ hkm (by omega)⟩
    · rw [sumK_succ, wrap_i64 (by omega) (by omega)]; omega
    · rw [sumK_succ, wrap_i64 (by omega) (by omega)]; omega
  · have hkm : k = T.m := by omega
    subst hkm
    have hr : ∀ i, rowG (v i) T.m (offT T i) = (sumK (v i) T.m - offT T i) :: (List.range T.m).map (v i) := fun i => rfl
    refine BR_ne (fun hne => ?_) (fun heq => ?_)
    · refine BR_dec (fun hgt => ?_) (fun hle => ?_)
      · have : ordP T v a b = 1 := by
          unfold ordP
          rw [hr a, hr b]
          unfold aheadL
          rw [if_neg hne, decide_eq_true hgt]; rfl
        rw [this] at h; exact h t e1
      · have : ordP T v a b = -1 := by
          unfold ordP
          rw [hr a, hr b]
          unfold aheadL
          rw [if_neg hne, decide_eq_false hle, if_neg (show ¬ (false = true) by simp), if_neg (show ¬ (sumK (v b) T.m - offT T b = sumK (v a) T.m - offT T a) from fun e => hne e.symm), decide_eq_true (by omega)]; rfl
        rw [this] at h; exact h t e1
    · have ho : ordP T v a b = if aheadL ((List.range T.m).map (v a)) ((List.range T.m).map (v b)) then 1 else if aheadL ((List.range T.m).map (v b)) ((List.range T.m).map (v a)) then -1 else 0 := by
        unfold ordP
        rw [hr a, hr b]
        show (if (if _ then _ else _) = true then (1 : Int) else if (if _ then _ else _) = true then -1 else 0) = _
        rw [if_pos heq, if_pos heq.symm]
      have hg : ∀ i j, j < T.m → ((List.range T.m).map (v i)).getD j 0 = v i j := fun i j hj => by simp [List.getD, hj]
      refine ⟨_, ta.sheets, ?_⟩
      refine L_law10_order_1_rule W _ p T.n cp a b T.sheets (fun n t' => t' = t ∧ ∃ k : Nat, k ≤ T.m ∧ n = k ∧ ∀ j, j < k → v a j = v b j) (fun n _ => (T.m - n).toNat) 0 t ⟨rfl, 0, by omega, rfl, fun j hj => by omega⟩ ?_
      rintro n50 t ⟨rfl, k, hk', rfl, hall⟩
      unfold B_law10_order_1
      refine BR_dec (fun h2 => ?_) (fun h2 => ?_)
      · have hkm : k < T.m := by omega
        refine hp1.rd ha hkm ?_
        refine hp1.rd hb hkm ?_
        refine BR_dec (fun h3 => ?_) (fun h3 => ?_)
        · have h4 := ahead_drop ((List.range T.m).map (v a)) ((List.range T.m).map (v b)) k (fun j hj => by rw [hg a j (by omega), hg b j (by omega)]; exact hall j hj) (by simpa using hkm) (by simpa using hkm) (by rw [hg a k hkm, hg b k hkm]; omega)
          rw [hg a k hkm, hg b k hkm, decide_eq_true h3] at h4
          rw [ho, h4, if_pos rfl] at h
          exact h t e1
        · refine hp1.rd ha hkm ?_
          refine hp1.rd hb hkm ?_
          refine BR_dec (fun h4 => ?_) (fun h4 => ?_)
          · have h5 := ahead_drop ((List.range T.m).map (v a)) ((List.range T.m).map (v b)) k (fun j hj => by rw [hg a j (by omega), hg b j (by omega)]; exact hall j hj) (by simpa using hkm) (by simpa using hkm) (by rw [hg a k hkm, hg b k hkm]; omega)
            have h6 := ahead_drop ((List.range T.m).map (v b)) ((List.range T.m).map (v a)) k (fun j hj => by rw [hg a j (by omega), hg b j (by omega)]; exact (hall j hj).symm) (by simpa using hkm) (by simpa using hkm) (by rw [hg a k hkm, hg b k hkm]; omega)
            rw [hg a k hkm, hg b k hkm, decide_eq_false (by omega)] at h5
            rw [hg a k hkm, hg b k hkm, decide_eq_true (by omega)] at h6
            rw [ho, h5, h6, if_neg (by simp), if_pos rfl] at h
            exact h t e1
          · refine ⟨rfl, _, rfl, ⟨rfl, k + 1, by omega, wrap_succ (by omega), fun j hj => ?_⟩, ms_succ hkm (by omega)⟩
            by_cases e : j = k
            · subst e; omega
            · exact hall j (by omega)
      · have hkm : k = T.m := by omega
        subst hkm
        have he : (List.range T.m).map (v a) = (List.range T.m).map (v b) := List.map_congr_left fun j hj => hall j (List.mem_range.1 hj)
        rw [ho, he, ahead_same, if_neg (by simp), if_neg (by simp)] at h
        exact h t e1
end
end Go.Proofs.Ytkgcbfbbcaajpaa.G
