import Derived.Test.YtkgcbfbbcaajpaaC2
/- Lemmas: contracts over the visible heap, and that they are sound; no condition. -/
/- Rank: what the document fixes. -/
set_option linter.unusedSimpArgs false
set_option linter.unusedVariables false
set_option maxRecDepth 20000
namespace Go.Proofs.Ytkgcbfbbcaajpaa.G
open Go.V
def ST : Tb := ⟨3, 2, [0, 2, 0], [⟨0, 0, 20, 20⟩, ⟨0, 1, 15, 15⟩, ⟨1, 0, 22, 22⟩, ⟨1, 1, 10, 18⟩, ⟨2, 0, 18, 20⟩, ⟨2, 1, 17, 17⟩]⟩
theorem st_sum : sumP ST 1 = ((30, 38), 0) := by decide +kernel
theorem st_bef : befR ST 0 2 = (1, 0) := by decide +kernel
theorem st_plc : plcR ST 0 = ((1, 3), 0) := by decide +kernel
theorem st_win : winP ST = (0, 7, 0) := by decide +kernel
theorem st_eq : eqR ST 0 2 = (false, 0) := by decide +kernel
theorem st_could : couldR ST 2 1 = (8, 0) := by decide +kernel
theorem st_need : needR ST 1 1 1 = (17, 0) := by decide +kernel
theorem st_order : orderR ST = ([0, 1, 2], 0) := by decide +kernel
theorem zc_25 : zc Pg 25 = [.int .i64 0, .int .i64 0, .slice none 0 0, .slice none 0 0] := by kernel_rfl
section
variable {W : World} {K : VK} {E : List PanicEntry → Hp → Prop} {s : Hp}
theorem f_Ints {x y : Option Addr} {c c' : Nat} {a b : List Int} (ha : RowAt s x (ints a)) (hb : RowAt s y (ints b)) (hla : a.length ≤ 100000) (h : K (.bool (decide (a = b))) s) :
    CALL Pg W F_ref10_Ints [.slice x a.length c, .slice y b.length c'] K E s := by
  refine does_ref10_Ints W x a.length c y b.length c' _ s ?_
  unfold T_ref10_Ints
  refine BR_ne (fun h1 => ?_) (fun h1 => ?_)
  · have : ¬ a = b := fun e => h1 (by rw [e])
    rw [decide_eq_false this] at h
    exact h
  have hl : a.length = b.length := by omega
  refine L_ref10_Ints_0_rule W _ x a.length c y b.length c' (fun _ n8 t => t = s ∧ ∃ k : Nat, k ≤ a.length ∧ n8 = k ∧ ∀ j (h1 : j < a.length) (h2 : j < b.length), j < k → a[j] = b[j]) (fun _ n8 _ => (a.length - n8).toNat) false 0 s ⟨rfl, 0, by omega, rfl, fun j _ _ hj => by omega⟩ ?_
  rintro b7 n8 t ⟨rfl, k, hk, rfl, heq⟩
  unfold B_ref10_Ints_0
  refine BR_dec (fun h2 => ?_) (fun h2 => ?_)
  · have hka : k < a.length := by omega
    have hkb : k < b.length := by omega
    have hva : k < (ints a).length := by rw [ints_len]; exact hka
    have hvb : k < (ints b).length := by rw [ints_len]; exact hkb
    obtain ⟨p, hp, g⟩ := ha k hva
    obtain ⟨q, hq, g'⟩ := hb k hvb
    rw [ints_get hva] at g
    rw [ints_get hvb] at g'
    have tk : ((k : Int)).toNat = k := by omega
    refine ⟨p, hp, ⟨by omega, by omega⟩, _, by rw [tk]; exact g, q, hq, ⟨by omega, by omega⟩, _, by rw [tk]; exact g', ?_⟩
    refine BR_ne (fun h3 => ?_) (fun h3 => ?_)
    · have : ¬ a = b := fun e => by subst e; exact h3 rfl
      rw [decide_eq_false this] at h
      exact h
    · refine ⟨rfl, _, _, rfl, ⟨rfl, k + 1, hka, ?_, ?_⟩, ?_⟩
      · rw [wrap_i64 (by omega) (by omega)]; rfl
      · intro j h4 h5 hj
        by_cases hjk : j < k
        · exact heq j h4 h5 hjk
        · have : j = k := by omega
          subst this
          exact h3
      · show ((a.length : Int) - IntKind.i64.wrap ((k : Int) + 1)).toNat < ((a.length : Int) - k).toNat
        rw [wrap_i64 (by omega) (by omega)]; omega
  · have : a = b := List.ext_getElem hl (fun j h3 h4 => heq j h3 h4 (by omega))
    rw [decide_eq_true this] at h
    exact h

theorem f_IntsN {x y : Option Addr} {c c' l l' : Nat} {a b : List Int} (ha : RowAt s x (ints a)) (hb : RowAt s y (ints b)) (hla : a.length ≤ 100000) (hl : l = a.length) (hl' : l' = b.length) (h : K (.bool (decide (a = b))) s) : CALL Pg W F_ref10_Ints [.slice x l c, .slice y l' c'] K E s := by
  subst hl
  subst hl'
  exact f_Ints ha hb hla h
theorem c_span {a b : Int} (h : ∀ s', Ext s s' → K (spanV (a, b)) s') : CALL Pg W F_law10_span [.int .i64 a, .int .i64 b] K E s := by
  refine does_law10_span W a b _ s ?_
  unfold T_law10_span
  refine NEWZ_rule zc_29 fun s1 e1 z1 n1 => ?_
  refine fin_span (R := endK K E) (n1 0 _ rfl) (n1 1 _ rfl) fun s' k => h s' (kp_new e1 (Nat.le_refl _) k)
theorem rd4 {s : Hp} {a : Addr} {v0 v1 v2 v3 : Int} {KK : Int → Int → Int → Int → Hp → Prop} (h0 : Own s (a.add 0) (.int .i64 v0)) (h1 : Own s (a.add 1) (.int .i64 v1)) (h2 : Own s (a.add 2) (.int .i64 v2)) (h3 : Own s (a.add 3) (.int .i64 v3)) (h : KK v0 v1 v2 v3 s) :
    (RDI .i64 (a.add 0) fun n0 => RDI .i64 (a.add 1) fun n1 => RDI .i64 (a.add 2) fun n2 => RDI .i64 (a.add 3) fun n3 => KK n0 n1 n2 n3) s := ⟨_, h0.cell, _, h1.cell, _, h2.cell, _, h3.cell, h⟩
def scV (x : Sc) : Value := .agg #[.int .i64 x.man, .int .i64 x.sheet, .int .i64 x.lo, .int .i64 x.hi]
theorem c_sc {a b c d : Int} (h : ∀ s', Ext s s' → K (scV ⟨a, b, c, d⟩) s') : CALLV Pg W (.func (.func 71) #[] #[]) [.int .i64 a, .int .i64 b, .int .i64 c, .int .i64 d] K E s := by
  refine CALLV_func ?_
  refine does_law10_sample_c1 W a b c d _ s ?_
  unfold T_law10_sample_c1
  refine NEWZ_rule zc_55 fun s1 e1 z1 n1 => ?_
  refine c_span fun s2 e2 => ?_
  unfold spanV
  try simp only [TUP_mk, AGG_mk, HD_mk, NL_mk, TYI_mk, TYB_mk, TYP_mk, TYL_mk, TYS_mk, TYM_mk, SO_mk, NX_mk, endK_mk, endK_mk', add_0]
  refine wr4 rfl rfl rfl rfl (fun j hj => by obtain ⟨y, hy⟩ := new4 n1 j hj; exact ⟨y, e2.own hy⟩) fun s3 k3 z3 o0 o1 o2 o3 => ?_
  refine rd4 o0 o1 o2 o3 ?_
  exact h s3 (ext_own (e1.trans e2) (Nat.le_refl _) k3)
/-- The cells of scores. -/
def scs (l : List Sc) : List Value := l.flatMap fun x => [.int .i64 x.man, .int .i64 x.sheet, .int .i64 x.lo, .int .i64 x.hi]
theorem scs_get : ∀ (l : List Sc) (i : Nat) (h : i < l.length), (scs l)[i * 4]? = some (.int .i64 l[i].man) ∧ (scs l)[i * 4 + 1]? = some (.int .i64 l[i].sheet) ∧ (scs l)[i * 4 + 2]? = some (.int .i64 l[i].lo) ∧ (scs l)[i * 4 + 3]? = some (.int .i64 l[i].hi)
  | [], i, h => by simp at h
  | x :: l, 0, h => ⟨rfl, rfl, rfl, rfl⟩
  | x :: l, i + 1, h => by
    obtain ⟨h1, h2, h3, h4⟩ := scs_get l i (by simpa using h)
    have key : ∀ j, (scs (x :: l))[(i + 1) * 4 + j]? = (scs l)[i * 4 + j]? := fun j => by
      show ([Value.int .i64 x.man, .int .i64 x.sheet, .int .i64 x.lo, .int .i64 x.hi] ++ scs l)[(i + 1) * 4 + j]? = _
      rw [List.getElem?_append_right (by simp; omega)]
      congr 1
      simp; omega
    have k0 := key 0
    rw [Nat.add_zero, Nat.add_zero] at k0
    rw [k0, key 1, key 2, key 3]
    exact ⟨h1, h2, h3, h4⟩
theorem scAt_new {s : Hp} {b : Nat} {l : List Sc} (n1 : ∀ i v, (scs l)[i]? = some v → Own s ⟨b, i, none⟩ v) : ScAt s (some ⟨b, 0, none⟩) l := fun i hi => by
  obtain ⟨h1, h2, h3, h4⟩ := scs_get l i hi
  have key : ∀ j v, (scs l)[i * 4 + j]? = some v → cellAt s (((⟨b, 0, none⟩ : Addr).add (i * 4)).add j) = some v := fun j v hv => by
    rw [addr_add, add_nil, Nat.zero_add]
    exact (n1 _ _ hv).cell
  exact ⟨_, rfl, key 0 _ h1, key 1 _ h2, key 2 _ h3, key 3 _ h4⟩
theorem c_sample (h : ∀ s' x y, Ext s s' → RowAt s' x (ints ST.off) → ScAt s' y ST.sc → K (.agg #[.int .i64 3, .int .i64 2, .slice x 3 3, .slice y 6 6]) s') : CALL Pg W F_law10_sample [] K E s := by
  refine does_law10_sample W _ s ?_
  unfold T_law10_sample
  refine NEWZ_rule zc_25 fun s1 e1 z1 n1 => ?_
  refine NEW_rule fun s2 e2 z2 n2 _ => ?_
  refine c_sc fun s3 e3 => ?_
  unfold scV
  try simp only [TUP_mk, AGG_mk, HD_mk, NL_mk, TYI_mk, TYB_mk, TYP_mk, TYL_mk, TYS_mk, TYM_mk, SO_mk, NX_mk, endK_mk, endK_mk', add_0]
  refine c_sc fun s4 e4 => ?_
  unfold scV
  try simp only [TUP_mk, AGG_mk, HD_mk, NL_mk, TYI_mk, TYB_mk, TYP_mk, TYL_mk, TYS_mk, TYM_mk, SO_mk, NX_mk, endK_mk, endK_mk', add_0]
  refine c_sc fun s5 e5 => ?_
  unfold scV
  try simp only [TUP_mk, AGG_mk, HD_mk, NL_mk, TYI_mk, TYB_mk, TYP_mk, TYL_mk, TYS_mk, TYM_mk, SO_mk, NX_mk, endK_mk, endK_mk', add_0]
  refine c_sc fun s6 e6 => ?_
  unfold scV
  try simp only [TUP_mk, AGG_mk, HD_mk, NL_mk, TYI_mk, TYB_mk, TYP_mk, TYL_mk, TYS_mk, TYM_mk, SO_mk, NX_mk, endK_mk, endK_mk', add_0]
  refine c_sc fun s7 e7 => ?_
  unfold scV
  try simp only [TUP_mk, AGG_mk, HD_mk, NL_mk, TYI_mk, TYB_mk, TYP_mk, TYL_mk, TYS_mk, TYM_mk, SO_mk, NX_mk, endK_mk, endK_mk', add_0]
  refine c_sc fun s8 e8 => ?_
  unfold scV
  try simp only [TUP_mk, AGG_mk, HD_mk, NL_mk, TYI_mk, TYB_mk, TYP_mk, TYL_mk, TYS_mk, TYM_mk, SO_mk, NX_mk, endK_mk, endK_mk', add_0]
  have e28 := e3.trans (e4.trans (e5.trans (e6.trans (e7.trans e8))))
  refine NEW_rule fun s9 e9 z9 n9 _ => ?_
  have e29 := e28.trans e9
  have e19 := e2.trans e29
  refine wr4 rfl rfl rfl rfl (fun j hj => by obtain ⟨y, hy⟩ := new4 n1 j hj; exact ⟨y, e19.own hy⟩) fun t k z o0 o1 o2 o3 => ?_
  refine ⟨_, o0.cell, _, o1.cell, _, _, _, o2.cell, _, _, _, o3.cell, ?_⟩
  have hz1 := e2.1
  have hz2 := e28.1
  have hs2 : s2.size = s1.size + 1 := z2
  refine h t _ _ (ext_own (e1.trans e19) (Nat.le_refl _) k) ?_ ?_
  · exact ((row_new n2).ext e29).keep k (fun a ha => by cases ha; show ¬ s1.size = s.size; omega)
  · have hsc : ScAt s9 (some ⟨s8.size, 0, none⟩) ST.sc := scAt_new (l := ST.sc) n9
    intro i hi
    obtain ⟨a, ha, g0, g1, g2, g3⟩ := hsc i hi
    cases ha
    have kc : ∀ {j : Nat} {v : Value}, cellAt s9 (((⟨s8.size, 0, none⟩ : Addr).add (i * 4)).add j) = some v → cellAt t (((⟨s8.size, 0, none⟩ : Addr).add (i * 4)).add j) = some v := fun hc => k.cell (by rw [add_blk, add_blk]; show ¬ s8.size = s.size; omega) hc
    exact ⟨_, rfl, kc g0, kc g1, kc g2, kc g3⟩
end
end Go.Proofs.Ytkgcbfbbcaajpaa.G

/- Rank: what the document fixes holds. -/
set_option linter.unusedSimpArgs false
set_option linter.unusedVariables false
set_option maxRecDepth 20000
namespace Go.Proofs.Ytkgcbfbbcaajpaa.G
open Go.V
section
variable {W : World} {K : VK} {E : List PanicEntry → Hp → Prop} {s : Hp} {x y : Option Addr} {c c' : Nat}
theorem x_Sum (hx : RowAt s x (ints ST.off)) (hy : ScAt s y ST.sc) (h : ∀ s', Ext s s' → K (.tuple #[spanV (30, 38), .int .i64 0]) s') : CALL Pg W F_rank_Sum [.agg #[.int .i64 3, .int .i64 2, .slice x 3 c, .slice y 6 c'], .int .i64 1] K E s :=
  c_Sum (T := ST) (i := 1) hx hy (by decide) (by rw [st_sum]; exact h)
theorem x_Before (hx : RowAt s x (ints ST.off)) (hy : ScAt s y ST.sc) (h : ∀ s', Ext s s' → K (.tuple #[.int .i64 1, .int .i64 0]) s') : CALL Pg W F_rank_Before [.agg #[.int .i64 3, .int .i64 2, .slice x 3 c, .slice y 6 c'], .int .i64 0, .int .i64 2] K E s :=
  c_Before (T := ST) (a := 0) (b := 2) hx hy (by decide) (by rw [st_bef]; exact h)
theorem x_Place (hx : RowAt s x (ints ST.off)) (hy : ScAt s y ST.sc) (h : ∀ s', Ext s s' → K (.tuple #[spanV (1, 3), .int .i64 0]) s') : CALL Pg W F_rank_Place [.agg #[.int .i64 3, .int .i64 2, .slice x 3 c, .slice y 6 c'], .int .i64 0] K E s :=
  c_Place (T := ST) (i := 0) hx hy (by decide) (by rw [st_plc]; exact h)
theorem x_Winners (hx : RowAt s x (ints ST.off)) (hy : ScAt s y ST.sc) (h : ∀ s', Ext s s' → K (.tuple #[.int .i64 0, .int .i64 7, .int .i64 0]) s') : CALL Pg W F_rank_Winners [.agg #[.int .i64 3, .int .i64 2, .slice x 3 c, .slice y 6 c']] K E s :=
  c_Winners (T := ST) hx hy (by decide) (by rw [st_win]; exact h)
theorem x_Equal (hx : RowAt s x (ints ST.off)) (hy : ScAt s y ST.sc) (h : ∀ s', Ext s s' → K (.tuple #[.bool false, .int .i64 0]) s') : CALL Pg W F_rank_Equal [.agg #[.int .i64 3, .int .i64 2, .slice x 3 c, .slice y 6 c'], .int .i64 0, .int .i64 2] K E s :=
  c_Equal (T := ST) (a := 0) (b := 2) hx hy (by decide) (by rw [st_eq]; exact h)
theorem x_Could (hx : RowAt s x (ints ST.off)) (hy : ScAt s y ST.sc) (h : ∀ s', Ext s s' → K (.tuple #[.int .i64 8, .int .i64 0]) s') : CALL Pg W F_rank_Could [.agg #[.int .i64 3, .int .i64 2, .slice x 3 c, .slice y 6 c'], .int .i64 2, .int .i64 1] K E s :=
  c_Could (T := ST) (a := 2) (b := 1) hx hy (by decide) (by rw [st_could]; exact h)
theorem x_Need (hx : RowAt s x (ints ST.off)) (hy : ScAt s y ST.sc) (h : ∀ s', Ext s s' → K (.tuple #[.int .i64 17, .int .i64 0]) s') : CALL Pg W F_rank_Need [.agg #[.int .i64 3, .int .i64 2, .slice x 3 c, .slice y 6 c'], .int .i64 1, .int .i64 1, .int .i64 1] K E s :=
  c_Need (T := ST) (a := 1) (b := 1) (pl := 1) hx hy (by decide) (by rw [st_need]; exact h)
theorem x_Order (hx : RowAt s x (ints ST.off)) (hy : ScAt s y ST.sc) (h : ∀ s' z cz, Ext s s' → RowAt s' z (ints [0, 1, 2]) → K (.tuple #[.slice z 3 cz, .int .i64 0]) s') : CALL Pg W F_rank_Order [.agg #[.int .i64 3, .int .i64 2, .slice x 3 c, .slice y 6 c']] K E s :=
  c_Order (T := ST) hx hy (by decide) (by rw [st_order]; exact fun s' z cz e r _ => h s' z cz e r)
theorem c_awake (h : ∀ s', Ext s s' → K (.bool true) s') : CALL Pg W F_law10_awake [] K E s := by
  refine does_law10_awake W _ s ?_
  unfold T_law10_awake
  refine c_sample fun s1 x1 y1 e1 r1 q1 => ?_
  try simp only [TUP_mk, AGG_mk, HD_mk, NL_mk, TYI_mk, TYB_mk, TYP_mk, TYL_mk, TYS_mk, TYM_mk, SO_mk, NX_mk, endK_mk, endK_mk', add_0]
  refine x_Sum r1 q1 fun s2 e2 => ?_
  unfold spanV
  try simp only [TUP_mk, AGG_mk, HD_mk, NL_mk, TYI_mk, TYB_mk, TYP_mk, TYL_mk, TYS_mk, TYM_mk, SO_mk, NX_mk, endK_mk, endK_mk', add_0]
  refine NEWZ_rule zc_29 fun s3 e3 z3 n3 => ?_
  refine wr2 rfl rfl (new2 n3) fun s4 k4 z4 a0 a1 => ?_
  have e24 : Ext s2 s4 := ext_own e3 (Nat.le_refl _) k4
  have e04 := e1.trans (e2.trans e24)
  refine c_sample fun s5 x5 y5 e5 r5 q5 => ?_
  try simp only [TUP_mk, AGG_mk, HD_mk, NL_mk, TYI_mk, TYB_mk, TYP_mk, TYL_mk, TYS_mk, TYM_mk, SO_mk, NX_mk, endK_mk, endK_mk', add_0]
  refine x_Before r5 q5 fun s6 e6 => ?_
  try simp only [TUP_mk, AGG_mk, HD_mk, NL_mk, TYI_mk, TYB_mk, TYP_mk, TYL_mk, TYS_mk, TYM_mk, SO_mk, NX_mk, endK_mk, endK_mk', add_0]
  refine c_sample fun s7 x7 y7 e7 r7 q7 => ?_
  try simp only [TUP_mk, AGG_mk, HD_mk, NL_mk, TYI_mk, TYB_mk, TYP_mk, TYL_mk, TYS_mk, TYM_mk, SO_mk, NX_mk, endK_mk, endK_mk', add_0]
  refine x_Place r7 q7 fun s8 e8 => ?_
  unfold spanV
  try simp only [TUP_mk, AGG_mk, HD_mk, NL_mk, TYI_mk, TYB_mk, TYP_mk, TYL_mk, TYS_mk, TYM_mk, SO_mk, NX_mk, endK_mk, endK_mk', add_0]
  have e48 := e5.trans (e6.trans (e7.trans e8))
  refine NEWZ_rule zc_29 fun s9 e9 z9 n9 => ?_
  refine wr2 rfl rfl (new2 n9) fun t1 kt1 zt1 b0 b1 => ?_
  have e8t : Ext s8 t1 := ext_own e9 (Nat.le_refl _) kt1
  have e4t := e48.trans e8t
  refine c_sample fun t2 x2 y2 f2 r2 q2 => ?_
  try simp only [TUP_mk, AGG_mk, HD_mk, NL_mk, TYI_mk, TYB_mk, TYP_mk, TYL_mk, TYS_mk, TYM_mk, SO_mk, NX_mk, endK_mk, endK_mk', add_0]
  refine x_Winners r2 q2 fun t3 f3 => ?_
  try simp only [TUP_mk, AGG_mk, HD_mk, NL_mk, TYI_mk, TYB_mk, TYP_mk, TYL_mk, TYS_mk, TYM_mk, SO_mk, NX_mk, endK_mk, endK_mk', add_0]
  refine c_sample fun t4 x4 y4 f4 r4 q4 => ?_
  try simp only [TUP_mk, AGG_mk, HD_mk, NL_mk, TYI_mk, TYB_mk, TYP_mk, TYL_mk, TYS_mk, TYM_mk, SO_mk, NX_mk, endK_mk, endK_mk', add_0]
  refine x_Equal r4 q4 fun t5 f5 => ?_
  try simp only [TUP_mk, AGG_mk, HD_mk, NL_mk, TYI_mk, TYB_mk, TYP_mk, TYL_mk, TYS_mk, TYM_mk, SO_mk, NX_mk, endK_mk, endK_mk', add_0]
  refine c_sample fun t6 x6 y6 f6 r6 q6 => ?_
  try simp only [TUP_mk, AGG_mk, HD_mk, NL_mk, TYI_mk, TYB_mk, TYP_mk, TYL_mk, TYS_mk, TYM_mk, SO_mk, NX_mk, endK_mk, endK_mk', add_0]
  refine x_Could r6 q6 fun t7 f7 => ?_
  try simp only [TUP_mk, AGG_mk, HD_mk, NL_mk, TYI_mk, TYB_mk, TYP_mk, TYL_mk, TYS_mk, TYM_mk, SO_mk, NX_mk, endK_mk, endK_mk', add_0]
  refine c_sample fun t8 x8 y8 f8 r8 q8 => ?_
  try simp only [TUP_mk, AGG_mk, HD_mk, NL_mk, TYI_mk, TYB_mk, TYP_mk, TYL_mk, TYS_mk, TYM_mk, SO_mk, NX_mk, endK_mk, endK_mk', add_0]
  refine x_Need r8 q8 fun t9 f9 => ?_
  try simp only [TUP_mk, AGG_mk, HD_mk, NL_mk, TYI_mk, TYB_mk, TYP_mk, TYL_mk, TYS_mk, TYM_mk, SO_mk, NX_mk, endK_mk, endK_mk', add_0]
  refine c_sample fun u1 xu yu g1 ru qu => ?_
  try simp only [TUP_mk, AGG_mk, HD_mk, NL_mk, TYI_mk, TYB_mk, TYP_mk, TYL_mk, TYS_mk, TYM_mk, SO_mk, NX_mk, endK_mk, endK_mk', add_0]
  refine x_Order ru qu fun u2 z cz g2 rz => ?_
  try simp only [TUP_mk, AGG_mk, HD_mk, NL_mk, TYI_mk, TYB_mk, TYP_mk, TYL_mk, TYS_mk, TYM_mk, SO_mk, NX_mk, endK_mk, endK_mk', add_0]
  have f12 := f2.trans (f3.trans (f4.trans (f5.trans (f6.trans (f7.trans (f8.trans (f9.trans (g1.trans g2))))))))
  have a0' := (e4t.trans f12).own a0
  have a1' := (e4t.trans f12).own a1
  have b0' := f12.own b0
  have b1' := f12.own b1
  have e0u := e04.trans (e4t.trans f12)
  refine ⟨_, a0'.cell, _, a1'.cell, ?_⟩
  refine c_span fun u3 g3 => ?_
  unfold spanV
  try simp only [TUP_mk, AGG_mk, HD_mk, NL_mk, TYI_mk, TYB_mk, TYP_mk, TYL_mk, TYS_mk, TYM_mk, SO_mk, NX_mk, endK_mk, endK_mk', add_0]
  refine ⟨⟨_, (g3.own a0').cell, _, (g3.own a1').cell, rfl⟩, ?_⟩
  refine BR_bool (fun _ => ?_) (fun hh => absurd hh (by decide))
  unfold J_law10_awake_13
  refine BR_eq (fun _ => ?_) (fun hh => absurd rfl hh)
  unfold J_law10_awake_12
  refine BR_eq (fun _ => ?_) (fun hh => absurd rfl hh)
  unfold J_law10_awake_11
  refine BR_eq (fun _ => ?_) (fun hh => absurd rfl hh)
  refine ⟨_, (g3.own b0').cell, _, (g3.own b1').cell, ?_⟩
  refine c_span fun u4 g4 => ?_
  unfold spanV
  try simp only [TUP_mk, AGG_mk, HD_mk, NL_mk, TYI_mk, TYB_mk, TYP_mk, TYL_mk, TYS_mk, TYM_mk, SO_mk, NX_mk, endK_mk, endK_mk', add_0]
  refine ⟨⟨_, (g4.own (g3.own b0')).cell, _, (g4.own (g3.own b1')).cell, rfl⟩, ?_⟩
  unfold J_law10_awake_10
  refine BR_bool (fun _ => ?_) (fun hh => absurd hh (by decide))
  unfold J_law10_awake_9
  refine BR_eq (fun _ => ?_) (fun hh => absurd rfl hh)
  unfold J_law10_awake_8
  refine BR_eq (fun _ => ?_) (fun hh => absurd rfl hh)
  unfold J_law10_awake_7
  refine BR_eq (fun _ => ?_) (fun hh => absurd rfl hh)
  unfold J_law10_awake_6
  refine BR_eq (fun _ => ?_) (fun hh => absurd rfl hh)
  unfold J_law10_awake_5
  refine BR_bool (fun _ => ?_) (fun hh => absurd hh (by decide))
  unfold J_law10_awake_4
  refine BR_eq (fun _ => ?_) (fun hh => absurd rfl hh)
  unfold J_law10_awake_3
  refine BR_eq (fun _ => ?_) (fun hh => absurd rfl hh)
  unfold J_law10_awake_2
  refine BR_eq (fun _ => ?_) (fun hh => absurd rfl hh)
  unfold J_law10_awake_1
  refine BR_eq (fun _ => ?_) (fun hh => absurd rfl hh)
  unfold J_law10_awake_0
  refine BR_eq (fun _ => ?_) (fun hh => absurd rfl hh)
  refine NEW_rule fun u5 g5 z5 n5 _ => ?_
  refine f_IntsN (a := [0, 1, 2]) (b := [0, 1, 2]) (rz.ext (g3.trans (g4.trans g5))) (row_new (vs := ints [0, 1, 2]) n5) (by decide) rfl rfl ?_
  try simp only [TUP_mk, AGG_mk, HD_mk, NL_mk, TYI_mk, TYB_mk, TYP_mk, TYL_mk, TYS_mk, TYM_mk, SO_mk, NX_mk, endK_mk, endK_mk', add_0]
  refine BR_bool (fun _ => ?_) (fun hh => absurd hh (by decide))
  exact h u5 (e0u.trans (g3.trans (g4.trans g5)))
end
end Go.Proofs.Ytkgcbfbbcaajpaa.G

/- The document's functions of layer 10: is a table valid? -/
set_option linter.unusedSimpArgs false
set_option linter.unusedVariables false
set_option maxRecDepth 20000
namespace Go.Proofs.Ytkgcbfbbcaajpaa.G
open Go.V
/-- A table as an argument lies. -/
structure TbA (s : Hp) (za : Addr) (T : Tb) : Prop where
  men : cellAt s (za.add 0) = some (.int .i64 T.men)
  sheets : cellAt s (za.add 1) = some (.int .i64 T.sheets)
  off : ∃ x c, cellAt s (za.add 2) = some (.slice x T.off.length c) ∧ RowAt s x (ints T.off)
  sc : ∃ y c, cellAt s (za.add 3) = some (.slice y T.sc.length c) ∧ ScAt s y T.sc
theorem TbA.ext {s s' : Hp} {za : Addr} {T : Tb} (e : Ext s s') (h : TbA s za T) : TbA s' za T where
  men := e.cell h.men
  sheets := e.cell h.sheets
  off := by obtain ⟨x, c, h1, h2⟩ := h.off; exact ⟨x, c, e.cell h1, h2.ext e⟩
  sc := by obtain ⟨x, c, h1, h2⟩ := h.sc; exact ⟨x, c, e.cell h1, h2.ext e⟩
theorem tbA_new {s s1 : Hp} {b : Nat} {T : Tb} {x y : Option Addr} {c c' : Nat} (e : Ext s s1) (hx : RowAt s x (ints T.off)) (hy : ScAt s y T.sc) (n1 : ∀ i v, [Value.int .i64 T.men, .int .i64 T.sheets, .slice x T.off.length c, .slice y T.sc.length c'][i]? = some v → Own s1 ⟨b, i, none⟩ v) : TbA s1 ⟨b, 0, none⟩ T :=
  ⟨(n1 0 _ rfl).cell, (n1 1 _ rfl).cell, ⟨x, c, (n1 2 _ rfl).cell, hx.ext e⟩, ⟨y, c', (n1 3 _ rfl).cell, hy.ext e⟩⟩
section
variable {W : World} {K : VK} {E : List PanicEntry → Hp → Prop} {s : Hp} {T : Tb}
theorem f_in {a b c : Int} (h : K (.bool (decide (b ≤ a ∧ a ≤ c))) s) : CALL Pg W F_ref10_in [.int .i64 a, .int .i64 b, .int .i64 c] K E s := by
  refine does_ref10_in W a b c _ s ?_
  unfold T_ref10_in
  refine BR_dec (fun h1 => ?_) (fun h1 => ?_)
  · have : decide (b ≤ a ∧ a ≤ c) = decide (a ≤ c) := by simp [h1]
    rw [← this]; exact h
  · have : decide (b ≤ a ∧ a ≤ c) = false := by simp [h1]
    rw [← this]; exact h
theorem f_Table {x y : Option Addr} {c c' : Nat} (hx : RowAt s x (ints T.off)) (hy : ScAt s y T.sc) (hlo : T.off.length ≤ 100000) (h : ∀ s', Ext s s' → K (.bool (okT T)) s') :
    CALL Pg W F_ref10_Table [.agg #[.int .i64 T.men, .int .i64 T.sheets, .slice x T.off.length c, .slice y T.sc.length c']] K E s := by
  refine does_ref10_Table W T.men T.sheets x T.off.length c y T.sc.length c' _ s ?_
  unfold T_ref10_Table
  refine NEW_rule fun s1 e1 z1 n1 _ => ?_
  have ta := tbA_new e1 hx hy n1
  have no : okT T = false → ∀ t, Ext s1 t → (endK K E) (.returned (.bool false)) t := fun hf t et => by
    have := h t (e1.trans et)
    rw [hf] at this; exact this
  have hokT : okT T = (decide (1 ≤ T.men ∧ T.men ≤ 6) && (decide (1 ≤ T.sheets ∧ T.sheets ≤ 5) && (decide ((T.off.length : Int) = T.men) && (!T.off.any badO && (decide (T.sc.length ≤ 30) && okS T [] T.sc))))) := rfl
  -- the loops
  have loops : ((1 ≤ T.men ∧ T.men ≤ 6) ∧ (1 ≤ T.sheets ∧ T.sheets ≤ 5)) → okT T = (!T.off.any badO && okS T [] T.sc) → T.sc.length ≤ 30 → L_ref10_Table_0 W (endK K E) ⟨s.size, 0, none⟩ false 0 s1 := by
    intro hms hok h30
    refine L_ref10_Table_0_rule W _ ⟨s.size, 0, none⟩ (fun _ n t => Ext s1 t ∧ ∃ k : Nat, k ≤ T.off.length ∧ n = k ∧ ∀ j, j < k → badO (T.off.getD j 0) = false) (fun _ n _ => (T.off.length - n).toNat) false 0 s1 ⟨Ext.refl _, 0, by omega, rfl, fun j hj => by omega⟩ ?_
    rintro b28 n29 t ⟨et, k, hk, rfl, hz⟩
    obtain ⟨x1, c1, g1, g2⟩ := (ta.ext et).off
    unfold B_ref10_Table_0
    refine ⟨_, _, _, g1, ?_⟩
    refine BR_dec (fun h1 => ?_) (fun h1 => ?_)
    · have hkl : k < T.off.length := by omega
      obtain ⟨a, ha, g⟩ := row_int g2 hkl
      have tk : ((k : Int)).toNat = k := by omega
      refine ⟨_, _, _, g1, a, ha, ⟨by omega, by omega⟩, _, by rw [tk]; exact g, ?_⟩
      refine f_in ?_
      try simp only [TUP_mk, AGG_mk, HD_mk, NL_mk, TYI_mk, TYB_mk, TYP_mk, TYL_mk, TYS_mk, TYM_mk, SO_mk, NX_mk, endK_mk, endK_mk', add_0]
      have hb : (!decide (0 ≤ T.off.getD k 0 ∧ T.off.getD k 0 ≤ 100)) = badO (T.off.getD k 0) := rfl
      refine BR_bool (fun h2 => ?_) (fun h2 => ?_)
      · have hany : T.off.any badO = true := List.any_eq_true.2 ⟨T.off[k], List.getElem_mem hkl, by rw [show T.off[k] = T.off.getD k 0 by simp [List.getD, hkl]]; exact h2⟩
        exact no (by rw [hok, hany]; rfl) t et
      · have hw : IntKind.i64.wrap ((k : Int) + 1) = ((k + 1 : Nat) : Int) := by rw [wrap_i64 (by omega) (by omega)]; rfl
        refine ⟨_, _, rfl, ⟨et, k + 1, by omega, hw, fun j hj => ?_⟩, ?_⟩
        · by_cases e : j = k
          · subst e; exact h2
          · exact hz j (by omega)
        · show ((T.off.length : Int) - IntKind.i64.wrap ((k : Int) + 1)).toNat < ((T.off.length : Int) - k).toNat
          rw [hw]; omega
    · have hany : T.off.any badO = false := List.any_eq_false.2 fun y hy => by
        obtain ⟨j, hj, rfl⟩ := List.mem_iff_getElem.1 hy
        have := hz j (by omega)
        rw [show T.off.getD j 0 = T.off[j] by simp [List.getD, hj]] at this
        rw [this]; simp
      rw [hany] at hok
      have hok2 : okT T = okS T [] T.sc := by rw [hok]; rfl
      refine L_ref10_Table_1_rule W _ ⟨s.size, 0, none⟩ (fun _ n t' => Ext s1 t' ∧ ∃ i : Nat, i ≤ T.sc.length ∧ n = i ∧ okS T ((T.sc.take i).map Sc.pr) (T.sc.drop i) = okS T [] T.sc) (fun _ n _ => (T.sc.length - n).toNat) b28 0 t ⟨et, 0, by omega, rfl, rfl⟩ ?_
      rintro b41 n42 u ⟨eu, i, hi, rfl, hoki⟩
      obtain ⟨y1, cy, q1, q2⟩ := (ta.ext eu).sc
      unfold B_ref10_Table_1
      refine ⟨_, _, _, q1, ?_⟩
      refine BR_dec (fun h2 => ?_) (fun h2 => ?_)
      · have hil : i < T.sc.length := by omega
        have hdrop : T.sc.drop i = T.sc[i] :: T.sc.drop (i + 1) := List.drop_eq_getElem_cons hil
        have hcons : okS T ((T.sc.take i).map Sc.pr) (T.sc.drop i) = (okSc T ((T.sc.take i).map Sc.pr) T.sc[i] && okS T ((T.sc.take (i + 1)).map Sc.pr) (T.sc.drop (i + 1))) := by
          rw [hdrop, List.take_add_one, List.getElem?_eq_getElem hil, List.map_append]
          rfl
        have bad : okSc T ((T.sc.take i).map Sc.pr) T.sc[i] = false → okT T = false := fun hb => by rw [hok2, ← hoki, hcons, hb, Bool.false_and]
        obtain ⟨a, ha, g0, g1', g2', g3⟩ := q2 i hil
        have ti : ((i : Int)).toNat = i := by omega
        refine ⟨_, _, _, q1, a, ha, ⟨by omega, by omega⟩, ?_⟩
        rw [ti]
        refine ⟨_, g0, _, g1', _, g2', _, g3, ?_⟩
        refine NEWZ_rule zc_55 fun u1 f1 y1 m1 => ?_
        refine wr4 rfl rfl rfl rfl (new4 m1) fun u2 k2 z2 o0 o1 o2 o3 => ?_
        have e2 : Ext u u2 := ext_own f1 (Nat.le_refl _) k2
        have eu2 := eu.trans e2
        have ta2 := ta.ext eu2
        have hokc : okSc T ((T.sc.take i).map Sc.pr) T.sc[i] = (decide (0 ≤ T.sc[i].man ∧ T.sc[i].man ≤ T.men - 1) && (decide (0 ≤ T.sc[i].sheet ∧ T.sc[i].sheet ≤ T.sheets - 1) && ((findA (T.sc[i].man, T.sc[i].sheet) ((T.sc.take i).map Sc.pr) 0).isNone && (decide (0 ≤ T.sc[i].lo) && (decide (T.sc[i].lo ≤ T.sc[i].hi) && decide (T.sc[i].hi ≤ 40)))))) := rfl
        have hw : IntKind.i64.wrap ((i : Int) + 1) = ((i + 1 : Nat) : Int) := by rw [wrap_i64 (by omega) (by omega)]; rfl
        have hms' : ((T.sc.length : Int) - IntKind.i64.wrap ((i : Int) + 1)).toNat < ((T.sc.length : Int) - i).toNat := by rw [hw]; omega
        generalize hnx : (fun vs => N_ref10_Table_1 (fun _ n t' => Ext s1 t' ∧ ∃ i : Nat, i ≤ T.sc.length ∧ n = i ∧ okS T ((T.sc.take i).map Sc.pr) (T.sc.drop i) = okS T [] T.sc) (fun _ n _ => (T.sc.length - n).toNat) b41 i u vs) = nx1
        have hgo : okSc T ((T.sc.take i).map Sc.pr) T.sc[i] = true → nx1 [.bool b41, .int .i64 (IntKind.wrap .i64 ((i : Int) + 1))] u2 := fun hT => by
          rw [← hnx]
          exact ⟨_, _, rfl, ⟨eu2, i + 1, by omega, hw, by rw [← hoki, hcons, hT, Bool.true_and]⟩, hms'⟩
        -- the scores before
        have inner : okSc T ((T.sc.take i).map Sc.pr) T.sc[i] = (findA (T.sc[i].man, T.sc[i].sheet) ((T.sc.take i).map Sc.pr) 0).isNone → L_ref10_Table_2 W (endK K E) nx1 ⟨s.size, 0, none⟩ i ⟨u.size, 0, none⟩ b41 0 u2 := by
          intro hF
          obtain ⟨yy, cyy, p1, p2⟩ := ta2.sc
          refine L_ref10_Table_2_rule W _ nx1 ⟨s.size, 0, none⟩ i ⟨u.size, 0, none⟩ (fun b n t' => t' = u2 ∧ b = b41 ∧ ∃ j : Nat, j ≤ i ∧ n = j ∧ ∀ q, (hq : q < T.sc.length) → q < j → (T.sc[q].man, T.sc[q].sheet) ≠ (T.sc[i].man, T.sc[i].sheet)) (fun _ n _ => (i - n).toNat) b41 0 u2 ⟨rfl, rfl, 0, by omega, rfl, fun q _ hq => by omega⟩ ?_
          rintro b73 n74 u3 ⟨rfl, rfl, j, hj, rfl, hne⟩
          unfold B_ref10_Table_2
          refine BR_dec (fun h3 => ?_) (fun h3 => ?_)
          · have hjl : j < T.sc.length := by omega
            obtain ⟨a', ha', r0, r1, _, _⟩ := p2 j hjl
            have tj : ((j : Int)).toNat = j := by omega
            have hwj : IntKind.i64.wrap ((j : Int) + 1) = ((j + 1 : Nat) : Int) := by rw [wrap_i64 (by omega) (by omega)]; rfl
            have j7 : ∀ q : Bool, (q = true → (T.sc[j].man, T.sc[j].sheet) = (T.sc[i].man, T.sc[i].sheet)) → (q = false → (T.sc[j].man, T.sc[j].sheet) ≠ (T.sc[i].man, T.sc[i].sheet)) → J_ref10_Table_7 W (endK K E) q ⟨s.size, 0, none⟩ i ⟨u.size, 0, none⟩ (fun vs => N_ref10_Table_2 (fun b n t' => t' = u3 ∧ b = b73 ∧ ∃ j : Nat, j ≤ i ∧ n = j ∧ ∀ q, (hq : q < T.sc.length) → q < j → (T.sc[q].man, T.sc[q].sheet) ≠ (T.sc[i].man, T.sc[i].sheet)) (fun _ n _ => (i - n).toNat) b73 j u3 vs) b73 j u3 := by
              intro q hq1 hq2
              unfold J_ref10_Table_7
              refine BR_bool (fun hh => ?_) (fun hh => ?_)
              · have hsome : (findA (T.sc[i].man, T.sc[i].sheet) ((T.sc.take i).map Sc.pr) 0).isNone = false := by
                  cases hf : findA (T.sc[i].man, T.sc[i].sheet) ((T.sc.take i).map Sc.pr) 0 with
                  | some v => rfl
                  | none =>
                    have := (findA_none _ _).1 hf T.sc[j].pr (List.mem_map.2 ⟨T.sc[j], by
                      have : T.sc[j] = (T.sc.take i)[j]'(by rw [List.length_take]; omega) := by rw [List.getElem_take]
                      rw [this]; exact List.getElem_mem _, rfl⟩)
                    exact absurd (hq1 hh) this
                exact no (bad (by rw [hF, hsome])) _ eu2
              · refine ⟨rfl, _, _, rfl, ⟨rfl, rfl, j + 1, by omega, hwj, fun q' hq' hqj => ?_⟩, ?_⟩
                · by_cases e : q' = j
                  · subst e; exact hq2 hh
                  · exact hne q' hq' (by omega)
                · show ((i : Int) - IntKind.i64.wrap ((j : Int) + 1)).toNat < ((i : Int) - j).toNat
                  rw [hwj]; omega
            refine ⟨_, _, _, p1, a', ha', ⟨by omega, by omega⟩, _, by rw [tj]; exact r0, _, o0.cell, ?_⟩
            refine BR_eq (fun hm => ?_) (fun hm => j7 _ (fun hh => by cases hh) (fun _ hc => hm (by injection hc)))
            refine ⟨_, _, _, p1, a', ha', ⟨by omega, by omega⟩, _, by rw [tj]; exact r1, _, o1.cell, ?_⟩
            refine j7 _ (fun hh => by rw [hm, beq_iff_eq.1 hh]) (fun hh hc => ?_)
            injection hc with _ hc
            have := beq_eq_false_iff_ne.1 hh
            exact this hc
          · have hji : j = i := by omega
            subst hji
            have hnone : (findA (T.sc[j].man, T.sc[j].sheet) ((T.sc.take j).map Sc.pr) 0).isNone = true := by
              have : findA (T.sc[j].man, T.sc[j].sheet) ((T.sc.take j).map Sc.pr) 0 = none := (findA_none _ _).2 fun v hv => by
                obtain ⟨w, hw', rfl⟩ := List.mem_map.1 hv
                obtain ⟨q, hq, rfl⟩ := List.mem_iff_getElem.1 hw'
                rw [List.length_take] at hq
                rw [List.getElem_take]
                exact hne q (by omega) (by omega)
              rw [this]; rfl
            exact ⟨rfl, hgo (by rw [hF, hnone])⟩
        have j3 : ∀ q : Bool, (q = false → okSc T ((T.sc.take i).map Sc.pr) T.sc[i] = (findA (T.sc[i].man, T.sc[i].sheet) ((T.sc.take i).map Sc.pr) 0).isNone) → (q = true → okSc T ((T.sc.take i).map Sc.pr) T.sc[i] = false) → J_ref10_Table_3 W (endK K E) q nx1 ⟨s.size, 0, none⟩ i u.size b41 u2 := by
          intro q hq1 hq2
          unfold J_ref10_Table_3
          exact BR_bool (fun hh => no (bad (hq2 hh)) _ eu2) (fun hh => inner (hq1 hh))
        generalize hS : okSc T ((T.sc.take i).map Sc.pr) T.sc[i] = S at *
        generalize hN : (findA (T.sc[i].man, T.sc[i].sheet) ((T.sc.take i).map Sc.pr) 0).isNone = N at *
        have j4 : ∀ q : Bool, (q = false → S = (N && decide (T.sc[i].hi ≤ 40))) → (q = true → S = false) → J_ref10_Table_4 W (endK K E) q nx1 ⟨s.size, 0, none⟩ i u.size b41 u2 := by
          intro q hq1 hq2
          unfold J_ref10_Table_4
          refine BR_bool (fun hh => j3 _ (fun hf => by cases hf) (fun _ => hq2 hh)) (fun hh => ?_)
          refine ⟨_, o3.cell, j3 _ (fun hf => ?_) (fun hf => ?_)⟩
          · have := of_decide_eq_false hf
            rw [hq1 hh, decide_eq_true (show T.sc[i].hi ≤ 40 by omega), Bool.and_true]
          · have := of_decide_eq_true hf
            rw [hq1 hh, decide_eq_false (show ¬ T.sc[i].hi ≤ 40 by omega), Bool.and_false]
        have j5 : ∀ q : Bool, (q = false → S = (N && (decide (T.sc[i].lo ≤ T.sc[i].hi) && decide (T.sc[i].hi ≤ 40)))) → (q = true → S = false) → J_ref10_Table_5 W (endK K E) q nx1 ⟨s.size, 0, none⟩ i u.size b41 u2 := by
          intro q hq1 hq2
          unfold J_ref10_Table_5
          refine BR_bool (fun hh => j4 _ (fun hf => by cases hf) (fun _ => hq2 hh)) (fun hh => ?_)
          refine ⟨_, o2.cell, _, o3.cell, j4 _ (fun hf => ?_) (fun hf => ?_)⟩
          · have := of_decide_eq_false hf
            rw [hq1 hh, decide_eq_true (show T.sc[i].lo ≤ T.sc[i].hi by omega), Bool.true_and]
          · have := of_decide_eq_true hf
            rw [hq1 hh, decide_eq_false (show ¬ T.sc[i].lo ≤ T.sc[i].hi by omega), Bool.false_and, Bool.and_false]
        have j6 : ∀ q : Bool, (q = false → S = (N && (decide (0 ≤ T.sc[i].lo) && (decide (T.sc[i].lo ≤ T.sc[i].hi) && decide (T.sc[i].hi ≤ 40))))) → (q = true → S = false) → J_ref10_Table_6 W (endK K E) q nx1 ⟨s.size, 0, none⟩ i u.size b41 u2 := by
          intro q hq1 hq2
          unfold J_ref10_Table_6
          refine BR_bool (fun hh => j5 _ (fun hf => by cases hf) (fun _ => hq2 hh)) (fun hh => ?_)
          refine ⟨_, o2.cell, j5 _ (fun hf => ?_) (fun hf => ?_)⟩
          · have := of_decide_eq_false hf
            rw [hq1 hh, decide_eq_true (show 0 ≤ T.sc[i].lo by omega), Bool.true_and]
          · have := of_decide_eq_true hf
            rw [hq1 hh, decide_eq_false (show ¬ 0 ≤ T.sc[i].lo by omega), Bool.false_and, Bool.and_false]
        refine ⟨_, o0.cell, _, ta2.men, ?_⟩
        refine f_in ?_
        try simp only [TUP_mk, AGG_mk, HD_mk, NL_mk, TYI_mk, TYB_mk, TYP_mk, TYL_mk, TYS_mk, TYM_mk, SO_mk, NX_mk, endK_mk, endK_mk', add_0]
        have w1 : IntKind.i64.wrap (T.men - 1) = T.men - 1 := wrap_i64 (by omega) (by omega)
        have w2 : IntKind.i64.wrap (T.sheets - 1) = T.sheets - 1 := wrap_i64 (by omega) (by omega)
        rw [w1]
        refine BR_not (fun hm => j6 _ (fun hf => by cases hf) (fun _ => by rw [hokc, hm, Bool.false_and])) (fun hm => ?_)
        refine ⟨_, o1.cell, _, ta2.sheets, ?_⟩
        refine f_in ?_
        try simp only [TUP_mk, AGG_mk, HD_mk, NL_mk, TYI_mk, TYB_mk, TYP_mk, TYL_mk, TYS_mk, TYM_mk, SO_mk, NX_mk, endK_mk, endK_mk', add_0]
        rw [w2]
        refine j6 _ (fun hf => ?_) (fun hf => ?_)
        · have hb : decide (0 ≤ T.sc[i].sheet ∧ T.sc[i].sheet ≤ T.sheets - 1) = true := by
            cases hd : decide (0 ≤ T.sc[i].sheet ∧ T.sc[i].sheet ≤ T.sheets - 1) with
            | true => rfl
            | false => rw [hd] at hf; cases hf
          rw [hokc, hm, hb, Bool.true_and, Bool.true_and]
        · have hb : decide (0 ≤ T.sc[i].sheet ∧ T.sc[i].sheet ≤ T.sheets - 1) = false := by
            cases hd : decide (0 ≤ T.sc[i].sheet ∧ T.sc[i].sheet ≤ T.sheets - 1) with
            | false => rfl
            | true => rw [hd] at hf; cases hf
          rw [hokc, hm, hb, Bool.false_and, Bool.and_false]
      · have hil : i = T.sc.length := by omega
        subst hil
        rw [List.drop_length] at hoki
        have := h u (e1.trans eu)
        rw [hok2, ← hoki] at this
        exact this
  have j0 : ∀ q : Bool, (q = false → ((1 ≤ T.men ∧ T.men ≤ 6) ∧ (1 ≤ T.sheets ∧ T.sheets ≤ 5)) ∧ okT T = (!T.off.any badO && okS T [] T.sc) ∧ T.sc.length ≤ 30) → (q = true → okT T = false) → J_ref10_Table_0 W (endK K E) q s.size s1 := by
    intro q g1 g2
    unfold J_ref10_Table_0
    exact BR_bool (fun hh => no (g2 hh) s1 (Ext.refl _)) (fun hh => loops (g1 hh).1 (g1 hh).2.1 (g1 hh).2.2)
  obtain ⟨x1, c1, g1, _⟩ := ta.off
  obtain ⟨y1, cy, q1, _⟩ := ta.sc
  have j1 : ∀ q : Bool, (q = false → ((1 ≤ T.men ∧ T.men ≤ 6) ∧ (1 ≤ T.sheets ∧ T.sheets ≤ 5)) ∧ okT T = (!T.off.any badO && (decide (T.sc.length ≤ 30) && okS T [] T.sc))) → (q = true → okT T = false) → J_ref10_Table_1 W (endK K E) q s.size s1 := by
    intro q a1 a2
    unfold J_ref10_Table_1
    refine BR_bool (fun hh => j0 _ (fun hf => by cases hf) (fun _ => a2 hh)) (fun hh => ?_)
    refine ⟨_, _, _, q1, j0 _ (fun hf => ?_) (fun hf => ?_)⟩
    · have := of_decide_eq_false hf
      have h30 : T.sc.length ≤ 30 := by omega
      exact ⟨(a1 hh).1, by rw [(a1 hh).2, decide_eq_true h30, Bool.true_and], h30⟩
    · have := of_decide_eq_true hf
      rw [(a1 hh).2, decide_eq_false (show ¬ T.sc.length ≤ 30 by omega), Bool.false_and, Bool.and_false]
  have j2 : ∀ q : Bool, (q = false → (1 ≤ T.men ∧ T.men ≤ 6) ∧ (1 ≤ T.sheets ∧ T.sheets ≤ 5)) → (q = true → okT T = false) → J_ref10_Table_2 W (endK K E) q s.size s1 := by
    intro q a1 a2
    unfold J_ref10_Table_2
    refine BR_bool (fun hh => j1 _ (fun hf => by cases hf) (fun _ => a2 hh)) (fun hh => ?_)
    obtain ⟨m1, m2⟩ := a1 hh
    refine ⟨_, _, _, g1, _, ta.men, j1 _ (fun hf => ?_) (fun hf => ?_)⟩
    · have hl : (T.off.length : Int) = T.men := by simpa using hf
      refine ⟨⟨m1, m2⟩, ?_⟩
      rw [hokT, decide_eq_true m1, decide_eq_true m2, decide_eq_true hl, Bool.true_and, Bool.true_and, Bool.true_and]
    · have hl : ¬ (T.off.length : Int) = T.men := by simpa using hf
      rw [hokT, decide_eq_false hl, Bool.false_and, Bool.and_false, Bool.and_false]
  refine ⟨_, ta.men, ?_⟩
  refine f_in ?_
  try simp only [TUP_mk, AGG_mk, HD_mk, NL_mk, TYI_mk, TYB_mk, TYP_mk, TYL_mk, TYS_mk, TYM_mk, SO_mk, NX_mk, endK_mk, endK_mk', add_0]
  refine BR_not (fun hm => j2 _ (fun hf => by cases hf) (fun _ => by rw [hokT, hm, Bool.false_and])) (fun hm => ?_)
  refine ⟨_, ta.sheets, ?_⟩
  refine f_in ?_
  try simp only [TUP_mk, AGG_mk, HD_mk, NL_mk, TYI_mk, TYB_mk, TYP_mk, TYL_mk, TYS_mk, TYM_mk, SO_mk, NX_mk, endK_mk, endK_mk', add_0]
  refine j2 _ (fun hf => ?_) (fun hf => ?_)
  · have hb : 1 ≤ T.sheets ∧ T.sheets ≤ 5 := by
      by_cases hd : 1 ≤ T.sheets ∧ T.sheets ≤ 5
      · exact hd
      · rw [decide_eq_false hd] at hf; cases hf
    exact ⟨of_decide_eq_true hm, hb⟩
  · have hb : ¬ (1 ≤ T.sheets ∧ T.sheets ≤ 5) := fun hd => by rw [decide_eq_true hd] at hf; cases hf
    rw [hokT, decide_eq_false hb, Bool.false_and, Bool.and_false]
end
end Go.Proofs.Ytkgcbfbbcaajpaa.G

/- Arguments by their types. -/
set_option linter.unusedVariables false
set_option maxRecDepth 20000
namespace Go.Proofs.Ytkgcbfbbcaajpaa.G
open Go.V
section
variable {s : Hp}
theorem rds_25 (n : Nat) (cs : List Value) : Rds Pg s (n + 1) 25 cs = (cs.length = 4 ∧ Rds Pg s n 3 ((cs.drop 0).take 1) ∧ Rds Pg s n 3 ((cs.drop 1).take 1) ∧ Rds Pg s n 22 ((cs.drop 2).take 1) ∧ Rds Pg s n 23 ((cs.drop 3).take 1) ∧ True) := by kernel_rfl
theorem rds_3 (n : Nat) (cs : List Value) : Rds Pg s (n + 1) 3 cs = (∃ m, cs = [.int .i64 m] ∧ (Lit.int .i64 m).wf = true) := by kernel_rfl
theorem rds_22 (n : Nat) (cs : List Value) : Rds Pg s (n + 1) 22 cs = (∃ a l c, cs = [.slice a l c] ∧ l ≤ c ∧ c ≤ maxLen ∧ (a = none → l = 0 ∧ c = 0) ∧ ∀ i, i < l → ∃ b es, a = some b ∧ es.length = 1 ∧ (∀ j v, es[j]? = some v → cellAt s ((b.add (i * 1)).add j) = some v) ∧ Rds Pg s n 3 es) := by kernel_rfl
theorem rds_23 (n : Nat) (cs : List Value) : Rds Pg s (n + 1) 23 cs = (∃ a l c, cs = [.slice a l c] ∧ l ≤ c ∧ c ≤ maxLen ∧ (a = none → l = 0 ∧ c = 0) ∧ ∀ i, i < l → ∃ b es, a = some b ∧ es.length = 4 ∧ (∀ j v, es[j]? = some v → cellAt s ((b.add (i * 4)).add j) = some v) ∧ Rds Pg s n 55 es) := by kernel_rfl
theorem rds_55 (n : Nat) (cs : List Value) : Rds Pg s (n + 1) 55 cs = (cs.length = 4 ∧ Rds Pg s n 3 ((cs.drop 0).take 1) ∧ Rds Pg s n 3 ((cs.drop 1).take 1) ∧ Rds Pg s n 29 ((cs.drop 2).take 2) ∧ True) := by kernel_rfl
theorem rds_29 (n : Nat) (cs : List Value) : Rds Pg s (n + 1) 29 cs = (cs.length = 2 ∧ Rds Pg s n 3 ((cs.drop 0).take 1) ∧ Rds Pg s n 3 ((cs.drop 1).take 1) ∧ True) := by kernel_rfl
theorem ag_25 : isAg Pg 25 = true := by kernel_rfl
theorem ag_3 : isAg Pg 3 = false := by kernel_rfl
theorem choose_of {α : Type} {P : Nat → α → Prop} : ∀ l : Nat, (∀ i, i < l → ∃ m, P i m) → ∃ ms : List α, ms.length = l ∧ ∀ i (h : i < ms.length), P i ms[i]
  | 0, _ => ⟨[], rfl, fun i h => by simp at h⟩
  | l + 1, h => by
    obtain ⟨ms, h1, h2⟩ := choose_of l (fun i hi => h i (by omega))
    obtain ⟨m, hm⟩ := h l (by omega)
    refine ⟨ms ++ [m], by simp [h1], fun i hi => ?_⟩
    by_cases hil : i < ms.length
    · rw [List.getElem_append_left hil]; exact h2 i hil
    · simp at hi
      have : i = ms.length := by omega
      subst this
      rw [List.getElem_append_right (Nat.le_refl _)]
      simp [h1]; exact hm
theorem sc_rds {n : Nat} {es : List Value} (h : Rds Pg s (n + 3) 55 es) : ∃ m : Sc, es = [.int .i64 m.man, .int .i64 m.sheet, .int .i64 m.lo, .int .i64 m.hi] := by
  rw [rds_55, rds_29, rds_3, rds_3] at h
  obtain ⟨h0, ⟨c, h1, _⟩, ⟨l, h2, _⟩, ⟨h3, h4, h5, _⟩, _⟩ := h
  rw [rds_3] at h4 h5
  obtain ⟨u, h4, _⟩ := h4
  obtain ⟨v, h5, _⟩ := h5
  match es, h0 with
  | [a, b, d, e], _ =>
    simp at h1 h2 h4 h5
    subst h1; subst h2; subst h4; subst h5
    exact ⟨⟨c, l, u, v⟩, rfl⟩
theorem table_rd {v : Value} (h : RdV Pg s 25 v) : ∃ x c y c' T, v = .agg #[.int .i64 (T : Tb).men, .int .i64 T.sheets, .slice x T.off.length c, .slice y T.sc.length c'] ∧ RowAt s x (ints T.off) ∧ ScAt s y T.sc := by
  obtain ⟨cs, rfl, h⟩ := h
  rw [ag_25, rds_25, rds_22, rds_23, rds_3, rds_3] at *
  obtain ⟨h0, ⟨n, h1, _⟩, ⟨m, h2, _⟩, ⟨a, l, c, h3, _, _, _, h4⟩, ⟨b, k, c', h5, _, _, _, h6⟩, _⟩ := h
  match cs, h0 with
  | [p, q, u, w], _ =>
    simp at h1 h2 h3 h5
    subst h1; subst h2; subst h3; subst h5
    have key1 : ∀ i, i < l → ∃ z : Int, ∃ d, a = some d ∧ cellAt s (d.add (i * 1)) = some (.int .i64 z) := by
      intro i hi
      obtain ⟨d, es, hd, hes, hc, hr⟩ := h4 i hi
      rw [rds_3] at hr
      obtain ⟨z, rfl, _⟩ := hr
      exact ⟨z, d, hd, hc 0 _ rfl⟩
    have key2 : ∀ i, i < k → ∃ z : Sc, ∃ d, b = some d ∧ cellAt s ((d.add (i * 4)).add 0) = some (.int .i64 z.man) ∧ cellAt s ((d.add (i * 4)).add 1) = some (.int .i64 z.sheet) ∧ cellAt s ((d.add (i * 4)).add 2) = some (.int .i64 z.lo) ∧ cellAt s ((d.add (i * 4)).add 3) = some (.int .i64 z.hi) := by
      intro i hi
      obtain ⟨d, es, hd, hes, hc, hr⟩ := h6 i hi
      obtain ⟨z, rfl⟩ := sc_rds (n := 3) hr
      exact ⟨z, d, hd, hc 0 _ rfl, hc 1 _ rfl, hc 2 _ rfl, hc 3 _ rfl⟩
    obtain ⟨os, hl, ho⟩ := choose_of l key1
    obtain ⟨ss, hk, hs⟩ := choose_of k key2
    subst hl
    subst hk
    refine ⟨a, c, b, c', ⟨n, m, os, ss⟩, rfl, fun i hi => ?_, fun i hi => hs i hi⟩
    have hi' : i < os.length := by rw [ints_len] at hi; exact hi
    rw [ints_get hi]
    exact ho i hi'
theorem int_rd {v : Value} (h : RdV Pg s 3 v) : ∃ n, v = .int .i64 n := by
  obtain ⟨cs, rfl, h⟩ := h
  rw [ag_3, rds_3] at *
  obtain ⟨m, rfl, hw⟩ := h
  exact ⟨m, rfl⟩
end
end Go.Proofs.Ytkgcbfbbcaajpaa.G

/- (what is known of a score) The document's functions of layer 10: what is known of a score; what somebody has. -/
set_option linter.unusedSimpArgs false
set_option linter.unusedVariables false
set_option maxRecDepth 20000
namespace Go.Proofs.Ytkgcbfbbcaajpaa.G
open Go.V
theorem findA_find {k : Int × Int} : ∀ (l : List Pr) (i : Nat), (findA k l i).map (·.2) = (l.find? fun x => decide (x.1 = k)).map (·.2)
  | [], _ => rfl
  | x :: r, i => by
    unfold findA
    rw [List.find?_cons]
    by_cases h : k = x.1
    · rw [if_pos h, decide_eq_true h.symm]; rfl
    · rw [if_neg h, decide_eq_false (fun e => h e.symm)]
      exact findA_find r (i + 1)
theorem pts_find {l : List Pr} {k : Int × Int} : pts l k = ((l.find? fun x => decide (x.1 = k)).map (·.2)).getD (0, 40) := by
  rw [← findA_find l 0]
  unfold pts
  cases findA k l 0 <;> rfl
section
variable {W : World} {K : VK} {E : List PanicEntry → Hp → Prop} {s : Hp} {T : Tb}
theorem f_Points {x y : Option Addr} {c c' : Nat} {m k : Int} (hx : RowAt s x (ints T.off)) (hy : ScAt s y T.sc) (hl : T.sc.length ≤ 100000) (h : ∀ s', Ext s s' → K (spanV (pts (prs T) (m, k))) s') :
    CALL Pg W F_ref10_Points [.agg #[.int .i64 T.men, .int .i64 T.sheets, .slice x T.off.length c, .slice y T.sc.length c'], .int .i64 m, .int .i64 k] K E s := by
  refine does_ref10_Points W T.men T.sheets x T.off.length c y T.sc.length c' m k _ s ?_
  unfold T_ref10_Points
  refine NEW_rule fun s1 e1 z1 n1 _ => ?_
  refine NEWZ_rule zc_29 fun s2 e2 z2 n2 => ?_
  have ta := (tbA_new e1 hx hy n1).ext e2
  have e02 := e1.trans e2
  have hs1 := e1.1
  have b0 := n2 0 _ rfl
  have b1 := n2 1 _ rfl
  refine L_ref10_Points_0_rule W _ m k ⟨s.size, 0, none⟩ ⟨s1.size, 0, none⟩ (fun n t => Ext s2 t ∧ ∃ i : Nat, i ≤ T.sc.length ∧ n = i ∧ ∀ j, j < i → ∀ w, (prs T)[j]? = some w → decide (w.1 = (m, k)) = false) (fun n _ => (T.sc.length - n).toNat) 0 s2 ⟨Ext.refl _, 0, by omega, rfl, fun j hj => by omega⟩ ?_
  rintro n13 t ⟨et, i, hi, rfl, hno⟩
  obtain ⟨y1, cy, q1, q2⟩ := (ta.ext et).sc
  have hpl : (prs T).length = T.sc.length := by unfold prs; rw [List.length_map]
  unfold B_ref10_Points_0
  refine ⟨_, _, _, q1, ?_⟩
  refine BR_dec (fun h1 => ?_) (fun h1 => ?_)
  · have hil : i < T.sc.length := by omega
    obtain ⟨a, ha, g0, g1, g2, g3⟩ := q2 i hil
    have ti : ((i : Int)).toNat = i := by omega
    refine ⟨_, _, _, q1, a, ha, ⟨by omega, by omega⟩, ?_⟩
    rw [ti]
    refine ⟨_, g0, _, g1, _, g2, _, g3, ?_⟩
    refine NEWZ_rule zc_55 fun u1 f1 y1 m1 => ?_
    refine wr4 rfl rfl rfl rfl (new4 m1) fun u2 k2 z2 o0 o1 o2 o3 => ?_
    have e2' : Ext t u2 := ext_own f1 (Nat.le_refl _) k2
    have eu := et.trans e2'
    have hpi : (prs T)[i]? = some T.sc[i].pr := by unfold prs; rw [List.getElem?_map, List.getElem?_eq_getElem hil]; rfl
    have hw : IntKind.i64.wrap ((i : Int) + 1) = ((i + 1 : Nat) : Int) := by rw [wrap_i64 (by omega) (by omega)]; rfl
    have j0 : ∀ q : Bool, q = decide (T.sc[i].pr.1 = (m, k)) → J_ref10_Points_0 W (endK K E) q t.size ⟨s1.size, 0, none⟩ m k ⟨s.size, 0, none⟩ (fun vs => N_ref10_Points_0 (fun n t => Ext s2 t ∧ ∃ i : Nat, i ≤ T.sc.length ∧ n = i ∧ ∀ j, j < i → ∀ w, (prs T)[j]? = some w → decide (w.1 = (m, k)) = false) (fun n _ => (T.sc.length - n).toNat) i t vs) i u2 := by
      intro q hq
      unfold J_ref10_Points_0
      refine BR_bool (fun hh => ?_) (fun hh => ?_)
      · refine ⟨_, o2.cell, _, o3.cell, fin_span (eu.own b0) (eu.own b1) fun s' k' => ?_⟩
        have hp : pts (prs T) (m, k) = (T.sc[i].lo, T.sc[i].hi) := by
          rw [pts_find, find_first (prs T) i T.sc[i].pr hpi (by rw [← hq]; exact hh) hno]; rfl
        rw [hp] at h
        exact h s' (kp_new (e02.trans eu) (by omega) k')
      · refine ⟨rfl, _, rfl, ⟨eu, i + 1, by omega, hw, fun j hj w hw' => ?_⟩, ?_⟩
        · by_cases e : j = i
          · subst e
            rw [hpi] at hw'
            injection hw' with hw'
            rw [← hw', ← hq]; exact hh
          · exact hno j (by omega) w hw'
        · show ((T.sc.length : Int) - IntKind.i64.wrap ((i : Int) + 1)).toNat < ((T.sc.length : Int) - i).toNat
          rw [hw]; omega
    refine ⟨_, o0.cell, ?_⟩
    refine BR_eq (fun hm => ?_) (fun hm => j0 _ (decide_eq_false (fun hc => hm (by injection hc))).symm)
    refine ⟨_, o1.cell, j0 _ ?_⟩
    have : (T.sc[i].sheet == k) = decide (T.sc[i].sheet = k) := by rw [Bool.beq_eq_decide_eq]
    rw [this]
    congr 1
    apply propext
    constructor
    · intro hs; show (T.sc[i].man, T.sc[i].sheet) = (m, k); rw [hm, hs]
    · intro hc; injection hc
  · have hp : pts (prs T) (m, k) = (0, 40) := by
      have : (prs T).find? (fun x => decide (x.1 = (m, k))) = none := List.find?_eq_none.2 fun w hw => by
        obtain ⟨j, hj, rfl⟩ := List.mem_iff_getElem.1 hw
        rw [hno j (by omega) _ (List.getElem?_eq_getElem hj)]; simp
      rw [pts_find, this]; rfl
    rw [hp] at h
    exact fin_span (et.own b0) (et.own b1) fun s' k' => h s' (kp_new (e02.trans et) (by omega) k')
end
end Go.Proofs.Ytkgcbfbbcaajpaa.G

/- Too much? What the document fixes holds. -/
set_option linter.unusedSimpArgs false
set_option linter.unusedVariables false
set_option maxRecDepth 20000
namespace Go.Proofs.Ytkgcbfbbcaajpaa.G
open Go.V
def bytes (l : List Nat) : List Value := l.map fun (b : Nat) => .int .u8 (b : Int)
theorem bytes_len (l : List Nat) : (bytes l).length = l.length := by simp [bytes]
theorem bytes_get {l : List Nat} {i : Nat} (h : i < (bytes l).length) : (bytes l)[i] = .int .u8 ((l[i]'(by simpa [bytes] using h) : Nat) : Int) := by simp [bytes]
theorem new2' {s : Hp} {b : Nat} {v0 v1 : Value} (h0 : Own s ⟨b, 0, none⟩ v0) (h1 : Own s ⟨b, 1, none⟩ v1) : ∀ j, j < 2 → ∃ y, Own s ((⟨b, 0, none⟩ : Addr).add j) y := by
  intro j hj
  match j, hj with
  | 0, _ => exact ⟨_, h0⟩
  | 1, _ => exact ⟨_, h1⟩
section
variable {W : World} {K : VK} {E : List PanicEntry → Hp → Prop} {s : Hp} {T : Tb}
theorem c_far {x y : Option Addr} {c c' : Nat} (h : ∀ s' b, Ext s s' → (b = false → T.off.length ≤ 40 ∧ T.sc.length ≤ 100) → K (.bool b) s') :
    CALL Pg W F_law10_far [.agg #[.int .i64 T.men, .int .i64 T.sheets, .slice x T.off.length c, .slice y T.sc.length c']] K E s := by
  refine does_law10_far W T.men T.sheets x T.off.length c y T.sc.length c' _ s ?_
  unfold T_law10_far
  refine NEW_rule fun s1 e1 z1 n1 _ => ?_
  refine ⟨_, _, _, (n1 2 _ rfl).cell, ?_⟩
  refine BR_dec (fun h1 => h s1 true e1 (fun hh => by cases hh)) (fun h1 => ?_)
  refine ⟨_, _, _, (n1 3 _ rfl).cell, ?_⟩
  exact h s1 _ e1 (fun hh => by have := of_decide_eq_false hh; omega)
theorem c_awake' {s0 : Hp} (e : Ext s0 s) (h : ∀ s', Ext s0 s' → K (.bool true) s') : CALL Pg W F_law10_awake [] K E s := c_awake fun s' e' => h s' (e.trans e')
end
end Go.Proofs.Ytkgcbfbbcaajpaa.G

/- More arguments by their types: bytes, lists of bytes, a score. -/
set_option linter.unusedVariables false
set_option linter.unusedSimpArgs false
set_option maxRecDepth 20000
namespace Go.Proofs.Ytkgcbfbbcaajpaa.G
open Go.V
section
variable {s : Hp}
theorem rds_5 (n : Nat) (cs : List Value) : Rds Pg s (n + 1) 5 cs = (∃ m, cs = [.int .u8 m] ∧ (Lit.int .u8 m).wf = true) := by kernel_rfl
theorem rds_58 (n : Nat) (cs : List Value) : Rds Pg s (n + 1) 58 cs = (∃ m, cs = [.int .u16 m] ∧ (Lit.int .u16 m).wf = true) := by kernel_rfl
theorem rds_45 (n : Nat) (cs : List Value) : Rds Pg s (n + 1) 45 cs = (∃ a l c, cs = [.slice a l c] ∧ l ≤ c ∧ c ≤ maxLen ∧ (a = none → l = 0 ∧ c = 0) ∧ ∀ i, i < l → ∃ b es, a = some b ∧ es.length = 1 ∧ (∀ j v, es[j]? = some v → cellAt s ((b.add (i * 1)).add j) = some v) ∧ Rds Pg s n 5 es) := by kernel_rfl
theorem ag_5 : isAg Pg 5 = false := by kernel_rfl
theorem ag_58 : isAg Pg 58 = false := by kernel_rfl
theorem ag_45 : isAg Pg 45 = false := by kernel_rfl
theorem ag_55 : isAg Pg 55 = true := by kernel_rfl
theorem u8_wf {m : Int} (h : (Lit.int .u8 m).wf = true) : 0 ≤ m ∧ m ≤ 255 := by
  simp [Lit.wf, IntKind.min, IntKind.max, IntKind.bits, IntKind.signed] at h; omega
theorem u16_wf {m : Int} (h : (Lit.int .u16 m).wf = true) : 0 ≤ m ∧ m ≤ 65535 := by
  simp [Lit.wf, IntKind.min, IntKind.max, IntKind.bits, IntKind.signed] at h; omega
theorem i64_wf {m : Int} (h : (Lit.int .i64 m).wf = true) : -9223372036854775808 ≤ m ∧ m ≤ 9223372036854775807 := by
  simp [Lit.wf, IntKind.min, IntKind.max, IntKind.bits, IntKind.signed] at h; omega
theorem u8_rd {v : Value} (h : RdV Pg s 5 v) : ∃ n : Nat, v = .int .u8 n ∧ n < 256 := by
  obtain ⟨cs, rfl, h⟩ := h
  rw [ag_5, rds_5] at *
  obtain ⟨m, rfl, hw⟩ := h
  obtain ⟨h1, h2⟩ := u8_wf hw
  obtain ⟨n, rfl⟩ := Int.eq_ofNat_of_zero_le h1
  exact ⟨n, rfl, by omega⟩
theorem u16_rd {v : Value} (h : RdV Pg s 58 v) : ∃ n : Nat, v = .int .u16 n ∧ n < 65536 := by
  obtain ⟨cs, rfl, h⟩ := h
  rw [ag_58, rds_58] at *
  obtain ⟨m, rfl, hw⟩ := h
  obtain ⟨h1, h2⟩ := u16_wf hw
  obtain ⟨n, rfl⟩ := Int.eq_ofNat_of_zero_le h1
  exact ⟨n, rfl, by omega⟩
theorem u8s_rd {v : Value} (h : RdV Pg s 45 v) : ∃ x c bs, v = .slice x (bs : List Nat).length c ∧ RowAt s x (bytes bs) ∧ (∀ b ∈ bs, b < 256) ∧ bs.length ≤ maxLen := by
  obtain ⟨cs, rfl, h⟩ := h
  rw [ag_45, rds_45] at *
  obtain ⟨a, l, c, rfl, h2, h3, h4, h5⟩ := h
  have key : ∀ i, i < l → ∃ z : Nat, z < 256 ∧ ∃ d, a = some d ∧ cellAt s (d.add (i * 1)) = some (.int .u8 z) := by
    intro i hi
    obtain ⟨d, es, hd, hes, hc, hr⟩ := h5 i hi
    rw [rds_5] at hr
    obtain ⟨z, rfl, hw⟩ := hr
    obtain ⟨w1, w2⟩ := u8_wf hw
    obtain ⟨n, rfl⟩ := Int.eq_ofNat_of_zero_le w1
    exact ⟨n, by omega, d, hd, hc 0 _ rfl⟩
  obtain ⟨bs, hl, hb⟩ := choose_of l key
  subst hl
  refine ⟨a, c, bs, rfl, fun i hi => ?_, fun b hb' => ?_, Nat.le_trans h2 h3⟩
  · have hi' : i < bs.length := by rw [bytes_len] at hi; exact hi
    rw [bytes_get hi]
    exact (hb i hi').2
  · obtain ⟨i, hi, rfl⟩ := List.mem_iff_getElem.1 hb'
    exact (hb i hi).1
theorem score_rd {v : Value} (h : RdV Pg s 55 v) : ∃ q : Sc, v = .agg #[.int .i64 q.man, .int .i64 q.sheet, .int .i64 q.lo, .int .i64 q.hi] := by
  obtain ⟨cs, rfl, h⟩ := h
  obtain ⟨q, rfl⟩ := sc_rds (n := 5) h
  rw [ag_55]
  exact ⟨q, rfl⟩
theorem int_rdl {v : Value} (h : RdV Pg s 3 v) : ∃ n, v = .int .i64 n ∧ -9223372036854775808 ≤ n ∧ n ≤ 9223372036854775807 := by
  obtain ⟨cs, rfl, h⟩ := h
  rw [ag_3, rds_3] at *
  obtain ⟨m, rfl, hw⟩ := h
  exact ⟨m, rfl, (i64_wf hw).1, (i64_wf hw).2⟩
end
end Go.Proofs.Ytkgcbfbbcaajpaa.G

/- Shorter ways through texts over the visible heap: known conditions, counting, variables that are made and written. -/
set_option linter.unusedSimpArgs false
set_option linter.unusedVariables false
set_option maxRecDepth 20000
namespace Go.V
theorem BR_t (x y : Hp → Prop) : BR true x y = x := rfl
theorem BR_f (x y : Hp → Prop) : BR false x y = y := rfl
theorem wrap_succ {k : Nat} (h : k < 1000000000) : IntKind.i64.wrap ((k : Int) + 1) = ((k + 1 : Nat) : Int) := by rw [wrap_i64 (by omega) (by omega)]; rfl
theorem ms_succ {k n : Nat} (h : k < n) (h2 : n ≤ 1000000000) : ((n : Int) - IntKind.i64.wrap ((k : Int) + 1)).toNat < ((n : Int) - (k : Int)).toNat := by rw [wrap_succ (by omega)]; omega
theorem toNat_nat (k : Nat) : ((k : Nat) : Int).toNat = k := Int.toNat_natCast k
theorem NNI_of {b : Int} {K : Hp → Prop} {s : Hp} (hb : 0 ≤ b) (h : K s) : NNI b K s := by
  obtain ⟨n, rfl⟩ := Int.eq_ofNat_of_zero_le hb
  exact h
section
variable {s s0 s' : Hp} {K : Hp → Prop}
/-- A write into a block that was made behind 's0'. -/
theorem ext_kp {b : Nat} (e : Ext s0 s) (h : s0.size ≤ b) (k : Kp (· = b) s s') : Ext s0 s' := ⟨Nat.le_trans e.1 k.1, fun q hq => by
  rw [k.2 q (Nat.lt_of_lt_of_le hq e.1) (fun hh => by have h2 : q = b := hh; omega)]; exact e.2 q hq⟩
theorem kp_nil {C : Nat → Prop} (e : Ext s0 s) (h : ∀ b, C b → s0.size ≤ b) (k : Kp C s s') : Ext s0 s' := ⟨Nat.le_trans e.1 k.1, fun q hq => by
  rw [k.2 q (Nat.lt_of_lt_of_le hq e.1) (fun hh => by have := h q hh; omega)]; exact e.2 q hq⟩
theorem wr1 {a : Addr} {v y : Value} (ha : Own s a y) (h0 : oneCell v = true) (h : ∀ s', Kp (· = a.block) s s' → s'.size = s.size → Own s' a v → K s') : WR a v K s :=
  WR_own ha h0 (h _ (Kp.setC (Kp.refl s) (.inl rfl)) (setC_size _ _ _) (own_set ha))
end
section
variable {P : Program} {s : Hp} {t : TypeId}
/-- A new variable of one cell that is written. -/
theorem nw1 {z0 v0 : Value} {K : Nat → Hp → Prop} (hz : zc P t = [z0]) (h0 : oneCell v0 = true) (h : ∀ s', Ext s s' → s'.size = s.size + 1 → Own s' ⟨s.size, 0, none⟩ v0 → K s.size s') :
    NEWZ P t (fun B => WR (Addr.add ⟨B, 0, none⟩ 0) v0 (K B)) s := by
  refine NEWZ_rule hz fun s1 e1 z1 n1 => ?_
  refine wr1 (a := ⟨s.size, 0, none⟩) (n1 0 _ rfl) h0 fun s2 k2 z2 o2 => ?_
  exact h s2 (ext_kp e1 (Nat.le_refl _) k2) (by omega) o2
/-- .. of more cells. -/
theorem nwN {cs vs : List Value} {K : Nat → Hp → Prop} (hz : zc P t = cs) (hl : vs.length = cs.length) (hv : ∀ v ∈ vs, oneCell v = true) (h : ∀ s', Ext s s' → s'.size = s.size + 1 → (∀ i (h : i < vs.length), Own s' ⟨s.size, i, none⟩ vs[i]) → K s.size s') :
    NEWZ P t (fun B => wrN vs ⟨B, 0, none⟩ 0 (K B)) s := by
  refine NEWZ_rule hz fun s1 e1 z1 n1 => ?_
  refine wrN_rule vs _ 0 _ s1 (fun i hi => ⟨cs[i]'(by omega), ?_⟩) hv fun s2 k2 z2 o2 _ => ?_
  · have := n1 i cs[i] (List.getElem?_eq_getElem (by omega))
    rw [add_nil, Nat.zero_add, Nat.zero_add]; exact this
  · refine h s2 (ext_kp e1 (Nat.le_refl _) k2) (by omega) fun i hi => ?_
    have := o2 i hi
    rw [add_nil, Nat.zero_add, Nat.zero_add] at this; exact this
theorem nw2 {z0 z1 v0 v1 : Value} {K : Nat → Hp → Prop} (hz : zc P t = [z0, z1]) (h0 : oneCell v0 = true) (h1 : oneCell v1 = true) (h : ∀ s', Ext s s' → s'.size = s.size + 1 → Own s' ⟨s.size, 0, none⟩ v0 → Own s' ⟨s.size, 1, none⟩ v1 → K s.size s') :
    NEWZ P t (fun B => WR (Addr.add ⟨B, 0, none⟩ 0) v0 (WR (Addr.add ⟨B, 0, none⟩ 1) v1 (K B))) s :=
  nwN (vs := [v0, v1]) hz rfl (by simp [h0, h1]) fun s' e z o => h s' e z (o 0 (by simp)) (o 1 (by simp))
theorem nw3 {z0 z1 z2 v0 v1 v2 : Value} {K : Nat → Hp → Prop} (hz : zc P t = [z0, z1, z2]) (h0 : oneCell v0 = true) (h1 : oneCell v1 = true) (h2 : oneCell v2 = true) (h : ∀ s', Ext s s' → s'.size = s.size + 1 → Own s' ⟨s.size, 0, none⟩ v0 → Own s' ⟨s.size, 1, none⟩ v1 → Own s' ⟨s.size, 2, none⟩ v2 → K s.size s') :
    NEWZ P t (fun B => WR (Addr.add ⟨B, 0, none⟩ 0) v0 (WR (Addr.add ⟨B, 0, none⟩ 1) v1 (WR (Addr.add ⟨B, 0, none⟩ 2) v2 (K B)))) s :=
  nwN (vs := [v0, v1, v2]) hz rfl (by simp [h0, h1, h2]) fun s' e z o => h s' e z (o 0 (by simp)) (o 1 (by simp)) (o 2 (by simp))
theorem nw4 {z0 z1 z2 z3 v0 v1 v2 v3 : Value} {K : Nat → Hp → Prop} (hz : zc P t = [z0, z1, z2, z3]) (h0 : oneCell v0 = true) (h1 : oneCell v1 = true) (h2 : oneCell v2 = true) (h3 : oneCell v3 = true) (h : ∀ s', Ext s s' → s'.size = s.size + 1 → Own s' ⟨s.size, 0, none⟩ v0 → Own s' ⟨s.size, 1, none⟩ v1 → Own s' ⟨s.size, 2, none⟩ v2 → Own s' ⟨s.size, 3, none⟩ v3 → K s.size s') :
    NEWZ P t (fun B => WR (Addr.add ⟨B, 0, none⟩ 0) v0 (WR (Addr.add ⟨B, 0, none⟩ 1) v1 (WR (Addr.add ⟨B, 0, none⟩ 2) v2 (WR (Addr.add ⟨B, 0, none⟩ 3) v3 (K B))))) s :=
  nwN (vs := [v0, v1, v2, v3]) hz rfl (by simp [h0, h1, h2, h3]) fun s' e z o => h s' e z (o 0 (by simp)) (o 1 (by simp)) (o 2 (by simp)) (o 3 (by simp))
/-- A new variable as it is. -/
theorem nz1 {v0 : Value} {K : Nat → Hp → Prop} (hz : zc P t = [v0]) (h : ∀ s', Ext s s' → s'.size = s.size + 1 → Own s' ⟨s.size, 0, none⟩ v0 → K s.size s') : NEWZ P t K s :=
  NEWZ_rule hz fun s1 e1 z1 n1 => h s1 e1 z1 (n1 0 _ rfl)
theorem nz2 {v0 v1 : Value} {K : Nat → Hp → Prop} (hz : zc P t = [v0, v1]) (h : ∀ s', Ext s s' → s'.size = s.size + 1 → Own s' ⟨s.size, 0, none⟩ v0 → Own s' ⟨s.size, 1, none⟩ v1 → K s.size s') : NEWZ P t K s :=
  NEWZ_rule hz fun s1 e1 z1 n1 => h s1 e1 z1 (n1 0 _ rfl) (n1 1 _ rfl)
theorem nz4 {v0 v1 v2 v3 : Value} {K : Nat → Hp → Prop} (hz : zc P t = [v0, v1, v2, v3]) (h : ∀ s', Ext s s' → s'.size = s.size + 1 → Own s' ⟨s.size, 0, none⟩ v0 → Own s' ⟨s.size, 1, none⟩ v1 → Own s' ⟨s.size, 2, none⟩ v2 → Own s' ⟨s.size, 3, none⟩ v3 → K s.size s') : NEWZ P t K s :=
  NEWZ_rule hz fun s1 e1 z1 n1 => h s1 e1 z1 (n1 0 _ rfl) (n1 1 _ rfl) (n1 2 _ rfl) (n1 3 _ rfl)
theorem ne1 {v0 : Value} {K : Nat → Hp → Prop} (h : ∀ s', Ext s s' → s'.size = s.size + 1 → Own s' ⟨s.size, 0, none⟩ v0 → K s.size s') : NEW t [v0] K s :=
  NEW_rule fun s1 e1 z1 n1 _ => h s1 e1 z1 (n1 0 _ rfl)
theorem ne2 {v0 v1 : Value} {K : Nat → Hp → Prop} (h : ∀ s', Ext s s' → s'.size = s.size + 1 → Own s' ⟨s.size, 0, none⟩ v0 → Own s' ⟨s.size, 1, none⟩ v1 → K s.size s') : NEW t [v0, v1] K s :=
  NEW_rule fun s1 e1 z1 n1 _ => h s1 e1 z1 (n1 0 _ rfl) (n1 1 _ rfl)
theorem ne4 {v0 v1 v2 v3 : Value} {K : Nat → Hp → Prop} (h : ∀ s', Ext s s' → s'.size = s.size + 1 → Own s' ⟨s.size, 0, none⟩ v0 → Own s' ⟨s.size, 1, none⟩ v1 → Own s' ⟨s.size, 2, none⟩ v2 → Own s' ⟨s.size, 3, none⟩ v3 → K s.size s') : NEW t [v0, v1, v2, v3] K s :=
  NEW_rule fun s1 e1 z1 n1 _ => h s1 e1 z1 (n1 0 _ rfl) (n1 1 _ rfl) (n1 2 _ rfl) (n1 3 _ rfl)
end
end Go.V
namespace Go.V
theorem MKS_rule {P : Program} {t : TypeId} {n : Nat} {z : Value} {K : Nat → Hp → Prop} {s : Hp} (hz : zc P t = [z]) (hn : n ≤ 100000) (h : ∀ s', Ext s s' → s'.size = s.size + 1 → (∀ i, i < n → Own s' ⟨s.size, i, none⟩ z) → K s.size s') : MKS P t (n : Int) (n : Int) K s := by
  refine ⟨⟨by omega, by omega, by omega⟩, ?_⟩
  rw [hz, Int.toNat_natCast]
  exact h _ (Ext.push (Ext.refl _)) (by simp) fun i hi => own_new (repL_getD z n i hi)
theorem IXS_nat {a : Addr} {l i es : Nat} {K : Addr → Hp → Prop} {s : Hp} (h : i < l) (hk : K (a.add (i * es)) s) : IXS (some a) l (i : Int) es K s := ⟨a, rfl, ⟨by omega, by omega⟩, hk⟩
end Go.V
namespace Go.V
theorem BR_ff {c : Bool} {x y : Hp → Prop} {s : Hp} (h : c = false) (hk : y s) : BR c x y s := by rw [h]; exact hk
theorem BR_tt {c : Bool} {x y : Hp → Prop} {s : Hp} (h : c = true) (hk : x s) : BR c x y s := by rw [h]; exact hk
end Go.V
namespace Go.V
theorem ANDS_i {x K : Hp → Prop} {s : Hp} (h : x s) (k : K s) : ANDS x K s := ⟨h, k⟩
theorem CONJ_one {a : Hp → Prop} {s : Hp} (h : a s) : CONJ [a] s := h
theorem CONJ_more {s : Hp} {a b : Hp → Prop} {l : List (Hp → Prop)} (h1 : a s) (h2 : CONJ (b :: l) s) : CONJ (a :: b :: l) s := ⟨h1, h2⟩
end Go.V

/- Rank, in plain Lean: who surely is before whom, who can be; places; winners. -/
set_option linter.unusedSimpArgs false
set_option linter.unusedVariables false
set_option maxRecDepth 20000
namespace Go.Proofs.Ytkgcbfbbcaajpaa.G
open Go.V
/-! ### Rows -/
theorem gt_le {a b c : List Int} (hl : b.length = c.length) (h1 : aheadL a b = true) (h2 : aheadL c b = false) : aheadL a c = true := by
  cases h : aheadL b c with
  | true => exact ahead_trans _ _ _ h1 h
  | false => rw [ahead_tri _ _ hl h h2] at h1; exact h1
theorem le_gt {a b c : List Int} (hl : a.length = b.length) (h1 : aheadL b a = false) (h2 : aheadL b c = true) : aheadL a c = true := by
  cases h : aheadL a b with
  | true => exact ahead_trans _ _ _ h h2
  | false => rw [ahead_tri _ _ hl h h1]; exact h2
theorem gt_asym {a b : List Int} (h : aheadL a b = true) : aheadL b a = false := by
  cases h2 : aheadL b a with
  | false => rfl
  | true => have := ahead_trans _ _ _ h h2; rw [ahead_same] at this; cases this
theorem le_le {a b c : List Int} (hl : a.length = b.length) (h1 : aheadL a b = false) (h2 : aheadL b c = false) : aheadL a c = false := by
  cases h : aheadL a c with
  | false => rfl
  | true => have := le_gt hl.symm h1 h; rw [this] at h2; cases h2
/-! ### What somebody has -/
def lowR (T : Tb) (i : Nat) : List Int := rowL (pts (prs T)) false T.m (offT T i) i
def topR (T : Tb) (i : Nat) : List Int := rowL (pts (prs T)) true T.m (offT T i) i
theorem lowR_len (T : Tb) (i : Nat) : (lowR T i).length = T.m + 1 := rowL_len _ _ _ _ _
theorem topR_len (T : Tb) (i : Nat) : (topR T i).length = T.m + 1 := rowL_len _ _ _ _ _
def canT (T : Tb) (a b : Nat) : Bool := befP (pts (prs T)) true T.m T.off a b
theorem surT_eq (T : Tb) (a b : Nat) : surT T a b = (decide (a ≠ b) && aheadL (lowR T a) (topR T b)) := rfl
theorem canT_eq (T : Tb) (a b : Nat) : canT T a b = (decide (a ≠ b) && aheadL (topR T a) (lowR T b)) := rfl
theorem surT_iff {T : Tb} {a b : Nat} : surT T a b = true ↔ a ≠ b ∧ aheadL (lowR T a) (topR T b) = true := by rw [surT_eq]; simp
theorem canT_iff {T : Tb} {a b : Nat} : canT T a b = true ↔ a ≠ b ∧ aheadL (topR T a) (lowR T b) = true := by rw [canT_eq]; simp
theorem surT_self (T : Tb) (a : Nat) : surT T a a = false := by rw [surT_eq]; simp
theorem canT_self (T : Tb) (a : Nat) : canT T a a = false := by rw [canT_eq]; simp
theorem sur_not {T : Tb} {a b : Nat} (h : surT T a b = true) : canT T b a = false := by
  obtain ⟨h1, h2⟩ := surT_iff.1 h
  rw [canT_eq, gt_asym h2, Bool.and_false]
section
variable {T : Tb} (hok : okT T = true)
include hok
theorem low_top (i : Nat) : aheadL (lowR T i) (topR T i) = false := row_le fun k => (pts_in (okT_vd hok) k).2.1
theorem sur_can {a b : Nat} (h : surT T a b = true) : canT T a b = true := by
  obtain ⟨h1, h2⟩ := surT_iff.1 h
  exact canT_iff.2 ⟨h1, le_gt (by rw [topR_len, lowR_len]) (low_top hok a) (gt_le (by rw [topR_len, lowR_len]) h2 (low_top hok b))⟩
theorem sur_asym {a b : Nat} (h : surT T a b = true) : surT T b a = false := by
  cases h2 : surT T b a with
  | false => rfl
  | true => have := sur_can hok h2; rw [sur_not h] at this; cases this
theorem sur_trans {a b c : Nat} (h : surT T a b = true) (h' : surT T b c = true) : surT T a c = true := by
  obtain ⟨h1, h2⟩ := surT_iff.1 h
  obtain ⟨h3, h4⟩ := surT_iff.1 h'
  refine surT_iff.2 ⟨fun e => ?_, ahead_trans _ _ _ (gt_le (by rw [topR_len, lowR_len]) h2 (low_top hok b)) h4⟩
  subst e
  rw [sur_asym hok h] at h'; cases h'
theorem can_sur {o a b : Nat} (h : canT T o a = true) (h' : surT T a b = true) : canT T o b = true := by
  obtain ⟨h1, h2⟩ := canT_iff.1 h
  obtain ⟨h3, h4⟩ := surT_iff.1 h'
  refine canT_iff.2 ⟨fun e => ?_, ahead_trans _ _ _ h2 (gt_le (by rw [topR_len, lowR_len]) h4 (low_top hok b))⟩
  subst e
  rw [sur_not h'] at h; cases h
theorem sur_of_sur {o a b : Nat} (h : surT T o a = true) (h' : surT T a b = true) : surT T o b = true := sur_trans hok h h'
end
/-! ### Counts -/
theorem cntB_mono {f g : Nat → Bool} : ∀ (n : Nat), (∀ o, o < n → f o = true → g o = true) → cntB f n ≤ cntB g n
  | 0, _ => by simp [cntB]
  | n + 1, h => by
    rw [cntB_succ, cntB_succ]
    have ih := cntB_mono (f := f) (g := g) n fun o ho => h o (by omega)
    have h0 := h n (by omega)
    cases hf : f n <;> cases hg : g n <;> simp_all <;> omega
theorem cntB_lt {f g : Nat → Bool} {a : Nat} (ha : f a = false) (hg : g a = true) : ∀ (n : Nat), a < n → (∀ o, o < n → f o = true → g o = true) → cntB f n < cntB g n
  | 0, h, _ => by omega
  | n + 1, hn, h => by
    rw [cntB_succ, cntB_succ]
    by_cases e : a = n
    · subst e
      have := cntB_mono (f := f) (g := g) a fun o ho => h o (by omega)
      rw [ha, hg]; simp; omega
    · have ih := cntB_lt ha hg n (by omega) fun o ho => h o (by omega)
      have h0 := h n (by omega)
      cases hf : f n <;> cases hg : g n <;> simp_all <;> omega
theorem cntB_ext {f g : Nat → Bool} {n : Nat} (h : ∀ o, o < n → f o = g o) : cntB f n = cntB g n := by
  unfold cntB
  congr 1
  exact List.filter_congr fun o ho => h o (List.mem_range.1 ho)
theorem cntB_zero {f : Nat → Bool} {n : Nat} : cntB f n = 0 ↔ ∀ o, o < n → f o = false := by
  unfold cntB
  rw [List.length_eq_zero_iff, List.filter_eq_nil_iff]
  constructor
  · intro h o ho; have := h o (List.mem_range.2 ho); simpa using this
  · intro h o ho; rw [h o (List.mem_range.1 ho)]; simp
/-! ### Places -/
def plcT (T : Tb) (i : Nat) : Int × Int := plcP (pts (prs T)) T.m T.n T.off i
theorem plcT_eq (T : Tb) (i : Nat) : plcT T i = ((1 : Int) + ((cntB (fun o => surT T o i) T.n : Nat) : Int), (1 : Int) + ((cntB (fun o => canT T o i) T.n : Nat) : Int)) := rfl
theorem befN_eq (T : Tb) (a b : Nat) : befN T a b = if surT T a b then 2 else if canT T a b then 1 else 0 := rfl
theorem befN_lim (T : Tb) (a b : Nat) : 0 ≤ befN T a b ∧ befN T a b ≤ 2 := by
  rw [befN_eq]; split
  · omega
  · split <;> omega
theorem befN_two {T : Tb} {a b : Nat} : befN T a b = 2 ↔ surT T a b = true := by
  rw [befN_eq]
  cases surT T a b with
  | true => simp
  | false => cases canT T a b <;> simp
theorem surF_no {T : Tb} {i o : Nat} (h : surF T i = true) (ho : o < T.n) : canT T o i = false := by
  have h1 : (plcT T i).2 = 1 := of_decide_eq_true h
  rw [plcT_eq] at h1
  have h2 : cntB (fun o => canT T o i) T.n = 0 := by have : (1 : Int) + _ = 1 := h1; omega
  exact cntB_zero.1 h2 o ho
section
variable {T : Tb} (hok : okT T = true)
include hok
theorem befN_zero {a b : Nat} : befN T a b = 0 ↔ canT T a b = false := by
  rw [befN_eq]
  cases h : surT T a b with
  | true => simp [sur_can hok h]
  | false => cases canT T a b <;> simp
theorem plc_lo {a b : Nat} (ha : a < T.n) (h : surT T a b = true) : (plcT T a).1 < (plcT T b).1 := by
  rw [plcT_eq, plcT_eq]
  have := cntB_lt (f := fun o => surT T o a) (g := fun o => surT T o b) (surT_self T a) h T.n ha fun o _ ho => sur_trans hok ho h
  show 1 + _ < 1 + _
  omega
theorem plc_hi {a b : Nat} (ha : a < T.n) (h : surT T a b = true) : (plcT T a).2 < (plcT T b).2 := by
  rw [plcT_eq, plcT_eq]
  have := cntB_lt (f := fun o => canT T o a) (g := fun o => canT T o b) (canT_self T a) (sur_can hok h) T.n ha fun o _ ho => can_sur hok ho h
  show 1 + _ < 1 + _
  omega
theorem plc_le (i : Nat) : (plcT T i).1 ≤ (plcT T i).2 := by
  rw [plcT_eq]
  have := cntB_mono (f := fun o => surT T o i) (g := fun o => canT T o i) T.n fun o _ ho => sur_can hok ho
  show 1 + _ ≤ 1 + _
  omega
theorem surF_can {i : Nat} (h : surF T i = true) : canF T i = true := by
  have h1 := of_decide_eq_true h
  have h2 := plc_le hok i
  have h3 : (1 : Int) ≤ (plcT T i).1 := by rw [plcT_eq]; show (1 : Int) ≤ 1 + _; omega
  have h4 : (plcT T i).2 = 1 := h1
  exact decide_eq_true (show (plcT T i).1 = 1 by omega)
theorem canF_ex : ∃ i, i < T.n ∧ canF T i = true := by
  have vd := okT_vd hok
  have n1 := vd.n1
  obtain ⟨i, hf, hi⟩ := first_ex hok (left := List.range T.n) (by intro e; have := congrArg List.length e; simp at this; omega) fun o ho => List.mem_range.1 ho
  refine ⟨i, List.mem_range.1 hi, decide_eq_true ?_⟩
  show (plcT T i).1 = 1
  have := List.find?_some hf
  unfold isFirst at this
  simp only [Bool.and_eq_true] at this
  have hh : held T (List.range T.n) i = false := by simpa using this.2
  rw [plcT_eq, cntB_zero.2 fun o ho => ?_]
  · rfl
  · unfold held at hh
    have := List.any_eq_false.1 hh o (List.mem_range.2 ho)
    simpa using this
end
/-! ### Sets as numbers -/
theorem bits_pos {f : Nat → Bool} {n i : Nat} (hi : i < n) (h : f i = true) : 0 < setOf' f n := by
  rcases Nat.eq_zero_or_pos (setOf' f n) with h0 | h0
  · have := setOf_bit f n i
    rw [h0, h, decide_eq_true hi] at this
    simp at this
  · exact h0
theorem shr_zero : ∀ w : Nat, w < 256 → ∀ n : Nat, n ≤ 8 → w < 2 ^ n → shrv .i64 (w : Int) (n : Int) = 0 := by
  have h : ((List.range 256).all fun (l : Nat) => (List.range 9).all fun (m : Nat) => decide (2 ^ m ≤ l) || decide (shrv .i64 (l : Int) (m : Int) = 0)) = true := by decide +kernel
  intro w hl n hn hw
  have h1 := List.all_eq_true.1 h w (by simpa using hl)
  have h2 := List.all_eq_true.1 h1 n (by simp; omega)
  rw [decide_eq_false (by omega)] at h2
  simpa using h2
theorem bit_is : ∀ w : Nat, w < 256 → ∀ n : Nat, n < 8 → (andv .i64 (shrv .i64 (w : Int) (n : Int)) 1 == 1) = w.testBit n := by
  have h : ((List.range 256).all fun (l : Nat) => (List.range 8).all fun (m : Nat) => decide ((andv .i64 (shrv .i64 (l : Int) (m : Int)) 1 == 1) = l.testBit m)) = true := by decide +kernel
  intro w hl m hm
  have h1 := List.all_eq_true.1 h w (by simpa using hl)
  have h2 := List.all_eq_true.1 h1 m (by simpa using hm)
  exact of_decide_eq_true h2
theorem andn_zero : ∀ w : Nat, w < 64 → ∀ v : Nat, v < 64 → (∀ i, i < 6 → w.testBit i = true → v.testBit i = true) → andnv .i64 (w : Int) (v : Int) = 0 := by
  have h : ((List.range 64).all fun (l : Nat) => (List.range 64).all fun (m : Nat) => decide (andnv .i64 (l : Int) (m : Int) = 0) || (List.range 6).any fun i => l.testBit i && !m.testBit i) = true := by decide +kernel
  intro w hl v hv hb
  have h1 := List.all_eq_true.1 h w (by simpa using hl)
  have h2 := List.all_eq_true.1 h1 v (by simpa using hv)
  have h3 : ((List.range 6).any fun i => w.testBit i && !v.testBit i) = false := List.any_eq_false.2 fun i hi => by
    cases hw : w.testBit i with
    | false => simp
    | true => simp [hb i (List.mem_range.1 hi) hw]
  rw [h3] at h2
  simpa using h2
end Go.Proofs.Ytkgcbfbbcaajpaa.G

/- Rank: rules for the statements: a table is read; rows of numbers; what valid tables tell. -/
set_option linter.unusedSimpArgs false
set_option linter.unusedVariables false
set_option maxRecDepth 20000
namespace Go.Proofs.Ytkgcbfbbcaajpaa.G
open Go.V
theorem rdT {s : Hp} {za : Addr} {T : Tb} {K : Int → Int → Option Addr → Nat → Nat → Option Addr → Nat → Nat → Hp → Prop} (ta : TbA s za T) (h : ∀ x c y c', RowAt s x (ints T.off) → ScAt s y T.sc → K T.men T.sheets x T.off.length c y T.sc.length c' s) :
    RDI .i64 (Addr.add za 0) (fun n => RDI .i64 (Addr.add za 1) fun m => RDL (Addr.add za 2) fun x l c => RDL (Addr.add za 3) fun x' l' c' => K n m x l c x' l' c') s := by
  obtain ⟨h1, h2, ⟨x, c, h3, h4⟩, ⟨y, c', h5, h6⟩⟩ := ta
  exact ⟨_, h1, _, h2, _, _, _, h3, _, _, _, h5, h x c y c' h4 h6⟩
theorem TbA.kp {D : Nat → Prop} {s s' : Hp} {za : Addr} {T : Tb} (k : Kp D s s') (hz : ¬ D za.block) (hx : ∀ x c, cellAt s (za.add 2) = some (.slice x T.off.length c) → ∀ a, x = some a → ¬ D a.block) (hy : ∀ x c, cellAt s (za.add 3) = some (.slice x T.sc.length c) → ∀ a, x = some a → ¬ D a.block) (h : TbA s za T) : TbA s' za T where
  men := k.cell (by rw [add_blk]; exact hz) h.men
  sheets := k.cell (by rw [add_blk]; exact hz) h.sheets
  off := by obtain ⟨x, c, h1, h2⟩ := h.off; exact ⟨x, c, k.cell (by rw [add_blk]; exact hz) h1, h2.keep k (hx x c h1)⟩
  sc := by
    obtain ⟨x, c, h1, h2⟩ := h.sc
    refine ⟨x, c, k.cell (by rw [add_blk]; exact hz) h1, fun i hi => ?_⟩
    obtain ⟨a, ha, g0, g1, g2, g3⟩ := h2 i hi
    have hd := hy x c h1 a ha
    refine ⟨a, ha, k.cell ?_ g0, k.cell ?_ g1, k.cell ?_ g2, k.cell ?_ g3⟩ <;> (rw [add_blk, add_blk]; exact hd)
section
variable {W : World} {K : VK} {E : List PanicEntry → Hp → Prop} {s : Hp} {T : Tb} {x y : Option Addr} {c c' : Nat}
theorem men_n (hok : okT T = true) : ((T.n : Nat) : Int) = T.men := by obtain ⟨h, _⟩ := okT_iff.1 hok; unfold Tb.n; omega
theorem sheets_m (hok : okT T = true) : ((T.m : Nat) : Int) = T.sheets := by obtain ⟨_, h, _⟩ := okT_iff.1 hok; unfold Tb.m; omega
theorem isM_nat (hok : okT T = true) {i : Nat} (hi : i < T.n) : isM T (i : Int) := by have := men_n hok; unfold isM; omega
theorem befR_n (hok : okT T = true) {a b : Nat} (ha : a < T.n) (hb : b < T.n) : befR T a b = (befN T a b, 0) := by unfold befR; rw [if_pos hok, if_pos ⟨isM_nat hok ha, isM_nat hok hb⟩]; rfl
theorem plcR_n (hok : okT T = true) {a : Nat} (ha : a < T.n) : plcR T a = (plcT T a, 0) := by unfold plcR; rw [if_pos hok, if_pos (isM_nat hok ha)]; rfl
def sumT (T : Tb) (i : Nat) : Int × Int := ((lowR T i).getD 0 0, (topR T i).getD 0 0)
theorem sumR_n (hok : okT T = true) {a : Nat} (ha : a < T.n) : sumP T a = (sumT T a, 0) := by unfold sumP; rw [if_pos hok, if_pos (isM_nat hok ha)]; rfl
theorem eqR_n (hok : okT T = true) {a b : Nat} (ha : a < T.n) (hb : b < T.n) : eqR T a b = (eqP T a b, 0) := by unfold eqR; rw [if_pos hok, if_pos ⟨isM_nat hok ha, isM_nat hok hb⟩]; rfl
theorem c_BeforeN {a b : Nat} (hok : okT T = true) (ha : a < T.n) (hb : b < T.n) (hlo : T.off.length ≤ 100000) (hx : RowAt s x (ints T.off)) (hy : ScAt s y T.sc) (h : ∀ s', Ext s s' → K (.tuple #[.int .i64 (befN T a b), .int .i64 0]) s') :
    CALL Pg W F_rank_Before [.agg #[.int .i64 T.men, .int .i64 T.sheets, .slice x T.off.length c, .slice y T.sc.length c'], .int .i64 a, .int .i64 b] K E s :=
  c_Before hx hy hlo (by rw [befR_n hok ha hb]; exact h)
theorem c_PlaceN {a : Nat} (hok : okT T = true) (ha : a < T.n) (hlo : T.off.length ≤ 100000) (hx : RowAt s x (ints T.off)) (hy : ScAt s y T.sc) (h : ∀ s', Ext s s' → K (.tuple #[.agg #[.int .i64 (plcT T a).1, .int .i64 (plcT T a).2], .int .i64 0]) s') :
    CALL Pg W F_rank_Place [.agg #[.int .i64 T.men, .int .i64 T.sheets, .slice x T.off.length c, .slice y T.sc.length c'], .int .i64 a] K E s :=
  c_Place hx hy hlo (by rw [plcR_n hok ha]; exact h)
theorem c_SumN {a : Nat} (hok : okT T = true) (ha : a < T.n) (hlo : T.off.length ≤ 100000) (hx : RowAt s x (ints T.off)) (hy : ScAt s y T.sc) (h : ∀ s', Ext s s' → K (.tuple #[.agg #[.int .i64 (sumT T a).1, .int .i64 (sumT T a).2], .int .i64 0]) s') :
    CALL Pg W F_rank_Sum [.agg #[.int .i64 T.men, .int .i64 T.sheets, .slice x T.off.length c, .slice y T.sc.length c'], .int .i64 a] K E s :=
  c_Sum hx hy hlo (by rw [sumR_n hok ha]; exact h)
theorem c_EqualN {a b : Nat} (hok : okT T = true) (ha : a < T.n) (hb : b < T.n) (hlo : T.off.length ≤ 100000) (hx : RowAt s x (ints T.off)) (hy : ScAt s y T.sc) (h : ∀ s', Ext s s' → K (.tuple #[.bool (eqP T a b), .int .i64 0]) s') :
    CALL Pg W F_rank_Equal [.agg #[.int .i64 T.men, .int .i64 T.sheets, .slice x T.off.length c, .slice y T.sc.length c'], .int .i64 a, .int .i64 b] K E s :=
  c_Equal hx hy hlo (by rw [eqR_n hok ha hb]; exact h)
theorem c_WinnersN (hok : okT T = true) (hlo : T.off.length ≤ 100000) (hx : RowAt s x (ints T.off)) (hy : ScAt s y T.sc) (h : ∀ s', Ext s s' → K (.tuple #[.int .i64 (setOf' (surF T) T.n : Nat), .int .i64 (setOf' (canF T) T.n : Nat), .int .i64 0]) s') :
    CALL Pg W F_rank_Winners [.agg #[.int .i64 T.men, .int .i64 T.sheets, .slice x T.off.length c, .slice y T.sc.length c']] K E s :=
  c_Winners hx hy hlo (by have : winP T = (((setOf' (surF T) T.n : Nat) : Int), ((setOf' (canF T) T.n : Nat) : Int), 0) := by unfold winP; rw [if_pos hok]
                          rw [this]; exact h)
/-- The beginning of a statement: too much, or not valid. -/
theorem st_begin {s1 : Hp} {za : Addr} {X : Bool → Hp → Prop} (ta : TbA s1 za T) (hfar : ∀ s' b, Ext s1 s' → (b = false → T.off.length ≤ 100000) → X b s') :
    (RDI .i64 (Addr.add za 0) fun n => RDI .i64 (Addr.add za 1) fun m => RDL (Addr.add za 2) fun x l c => RDL (Addr.add za 3) fun x' l' c' => CALL Pg W F_law10_far [.agg #[.int .i64 n, .int .i64 m, .slice x l c, .slice x' l' c']] (fun v => TYB v fun b => X b) E) s1 := by
  refine rdT ta fun x c y c' hx hy => ?_
  refine c_far fun s2 b e2 hb => ?_
  try simp only [TUP_mk, AGG_mk, HD_mk, NL_mk, TYI_mk, TYB_mk, TYP_mk, TYL_mk, TYS_mk, TYM_mk, SO_mk, NX_mk, endK_mk, endK_mk', add_0]
  exact hfar s2 b e2 fun hh => by have := hb hh; omega
theorem n_lim (hok : okT T = true) : 1 ≤ T.n ∧ T.n ≤ 6 ∧ 1 ≤ T.m ∧ T.m ≤ 5 := by have vd := okT_vd hok; exact ⟨vd.n1, vd.n6, vd.m1, vd.m5⟩
end
/-! ### Rows of numbers -/
structure Rows (s : Hp) (lo b k : Nat) (rows : Nat → List Int) : Prop where
  row : ∀ i, i < k → ∃ x c, Own s ⟨b, i, none⟩ (.slice x (rows i).length c) ∧ RowAt s x (ints (rows i)) ∧ ∀ a, x = some a → b < a.block ∧ a.block < lo
theorem Rows.ext {s s' : Hp} {lo b k : Nat} {rows : Nat → List Int} (e : Ext s s') (h : Rows s lo b k rows) : Rows s' lo b k rows := ⟨fun i hi => by
  obtain ⟨x, c, h1, h2, h3⟩ := h.row i hi
  exact ⟨x, c, e.own h1, h2.ext e, h3⟩⟩
theorem Rows.kp {D : Nat → Prop} {s s' : Hp} {lo b k : Nat} {rows : Nat → List Int} (e : Kp D s s') (hD : ∀ q, D q → lo ≤ q) (hb : b < lo) (h : Rows s lo b k rows) : Rows s' lo b k rows := ⟨fun i hi => by
  obtain ⟨x, c, h1, h2, h3⟩ := h.row i hi
  exact ⟨x, c, e.own (fun hd => by have := hD _ hd; have : b = b := rfl; simp at *; omega) h1, h2.keep e (fun a ha hd => by have := hD _ hd; have := h3 a ha; omega), h3⟩⟩
theorem Rows.wr {s : Hp} {lo b k : Nat} {rows : Nat → List Int} {v : Value} (h : Rows s lo b k rows) : Rows (setC s ⟨b, k, none⟩ v) lo b k rows := ⟨fun i hi => by
  obtain ⟨x, c, h1, h2, h3⟩ := h.row i hi
  refine ⟨x, c, own_set_ne (.inr (by show i ≠ k; omega)) h1, h2.keep (D := (· = b)) (Kp.setC (Kp.refl s) (.inl rfl)) (fun a ha hd => by have := h3 a ha; omega), h3⟩⟩
theorem Rows.lo {s : Hp} {lo lo' b k : Nat} {rows : Nat → List Int} (hl : lo ≤ lo') (h : Rows s lo b k rows) : Rows s lo' b k rows := ⟨fun i hi => by
  obtain ⟨x, c, h1, h2, h3⟩ := h.row i hi
  exact ⟨x, c, h1, h2, fun a ha => ⟨(h3 a ha).1, Nat.lt_of_lt_of_le (h3 a ha).2 hl⟩⟩⟩
theorem Rows.add {s : Hp} {lo b k c : Nat} {rows : Nat → List Int} {x : Option Addr} (h : Rows s lo b k rows) (o : Own s ⟨b, k, none⟩ (.slice x (rows k).length c)) (hr : RowAt s x (ints (rows k))) (hx : ∀ a, x = some a → b < a.block ∧ a.block < lo) : Rows s lo b (k + 1) rows := ⟨fun i hi => by
  by_cases e : i = k
  · subst e; exact ⟨x, c, o, hr, hx⟩
  · exact h.row i (by omega)⟩
theorem Rows.congr {s : Hp} {lo b k : Nat} {rows rows' : Nat → List Int} (hr : ∀ i, i < k → rows i = rows' i) (h : Rows s lo b k rows) : Rows s lo b k rows' := ⟨fun i hi => by rw [← hr i hi]; exact h.row i hi⟩
theorem Rows.rd {s : Hp} {lo b k i j N : Nat} {rows : Nat → List Int} {KK : Int → Hp → Prop} (h : Rows s lo b k rows) (hi : i < k) (hk : k ≤ N) (hj : j < (rows i).length) (hK : KK ((rows i).getD j 0) s) :
    (IXS (some ⟨b, 0, none⟩) N (i : Int) 1 fun a => RDL a fun x l c => IXS x l (j : Int) 1 fun a' => RDI .i64 a' KK) s := by
  obtain ⟨x, c, h1, h2, h3⟩ := h.row i hi
  refine IXS_nat (by omega) ?_
  refine ⟨_, _, _, by rw [add_nil, Nat.zero_add, Nat.mul_one]; exact h1.cell, ?_⟩
  obtain ⟨a, ha, g⟩ := row_int h2 hj
  subst ha
  exact IXS_nat hj ⟨_, g, hK⟩
end Go.Proofs.Ytkgcbfbbcaajpaa.G

/- Rank, in plain Lean: tables with other scores. -/
set_option linter.unusedSimpArgs false
set_option linter.unusedVariables false
set_option maxRecDepth 20000
namespace Go.Proofs.Ytkgcbfbbcaajpaa.G
open Go.V
def Sc.key (x : Sc) : Int × Int := (x.man, x.sheet)
def scOk (T : Tb) (x : Sc) : Prop := (0 ≤ x.man ∧ x.man ≤ T.men - 1) ∧ (0 ≤ x.sheet ∧ x.sheet ≤ T.sheets - 1) ∧ 0 ≤ x.lo ∧ x.lo ≤ x.hi ∧ x.hi ≤ 40
theorem okS_iff {T : Tb} : ∀ (r : List Sc) (l : List Pr), okS T l r = true ↔ (∀ x ∈ r, scOk T x ∧ ∀ p ∈ l, p.1 ≠ x.key) ∧ (r.map Sc.key).Nodup
  | [], l => by simp [okS]
  | y :: r, l => by
    unfold okS
    rw [Bool.and_eq_true, okS_iff r _]
    unfold okSc
    simp only [Bool.and_eq_true, decide_eq_true_eq, Option.isNone_iff_eq_none]
    rw [findA_none]
    constructor
    · rintro ⟨⟨h1, h2, h3, h4⟩, h5, h6⟩
      refine ⟨fun x hx => ?_, ?_⟩
      · rcases List.mem_cons.1 hx with rfl | hx
        · exact ⟨⟨h1, h2, h4⟩, h3⟩
        · exact ⟨(h5 x hx).1, fun p hp => (h5 x hx).2 p (by simp [hp])⟩
      · rw [List.map_cons, List.nodup_cons]
        refine ⟨fun hm => ?_, h6⟩
        obtain ⟨x, hx, e⟩ := List.mem_map.1 hm
        exact (h5 x hx).2 y.pr (by simp) e.symm
    · rintro ⟨h1, h2⟩
      rw [List.map_cons, List.nodup_cons] at h2
      obtain ⟨⟨g1, g2, g4⟩, g3⟩ := h1 y (by simp)
      refine ⟨⟨g1, g2, g3, g4⟩, fun x hx => ⟨(h1 x (by simp [hx])).1, fun p hp => ?_⟩, h2.2⟩
      rcases List.mem_append.1 hp with hp | hp
      · exact (h1 x (by simp [hx])).2 p hp
      · have : p = y.pr := by simpa using hp
        subst this
        exact fun e => h2.1 (List.mem_map.2 ⟨x, hx, e.symm⟩)
theorem okT_iff2 {T : Tb} : okT T = true ↔ (1 ≤ T.men ∧ T.men ≤ 6) ∧ (1 ≤ T.sheets ∧ T.sheets ≤ 5) ∧ (T.off.length : Int) = T.men ∧ T.off.any badO = false ∧ T.sc.length ≤ 30 ∧ (∀ x ∈ T.sc, scOk T x) ∧ (T.sc.map Sc.key).Nodup := by
  rw [okT_iff, okS_iff]
  constructor
  · rintro ⟨h1, h2, h3, h4, h5, h6, h7⟩
    exact ⟨h1, h2, h3, h4, h5, fun x hx => (h6 x hx).1, h7⟩
  · rintro ⟨h1, h2, h3, h4, h5, h6, h7⟩
    exact ⟨h1, h2, h3, h4, h5, fun x hx => ⟨h6 x hx, fun p hp => by cases hp⟩, h7⟩
/-- No more than so many unlike numbers lie below a bound. -/
theorem nodup_len : ∀ (n : Nat) (l : List Nat), l.Nodup → (∀ x ∈ l, x < n) → l.length ≤ n
  | 0, l, _, h => by
    cases l with
    | nil => simp
    | cons x r => have := h x (by simp); omega
  | n + 1, l, hn, h => by
    have h1 := nodup_len n (l.erase n) (hn.erase n) fun x hx => by
      have h2 := h x (List.mem_of_mem_erase hx)
      have h3 : x ≠ n := fun e => by subst e; exact (List.Nodup.not_mem_erase hn) hx
      omega
    by_cases hm : n ∈ l
    · rw [List.length_erase_of_mem hm] at h1; omega
    · rw [List.erase_of_not_mem hm] at h1; omega
theorem sc_len {T : Tb} (hm : T.men ≤ 6) (hs : T.sheets ≤ 5) {l : List Sc} (h : ∀ x ∈ l, scOk T x) (hn : (l.map Sc.key).Nodup) : l.length ≤ 30 := by
  have e : l.length = ((l.map Sc.key).map fun k => (k.1 * 5 + k.2).toNat).length := by simp
  rw [e]
  refine nodup_len 30 _ ?_ ?_
  · rw [List.nodup_iff_pairwise_ne] at hn ⊢
    rw [List.pairwise_map]
    refine List.Pairwise.imp_of_mem ?_ hn
    intro a b ha hb hne he
    obtain ⟨x, hx, rfl⟩ := List.mem_map.1 ha
    obtain ⟨y, hy, rfl⟩ := List.mem_map.1 hb
    obtain ⟨h1, h2, _⟩ := h x hx
    obtain ⟨h3, h4, _⟩ := h y hy
    apply hne
    unfold Sc.key at he ⊢
    simp only at he
    have : x.man * 5 + x.sheet = y.man * 5 + y.sheet := by omega
    have e1 : x.man = y.man := by omega
    have e2 : x.sheet = y.sheet := by omega
    rw [e1, e2]
  · intro q hq
    obtain ⟨k, hk, rfl⟩ := List.mem_map.1 hq
    obtain ⟨x, hx, rfl⟩ := List.mem_map.1 hk
    obtain ⟨h1, h2, _⟩ := h x hx
    unfold Sc.key
    simp only
    omega
/-- What is known of a score that is told. -/
theorem pts_mem {l : List Sc} (hn : (l.map Sc.key).Nodup) {x : Sc} (hx : x ∈ l) : pts (l.map Sc.pr) x.key = (x.lo, x.hi) := by
  rw [pts_find]
  have : (l.map Sc.pr).find? (fun p => decide (p.1 = x.key)) = some x.pr := by
    induction l with
    | nil => cases hx
    | cons y r ih =>
      rw [List.map_cons, List.nodup_cons] at hn
      rw [List.map_cons, List.find?_cons]
      rcases List.mem_cons.1 hx with rfl | hx
      · rw [show decide (x.pr.1 = x.key) = true from decide_eq_true rfl]
      · have : decide (y.pr.1 = x.key) = false := decide_eq_false fun e => hn.1 (List.mem_map.2 ⟨x, hx, e.symm⟩)
        rw [this]; exact ih hn.2 hx
  rw [this]; rfl
theorem pts_not {l : List Sc} {k : Int × Int} (h : ∀ x ∈ l, x.key ≠ k) : pts (l.map Sc.pr) k = (0, 40) := by
  rw [pts_find]
  have : (l.map Sc.pr).find? (fun p => decide (p.1 = k)) = none := List.find?_eq_none.2 fun p hp => by
    obtain ⟨x, hx, rfl⟩ := List.mem_map.1 hp
    have := h x hx
    show ¬ decide (x.key = k) = true
    simpa using this
  rw [this]; rfl
/-! ### One more score read -/
def withL (l : List Sc) (a k n : Int) : List Sc := l.filter (fun c => decide (c.man ≠ a) || decide (c.sheet ≠ k)) ++ [⟨a, k, n, n⟩]
def withT (T : Tb) (a k n : Int) : Tb := ⟨T.men, T.sheets, T.off, withL T.sc a k n⟩
theorem withL_key {l : List Sc} {a k n : Int} {c : Sc} (h : c ∈ l.filter (fun c => decide (c.man ≠ a) || decide (c.sheet ≠ k))) : c ∈ l ∧ c.key ≠ (a, k) := by
  obtain ⟨h1, h2⟩ := List.mem_filter.1 h
  refine ⟨h1, fun e => ?_⟩
  unfold Sc.key at e
  injection e with e1 e2
  rw [e1, e2] at h2
  simp at h2
theorem withL_nodup {l : List Sc} {a k n : Int} (h : (l.map Sc.key).Nodup) : ((withL l a k n).map Sc.key).Nodup := by
  unfold withL
  rw [List.map_append, List.nodup_append]
  refine ⟨(List.filter_sublist.map _).nodup h, by simp, fun x hx y hy => ?_⟩
  obtain ⟨c, hc, rfl⟩ := List.mem_map.1 hx
  have : y = (a, k) := by simpa [Sc.key] using hy
  subst this
  exact (withL_key (n := n) hc).2
theorem withT_ok {T : Tb} (hok : okT T = true) {a k n : Int} (ha : isM T a) (hk : isS T k) (h0 : 0 ≤ n) (h1 : n ≤ 40) : okT (withT T a k n) = true := by
  obtain ⟨g1, g2, g3, g4, g5, g6, g7⟩ := okT_iff2.1 hok
  have hs : ∀ x ∈ withL T.sc a k n, scOk T x := fun x hx => by
    unfold withL at hx
    rcases List.mem_append.1 hx with hx | hx
    · exact g6 x (withL_key (n := n) hx).1
    · have : x = ⟨a, k, n, n⟩ := by simpa using hx
      subst this
      exact ⟨ha, hk, h0, Int.le_refl _, h1⟩
  refine okT_iff2.2 ⟨g1, g2, g3, g4, ?_, hs, withL_nodup g7⟩
  exact sc_len (T := T) g1.2 g2.2 hs (withL_nodup g7)
theorem withT_pts {T : Tb} (hok : okT T = true) {a k n : Int} (q : Int × Int) : pts (prs (withT T a k n)) q = if q = (a, k) then (n, n) else pts (prs T) q := by
  obtain ⟨g1, g2, g3, g4, g5, g6, g7⟩ := okT_iff2.1 hok
  show pts ((withL T.sc a k n).map Sc.pr) q = _
  have hn := withL_nodup (a := a) (k := k) (n := n) g7
  by_cases e : q = (a, k)
  · subst e
    rw [if_pos rfl]
    exact pts_mem hn (x := ⟨a, k, n, n⟩) (by unfold withL; simp)
  · rw [if_neg e]
    by_cases hx : ∃ x ∈ T.sc, x.key = q
    · obtain ⟨x, hx, rfl⟩ := hx
      unfold prs
      rw [pts_mem g7 hx]
      refine pts_mem hn ?_
      unfold withL
      refine List.mem_append.2 (.inl (List.mem_filter.2 ⟨hx, ?_⟩))
      unfold Sc.key at e
      by_cases h1 : x.man = a
      · have h2 : x.sheet ≠ k := fun h2 => e (by rw [h1, h2])
        simp [h2]
      · simp [h1]
    · have hno : ∀ x ∈ T.sc, x.key ≠ q := fun x hx' e' => hx ⟨x, hx', e'⟩
      unfold prs
      rw [pts_not hno]
      refine pts_not fun x hx' => ?_
      unfold withL at hx'
      rcases List.mem_append.1 hx' with h1 | h1
      · exact hno x (List.mem_filter.1 h1).1
      · have : x = ⟨a, k, n, n⟩ := by simpa using h1
        subst this
        exact fun e' => e e'.symm
/-! ### All scores read -/
def fillR (v : Nat → Nat → Int) (i m : Nat) : List Sc := (List.range m).map fun k => ⟨(i : Nat), (k : Nat), v i k, v i k⟩
def fillL (v : Nat → Nat → Int) (n m : Nat) : List Sc := (List.range n).flatMap fun i => fillR v i m
def fillT (T : Tb) (v : Nat → Nat → Int) : Tb := ⟨T.men, T.sheets, T.off, fillL v T.n T.m⟩
theorem fillL_succ (v : Nat → Nat → Int) (n m : Nat) : fillL v (n + 1) m = fillL v n m ++ fillR v n m := by unfold fillL; rw [List.range_succ, List.flatMap_append]; simp
theorem fillR_succ (v : Nat → Nat → Int) (i m : Nat) : fillR v i (m + 1) = fillR v i m ++ [⟨(i : Nat), (m : Nat), v i m, v i m⟩] := by unfold fillR; rw [List.range_succ, List.map_append]; rfl
theorem fillR_len (v : Nat → Nat → Int) (i m : Nat) : (fillR v i m).length = m := by unfold fillR; simp
theorem fillL_len (v : Nat → Nat → Int) (m : Nat) : ∀ n, (fillL v n m).length = n * m
  | 0 => by simp [fillL]
  | n + 1 => by rw [fillL_succ, List.length_append, fillL_len v m n, fillR_len, Nat.add_mul]; omega
theorem fillL_mem {v : Nat → Nat → Int} {n m : Nat} {x : Sc} : x ∈ fillL v n m ↔ ∃ i k, i < n ∧ k < m ∧ x = ⟨(i : Nat), (k : Nat), v i k, v i k⟩ := by
  unfold fillL fillR
  simp only [List.mem_flatMap, List.mem_map, List.mem_range]
  constructor
  · rintro ⟨i, hi, k, hk, rfl⟩; exact ⟨i, k, hi, hk, rfl⟩
  · rintro ⟨i, k, hi, hk, rfl⟩; exact ⟨i, hi, k, hk, rfl⟩
theorem fillR_nodup {v : Nat → Nat → Int} (i : Nat) : ∀ m, ((fillR v i m).map Sc.key).Nodup
  | 0 => by simp [fillR]
  | m + 1 => by
    rw [fillR_succ, List.map_append, List.nodup_append]
    refine ⟨fillR_nodup i m, by simp, fun x hx y hy => ?_⟩
    obtain ⟨c, hc, rfl⟩ := List.mem_map.1 hx
    obtain ⟨k, hk, rfl⟩ := List.mem_map.1 hc
    have hkm := List.mem_range.1 hk
    have : y = ((i : Int), (m : Int)) := by simpa [Sc.key] using hy
    subst this
    intro e
    unfold Sc.key at e
    injection e with e1 e2
    dsimp only at e1 e2
    omega
theorem fillL_nodup {v : Nat → Nat → Int} (m : Nat) : ∀ n, ((fillL v n m).map Sc.key).Nodup
  | 0 => by simp [fillL]
  | n + 1 => by
    rw [fillL_succ, List.map_append, List.nodup_append]
    refine ⟨fillL_nodup m n, fillR_nodup n m, fun x hx y hy => ?_⟩
    obtain ⟨c, hc, rfl⟩ := List.mem_map.1 hx
    obtain ⟨d, hd, rfl⟩ := List.mem_map.1 hy
    obtain ⟨i, k, hi, hk, rfl⟩ := fillL_mem.1 hc
    obtain ⟨k', hk', rfl⟩ := List.mem_map.1 hd
    intro e
    unfold Sc.key at e
    injection e with e1 e2
    dsimp only at e1 e2
    omega
theorem fillT_ok {T : Tb} (hok : okT T = true) {v : Nat → Nat → Int} (hv : ∀ i k, i < T.n → k < T.m → 0 ≤ v i k ∧ v i k ≤ 40) : okT (fillT T v) = true := by
  obtain ⟨g1, g2, g3, g4, g5, g6, g7⟩ := okT_iff2.1 hok
  have hn := men_n hok
  have hm := sheets_m hok
  have hs : ∀ x ∈ fillL v T.n T.m, scOk T x := fun x hx => by
    obtain ⟨i, k, hi, hk, rfl⟩ := fillL_mem.1 hx
    have := hv i k hi hk
    unfold scOk
    simp only
    omega
  exact okT_iff2.2 ⟨g1, g2, g3, g4, sc_len (T := T) g1.2 g2.2 hs (fillL_nodup _ _), hs, fillL_nodup _ _⟩
theorem fillT_pts {T : Tb} {v : Nat → Nat → Int} {i k : Nat} (hi : i < T.n) (hk : k < T.m) : pts (prs (fillT T v)) ((i : Int), (k : Int)) = (v i k, v i k) :=
  pts_mem (l := fillL v T.n T.m) (fillL_nodup _ _) (x := ⟨(i : Nat), (k : Nat), v i k, v i k⟩) (fillL_mem.2 ⟨i, k, hi, hk, rfl⟩)
/-! ### Rows -/
def rowG (f : Nat → Int) (m : Nat) (o : Int) : List Int := (((List.range m).map f).sum - o) :: (List.range m).map f
theorem lowR_eq (T : Tb) (i : Nat) : lowR T i = rowG (fun k => (pts (prs T) ((i : Int), (k : Int))).1) T.m (offT T i) := rfl
theorem topR_eq (T : Tb) (i : Nat) : topR T i = rowG (fun k => (pts (prs T) ((i : Int), (k : Int))).2) T.m (offT T i) := rfl
theorem rowG_congr {f g : Nat → Int} {m : Nat} {o : Int} (h : ∀ k, k < m → f k = g k) : rowG f m o = rowG g m o := by
  have : (List.range m).map f = (List.range m).map g := List.map_congr_left fun k hk => h k (List.mem_range.1 hk)
  unfold rowG; rw [this]
theorem rowG_len (f : Nat → Int) (m : Nat) (o : Int) : (rowG f m o).length = m + 1 := by unfold rowG; simp
theorem rowG_le {f g : Nat → Int} {m : Nat} {o p : Int} (h : ∀ k, k < m → f k ≤ g k) (ho : p ≤ o) : aheadL (rowG f m o) (rowG g m p) = false := by
  have hp : ∀ j, ((List.range m).map f).getD j 0 ≤ ((List.range m).map g).getD j 0 := fun j => by
    by_cases hj : j < m
    · simp [List.getD, hj, h j hj]
    · simp [List.getD, hj]
  have hs := sum_le _ _ (by simp) hp
  refine ahead_le _ _ fun j => ?_
  cases j with
  | zero => show ((List.range m).map f).sum - o ≤ ((List.range m).map g).sum - p; omega
  | succ j => exact hp j
theorem rowG_inj {f g : Nat → Int} {m : Nat} {o p : Int} (h : rowG f m o = rowG g m p) : o = p ∧ ∀ k, k < m → f k = g k := by
  unfold rowG at h
  injection h with h1 h2
  rw [h2] at h1
  refine ⟨by omega, fun k hk => ?_⟩
  have := congrArg (fun l => l.getD k 0) h2
  simpa [List.getD, hk] using this
end Go.Proofs.Ytkgcbfbbcaajpaa.G

/- Rank: a table that is put together. -/
set_option linter.unusedSimpArgs false
set_option linter.unusedVariables false
set_option maxRecDepth 20000
namespace Go.Proofs.Ytkgcbfbbcaajpaa.G
open Go.V
theorem scs_len (l : List Sc) : (scs l).length = l.length * 4 := by
  unfold scs
  induction l with
  | nil => rfl
  | cons x r ih => rw [List.flatMap_cons, List.length_append, ih]; simp; omega
theorem scs_app (a b : List Sc) : scs (a ++ b) = scs a ++ scs b := by unfold scs; rw [List.flatMap_append]
theorem scs_one (l : List Sc) : ∀ v ∈ scs l, oneCell v = true := by
  intro v hv
  unfold scs at hv
  obtain ⟨x, _, hx⟩ := List.mem_flatMap.1 hv
  simp at hx
  rcases hx with rfl | rfl | rfl | rfl <;> rfl
theorem scAt_row {s : Hp} {y : Option Addr} {l : List Sc} (h : RowAt s y (scs l)) : ScAt s y l := fun i hi => by
  have hl := scs_len l
  obtain ⟨g0, g1, g2, g3⟩ := scs_get l i hi
  have key : ∀ j v, j < 4 → (scs l)[i * 4 + j]? = some v → ∃ a, y = some a ∧ cellAt s ((a.add (i * 4)).add j) = some v := fun j v hj hv => by
    obtain ⟨a, ha, g⟩ := h (i * 4 + j) (by omega)
    rw [List.getElem?_eq_getElem (by omega)] at hv
    injection hv with hv
    rw [hv] at g
    refine ⟨a, ha, ?_⟩
    rw [addr_add, ← g, Nat.mul_one]
  obtain ⟨a, ha, k0⟩ := key 0 _ (by omega) g0
  obtain ⟨a1, ha1, k1⟩ := key 1 _ (by omega) g1
  obtain ⟨a2, ha2, k2⟩ := key 2 _ (by omega) g2
  obtain ⟨a3, ha3, k3⟩ := key 3 _ (by omega) g3
  rw [ha] at ha1 ha2 ha3
  cases ha1; cases ha2; cases ha3
  exact ⟨a, ha, k0, k1, k2, k3⟩
/-- What a row holds is kept. -/
def RowK (kp : List (Addr × Value)) (x : Option Addr) (vs : List Value) : Prop := ∀ i, (h : i < vs.length) → ∃ a, x = some a ∧ (a.add (i * 1), vs[i]) ∈ kp
/-- A table that is put together in the block 'B', behind the heap 's0'; 'kp' is kept; the blocks of 'D' are others'. -/
structure TbB (s0 s : Hp) (B : Nat) (T : Tb) (sc : List Sc) (kp : List (Addr × Value)) (D : Nat → Prop) (xo : Option Addr × Nat) : Prop where
  ext : Ext s0 s
  blk : s0.size ≤ B
  men : Own s ⟨B, 0, none⟩ (.int .i64 T.men)
  sheets : Own s ⟨B, 1, none⟩ (.int .i64 T.sheets)
  off : Own s ⟨B, 2, none⟩ (.slice xo.1 T.off.length xo.2) ∧ (RowAt s0 xo.1 (ints T.off) ∨ RowK kp xo.1 (ints T.off))
  sc : ∃ y c, Own s ⟨B, 3, none⟩ (.slice y sc.length c) ∧ Fr s0.size s y sc.length c 4 (scs sc) ∧ (∀ a, y = some a → a.block ≠ B ∧ a.block < s.size) ∧ (∀ p ∈ kp, Own s p.1 p.2 ∧ p.1.block ≠ B ∧ ∀ a, y = some a → p.1.block ≠ a.block) ∧ ∀ q, D q → q ≠ B ∧ (∀ a, y = some a → q ≠ a.block) ∧ q < s.size ∧ s0.size ≤ q ∧ ∀ p ∈ kp, p.1.block ≠ q
theorem TbA.all {s : Hp} {za : Addr} {T : Tb} (h : TbA s za T) : ∃ x c y c', cellAt s (za.add 0) = some (.int .i64 T.men) ∧ cellAt s (za.add 1) = some (.int .i64 T.sheets) ∧ cellAt s (za.add 2) = some (.slice x T.off.length c) ∧ cellAt s (za.add 3) = some (.slice y T.sc.length c') ∧ RowAt s x (ints T.off) ∧ ScAt s y T.sc := by
  obtain ⟨h1, h2, ⟨x, c, h3, h4⟩, ⟨y, c', h5, h6⟩⟩ := h
  exact ⟨x, c, y, c', h1, h2, h3, h5, h4, h6⟩
/-- A result that is not yet written. -/
def z4 (C : Nat) : List (Addr × Value) := [(⟨C, 0, none⟩, .int .i64 0), (⟨C, 1, none⟩, .int .i64 0), (⟨C, 2, none⟩, .slice none 0 0), (⟨C, 3, none⟩, .slice none 0 0)]
theorem z4_own {s : Hp} {C : Nat} (h0 : Own s ⟨C, 0, none⟩ (.int .i64 0)) (h1 : Own s ⟨C, 1, none⟩ (.int .i64 0)) (h2 : Own s ⟨C, 2, none⟩ (.slice none 0 0)) (h3 : Own s ⟨C, 3, none⟩ (.slice none 0 0)) : ∀ p ∈ z4 C, Own s p.1 p.2 := by
  intro p hp
  unfold z4 at hp
  simp only [List.mem_cons, List.not_mem_nil, or_false] at hp
  rcases hp with rfl | rfl | rfl | rfl
  · exact h0
  · exact h1
  · exact h2
  · exact h3
def noD : Nat → Prop := fun _ => False
section
variable {s0 s s' : Hp} {B : Nat} {T : Tb} {sc : List Sc} {kp : List (Addr × Value)} {D D' : Nat → Prop} {xo : Option Addr × Nat}
theorem TbB.keep (h : TbB s0 s B T sc kp D xo) {p : Addr × Value} (hp : p ∈ kp) : Own s p.1 p.2 ∧ p.1.block ≠ B := by
  obtain ⟨y, c, _, _, _, h4, _⟩ := h.sc
  exact ⟨(h4 p hp).1, (h4 p hp).2.1⟩
/-- Others have gone on. -/
theorem TbB.step (k : Kp D s s') (hD : ∀ q, D' q → q < s'.size ∧ (D q ∨ s.size ≤ q)) (h : TbB s0 s B T sc kp D xo) : TbB s0 s' B T sc kp D' xo := by
  obtain ⟨y, c, h1, h2, h3, h4, h5⟩ := h.sc
  have nB : ¬ D B := fun hd => (h5 B hd).1 rfl
  have e : Ext s0 s' := ⟨Nat.le_trans h.ext.1 k.1, fun q hq => by rw [k.2 q (Nat.lt_of_lt_of_le hq h.ext.1) (fun hd => by have := (h5 q hd).2.2.2.1; omega)]; exact h.ext.2 q hq⟩
  refine ⟨e, h.blk, k.own nB h.men, k.own nB h.sheets, ?_, ⟨y, c, k.own nB h1, h2.kp k (fun a ha hd => (h5 _ hd).2.1 a ha rfl), fun a ha => ⟨(h3 a ha).1, Nat.lt_of_lt_of_le (h3 a ha).2 k.1⟩, fun p hp => ?_, fun q hq => ?_⟩⟩
  · exact ⟨k.own nB h.off.1, h.off.2⟩
  · obtain ⟨p1, p2, p3⟩ := h4 p hp
    exact ⟨k.own (fun hd => (h5 _ hd).2.2.2.2 p hp rfl) p1, p2, p3⟩
  · obtain ⟨q1, q2⟩ := hD q hq
    rcases q2 with q2 | q2
    · obtain ⟨a1, a2, a3, a4, a5⟩ := h5 q q2
      exact ⟨a1, a2, q1, a4, a5⟩
    · refine ⟨?_, fun a ha => ?_, q1, Nat.le_trans h.ext.1 q2, fun p hp => ?_⟩
      · have : B < s.size := h1.lt
        omega
      · have := (h3 a ha).2; omega
      · have := (h4 p hp).1.lt; omega
theorem TbB.after (e : Ext s s') (h : TbB s0 s B T sc kp D xo) : TbB s0 s' B T sc kp D xo := h.step e.kp fun q hq => by
  obtain ⟨y, c, _, _, _, _, h5⟩ := h.sc
  exact ⟨Nat.lt_of_lt_of_le (h5 q hq).2.2.1 e.1, .inl hq⟩
theorem TbB.row (h : TbB s0 s B T sc kp D xo) : RowAt s xo.1 (ints T.off) := by
  rcases h.off.2 with h1 | h1
  · exact h1.ext h.ext
  · intro i hi
    obtain ⟨a, ha, hm⟩ := h1 i hi
    exact ⟨a, ha, (h.keep hm).1.cell⟩
/-- It is there as a table. -/
theorem TbB.tbA (h : TbB s0 s B T sc kp D xo) : TbA s ⟨B, 0, none⟩ ⟨T.men, T.sheets, T.off, sc⟩ where
  men := h.men.cell
  sheets := h.sheets.cell
  off := ⟨xo.1, xo.2, h.off.1.cell, h.row⟩
  sc := by obtain ⟨y, c, h1, h2, _⟩ := h.sc; exact ⟨y, c, h1.cell, scAt_row h2.row⟩
theorem tbB_new {x y : Option Addr} {c c' l' : Nat} {K : Nat → Hp → Prop} (e : Ext s0 s) (hx : RowAt s0 x (ints T.off)) (hk : ∀ p ∈ kp, Own s p.1 p.2) (h : ∀ s' B, Ext s s' → TbB s0 s' B T [] kp noD (x, c) → K B s') :
    NEWZ Pg 25 (fun B => WR (Addr.add ⟨B, 0, none⟩ 0) (.int .i64 T.men) (WR (Addr.add ⟨B, 0, none⟩ 1) (.int .i64 T.sheets) (WR (Addr.add ⟨B, 0, none⟩ 2) (.slice x T.off.length c) (WR (Addr.add ⟨B, 0, none⟩ 3) (.slice y l' c') (WR (Addr.add (Addr.add ⟨B, 0, none⟩ 3) 0) (.slice none 0 0) (K B)))))) s := by
  refine nw4 zc_25 rfl rfl rfl rfl fun s1 e1 z1 o0 o1 o2 o3 => ?_
  refine WR_own (a := ⟨s.size, 3, none⟩) o3 rfl ?_
  have e2 : Ext s (setC s1 ⟨s.size, 3, none⟩ (.slice none 0 0)) := e1.setC (Nat.le_refl _)
  refine h _ s.size e2 ⟨e.trans e2, e.1, own_set_ne (.inr (by show (0 : Nat) ≠ 3; decide)) o0, own_set_ne (.inr (by show (1 : Nat) ≠ 3; decide)) o1, ⟨own_set_ne (.inr (by show (2 : Nat) ≠ 3; decide)) o2, .inl hx⟩, ⟨none, 0, own_set o3, Fr.nil _ _ _, (fun a ha => by cases ha), (fun p hp => ⟨e2.own (hk p hp), ?_, (fun a ha => by cases ha)⟩), fun q hq => hq.elim⟩⟩
  have := (hk p hp).lt; omega
theorem TbB.app {C l c : Nat} {x : Option Addr} {q : Sc} {K : Hp → Prop} (h : TbB s0 s B T sc kp D xo) (hc : cellAt s ⟨B, 3, none⟩ = some (.slice x l c))
    (d0 : cellAt s ⟨C, 0, none⟩ = some (.int .i64 q.man)) (d1 : cellAt s ⟨C, 1, none⟩ = some (.int .i64 q.sheet)) (d2 : cellAt s ⟨C, 2, none⟩ = some (.int .i64 q.lo)) (d3 : cellAt s ⟨C, 3, none⟩ = some (.int .i64 q.hi)) (hl : sc.length ≤ 1000)
    (hK : ∀ s', Kp (fun q => ¬ D q ∧ s0.size ≤ q) s s' → TbB s0 s' B T (sc ++ [q]) kp D xo → K s') :
    APP Pg 55 4 x l c (some ⟨C, 0, none⟩) 1 (fun x' l' c' => WR (Addr.add (Addr.add ⟨B, 0, none⟩ 3) 0) (.slice x' l' c') K) s := by
  obtain ⟨y, cy, h1, h2, h3, h4, h5⟩ := h.sc
  have hh := h1.cell
  rw [hc] at hh
  injection hh with hh
  injection hh with e1 e2 e3
  subst e1; subst e2; subst e3
  have hs := h.ext.1
  refine APP_fr (ws := scs [q]) h2 hs ?_ (by rw [scs_len]; rfl) zc_55 rfl (by omega) (scs_one _) (by omega) fun s' x' c' k g f => ?_
  · intro i hi
    rw [scs_len] at hi
    have hi4 : i < 4 := by simpa using hi
    refine ⟨_, rfl, ?_⟩
    rw [Nat.mul_one]
    match i, hi4 with
    | 0, _ => exact d0
    | 1, _ => exact d1
    | 2, _ => exact d2
    | 3, _ => exact d3
  · have hnB : ∀ q, (∃ a, x = some a ∧ a.block = q) → q ≠ B := fun q ⟨a, ha, hq⟩ => by rw [← hq]; exact (h3 a ha).1
    have o0 := k.own (fun hd => hnB _ hd rfl) h.men
    have o1 := k.own (fun hd => hnB _ hd rfl) h.sheets
    have o3 := k.own (fun hd => hnB _ hd rfl) h1
    have hBl := h1.lt
    have hpos : 0 < (scs (sc ++ [q])).length := by rw [scs_len, List.length_append, List.length_singleton]; omega
    have hx' : ∀ a, x' = some a → a.block ≠ B ∧ a.block < s'.size := fun a ha => by
      refine ⟨?_, ?_⟩
      · rcases g a ha with ⟨a', h5, h6⟩ | h5
        · rw [← h6]; exact (h3 a' h5).1
        · have : B < s.size := hBl
          omega
      · subst ha
        rw [← scs_app] at f
        exact (f.buf.at hpos).lt
    have hxs : ∀ q, (∃ a, x = some a ∧ a.block = q) → s0.size ≤ q := fun q ⟨a, ha, hq⟩ => by rw [← hq]; exact h2.fr a ha
    have e0 : Ext s0 s' := ⟨Nat.le_trans hs k.1, fun q hq => by
      rw [k.2 q (Nat.lt_of_lt_of_le hq hs) (fun hh => by have := hxs _ hh; omega)]; exact h.ext.2 q hq⟩
    have kk : Kp (fun q => ¬ D q ∧ s0.size ≤ q) s s' := k.mono fun q ⟨a, ha, hq⟩ => ⟨fun hd => (h5 q hd).2.1 a ha hq.symm, by rw [← hq]; exact h2.fr a ha⟩
    refine WR_own (a := ⟨B, 3, none⟩) o3 rfl (hK _ (Kp.setC kk (.inl ⟨fun hd => (h5 B hd).1 rfl, h.blk⟩)) ⟨e0.setC h.blk, h.blk, own_set_ne (.inr (by show (0 : Nat) ≠ 3; decide)) o0, own_set_ne (.inr (by show (1 : Nat) ≠ 3; decide)) o1, ?_, ⟨x', c', ?_, ?_, fun a ha => ?_, fun p hp => ?_, fun q hq => ?_⟩⟩)
    · exact ⟨own_set_ne (.inr (by show (2 : Nat) ≠ 3; decide)) (k.own (fun hd => hnB _ hd rfl) h.off.1), h.off.2⟩
    · rw [List.length_append]; exact own_set o3
    · rw [scs_app, List.length_append]
      exact f.kp (D := (· = B)) (Kp.setC (Kp.refl _) (.inl rfl)) (fun a ha => (hx' a ha).1)
    · exact ⟨(hx' a ha).1, by rw [setC_size]; exact (hx' a ha).2⟩
    · obtain ⟨p1, p2, p3⟩ := h4 p hp
      refine ⟨own_set_ne (.inl p2) (k.own (fun ⟨a, ha, hq⟩ => p3 a ha hq.symm) p1), p2, fun a ha => ?_⟩
      rcases g a ha with ⟨a', h5, h6⟩ | h5
      · rw [← h6]; exact p3 a' h5
      · have := p1.lt; omega
    · obtain ⟨a1, a2, a3, a4, a5⟩ := h5 q hq
      refine ⟨a1, fun a ha => ?_, by rw [setC_size]; exact Nat.lt_of_lt_of_le a3 k.1, a4, a5⟩
      rcases g a ha with ⟨a', h5, h6⟩ | h5
      · rw [← h6]; exact a2 a' h5
      · omega
/-- It is returned by way of the variable 'C'. -/
theorem TbB.ret {C : Nat} {R : Ending → Hp → Prop} (h : TbB s0 s B T sc kp D xo) (hC : s0.size ≤ C) (hk : kp = z4 C)
    (hR : ∀ s' y c', Ext s0 s' → ScAt s' y sc → (∀ a, y = some a → s0.size ≤ a.block ∧ a.block < s'.size) → R (.returned (.agg #[.int .i64 T.men, .int .i64 T.sheets, .slice xo.1 T.off.length xo.2, .slice y sc.length c'])) s') :
    (RDI .i64 (Addr.add ⟨B, 0, none⟩ 0) fun n17 => RDI .i64 (Addr.add ⟨B, 0, none⟩ 1) fun n18 => RDL (Addr.add ⟨B, 0, none⟩ 2) fun x19 l20 c21 => RDL (Addr.add ⟨B, 0, none⟩ 3) fun x22 l23 c24 =>
      WR (Addr.add ⟨C, 0, none⟩ 0) (.int .i64 n17) <| WR (Addr.add ⟨C, 0, none⟩ 1) (.int .i64 n18) <| WR (Addr.add ⟨C, 0, none⟩ 2) (.slice x19 l20 c21) <| WR (Addr.add ⟨C, 0, none⟩ 3) (.slice x22 l23 c24) <|
      RDI .i64 (Addr.add ⟨C, 0, none⟩ 0) fun n25 => RDI .i64 (Addr.add ⟨C, 0, none⟩ 1) fun n26 => RDL (Addr.add ⟨C, 0, none⟩ 2) fun x27 l28 c29 => RDL (Addr.add ⟨C, 0, none⟩ 3) fun x30 l31 c32 =>
      R (.returned (.agg #[(.int .i64 n25), (.int .i64 n26), (.slice x27 l28 c29), (.slice x30 l31 c32)]))) s := by
  obtain ⟨y, cy, h1, h2, h3, h4, _⟩ := h.sc
  obtain ⟨g1, g2⟩ := h.off
  subst hk
  have k0 := h4 (⟨C, 0, none⟩, .int .i64 0) (by simp [z4])
  have k1 := h4 (⟨C, 1, none⟩, .int .i64 0) (by simp [z4])
  have k2 := h4 (⟨C, 2, none⟩, .slice none 0 0) (by simp [z4])
  have k3 := h4 (⟨C, 3, none⟩, .slice none 0 0) (by simp [z4])
  refine ⟨_, h.men.cell, _, h.sheets.cell, _, _, _, g1.cell, _, _, _, h1.cell, ?_⟩
  refine wr4 rfl rfl rfl rfl (a := ⟨C, 0, none⟩) (fun j hj => ?_) fun s' k z o0 o1 o2 o3 => ?_
  · match j, hj with
    | 0, _ => exact ⟨_, k0.1⟩
    | 1, _ => exact ⟨_, k1.1⟩
    | 2, _ => exact ⟨_, k2.1⟩
    | 3, _ => exact ⟨_, k3.1⟩
  · refine ⟨_, o0.cell, _, o1.cell, _, _, _, o2.cell, _, _, _, o3.cell, ?_⟩
    have e := ext_kp h.ext hC k
    exact hR s' y cy e (scAt_row (h2.row.keep k fun a ha hd => k0.2.2 a ha hd.symm)) fun a ha => ⟨h2.fr a ha, Nat.lt_of_lt_of_le (h3 a ha).2 k.1⟩
/-- It is itself what is returned. -/
theorem TbB.ret_same {KK : Int → Int → Option Addr → Nat → Nat → Option Addr → Nat → Nat → Hp → Prop} (h : TbB s0 s B T sc kp D xo)
    (hR : ∀ s' y c', Kp (· = B) s s' → Ext s0 s' → ScAt s' y sc → KK T.men T.sheets xo.1 T.off.length xo.2 y sc.length c' s') :
    (RDI .i64 (Addr.add ⟨B, 0, none⟩ 0) fun n17 => RDI .i64 (Addr.add ⟨B, 0, none⟩ 1) fun n18 => RDL (Addr.add ⟨B, 0, none⟩ 2) fun x19 l20 c21 => RDL (Addr.add ⟨B, 0, none⟩ 3) fun x22 l23 c24 =>
      WR (Addr.add ⟨B, 0, none⟩ 0) (.int .i64 n17) <| WR (Addr.add ⟨B, 0, none⟩ 1) (.int .i64 n18) <| WR (Addr.add ⟨B, 0, none⟩ 2) (.slice x19 l20 c21) <| WR (Addr.add ⟨B, 0, none⟩ 3) (.slice x22 l23 c24) <|
      RDI .i64 (Addr.add ⟨B, 0, none⟩ 0) fun n25 => RDI .i64 (Addr.add ⟨B, 0, none⟩ 1) fun n26 => RDL (Addr.add ⟨B, 0, none⟩ 2) fun x27 l28 c29 => RDL (Addr.add ⟨B, 0, none⟩ 3) fun x30 l31 c32 =>
      KK n25 n26 x27 l28 c29 x30 l31 c32) s := by
  obtain ⟨y, cy, h1, h2, h3, h4, _⟩ := h.sc
  obtain ⟨g1, g2⟩ := h.off
  refine ⟨_, h.men.cell, _, h.sheets.cell, _, _, _, g1.cell, _, _, _, h1.cell, ?_⟩
  refine wr4 rfl rfl rfl rfl (a := ⟨B, 0, none⟩) (fun j hj => ?_) fun s' k z o0 o1 o2 o3 => ?_
  · match j, hj with
    | 0, _ => exact ⟨_, h.men⟩
    | 1, _ => exact ⟨_, h.sheets⟩
    | 2, _ => exact ⟨_, g1⟩
    | 3, _ => exact ⟨_, h1⟩
  · refine ⟨_, o0.cell, _, o1.cell, _, _, _, o2.cell, _, _, _, o3.cell, ?_⟩
    have e := ext_kp h.ext h.blk k
    exact hR s' y cy k e (scAt_row (h2.row.keep k fun a ha => (h3 a ha).1))
end
end Go.Proofs.Ytkgcbfbbcaajpaa.G

/- Rank: a table with one more score read. -/
set_option linter.unusedSimpArgs false
set_option linter.unusedVariables false
set_option maxRecDepth 20000
namespace Go.Proofs.Ytkgcbfbbcaajpaa.G
open Go.V
def isNot (a k : Int) (c : Sc) : Bool := decide (c.man ≠ a) || decide (c.sheet ≠ k)
section
variable {W : World} {K : VK} {E : List PanicEntry → Hp → Prop} {s : Hp} {T : Tb}
theorem f_With {x y : Option Addr} {c c' : Nat} {a k n : Int} (hl30 : T.sc.length ≤ 900) (hx : RowAt s x (ints T.off)) (hy : ScAt s y T.sc)
    (h : ∀ s' y c', Ext s s' → ScAt s' y (withT T a k n).sc → (∀ a, y = some a → s.size ≤ a.block ∧ a.block < s'.size) → K (.agg #[.int .i64 T.men, .int .i64 T.sheets, .slice x T.off.length c, .slice y (withT T a k n).sc.length c']) s') :
    CALL Pg W F_ref10_With [.agg #[.int .i64 T.men, .int .i64 T.sheets, .slice x T.off.length c, .slice y T.sc.length c'], .int .i64 a, .int .i64 k, .int .i64 n] K E s := by
  refine does_ref10_With W T.men T.sheets x T.off.length c y T.sc.length c' a k n _ s ?_
  unfold T_ref10_With
  refine NEW_rule fun s1 e1 z1 n1 _ => ?_
  have ta := tbA_new e1 hx hy n1
  refine nz4 zc_25 fun s2 e2 z2 r0 r1 r2 r3 => ?_
  have g1 := (n1 0 _ rfl).cell
  have g2 := (n1 1 _ rfl).cell
  have g3 := (n1 2 _ rfl).cell
  have g4 := (n1 3 _ rfl).cell
  have hx1 := hx.ext e1
  have hy1 := hy.ext e1
  refine ⟨_, e2.cell g1, _, e2.cell g2, _, _, _, e2.cell g3, _, _, _, e2.cell g4, ?_⟩
  refine tbB_new (s0 := s1) (kp := z4 s1.size) e2 hx1 (z4_own r0 r1 r2 r3) fun s3 B e3 tb => ?_
  refine L_ref10_With_0_rule W _ a k n ⟨s.size, 0, none⟩ ⟨s1.size, 0, none⟩ ⟨B, 0, none⟩ (fun q u => ∃ i : Nat, i ≤ T.sc.length ∧ q = i ∧ TbB s1 u B T ((T.sc.take i).filter (isNot a k)) (z4 s1.size) noD (x, c)) (fun q _ => (T.sc.length - q).toNat) 0 s3 ⟨0, by omega, rfl, tb⟩ ?_
  rintro q u ⟨i, hi, rfl, tbu⟩
  have g4u := tbu.ext.cell g4
  have hyu := hy1.ext tbu.ext
  have hfl : ((T.sc.take i).filter (isNot a k)).length ≤ 900 := Nat.le_trans (List.length_filter_le _ _) (by rw [List.length_take]; omega)
  unfold B_ref10_With_0
  refine ⟨_, _, _, g4u, ?_⟩
  refine BR_dec (fun h1 => ?_) (fun h1 => ?_)
  · have hil : i < T.sc.length := by omega
    obtain ⟨ad, had, d0, d1, d2, d3⟩ := hyu i hil
    subst had
    have htake : (T.sc.take (i + 1)).filter (isNot a k) = (T.sc.take i).filter (isNot a k) ++ if isNot a k T.sc[i] then [T.sc[i]] else [] := by
      rw [List.take_add_one, List.getElem?_eq_getElem hil, List.filter_append]
      congr 1
      show List.filter (isNot a k) [T.sc[i]] = _
      cases hh : isNot a k T.sc[i] <;> simp [hh]
    have j1 : ∀ b, b = isNot a k T.sc[i] → J_ref10_With_1 W (endK K E) b ⟨B, 0, none⟩ ⟨s.size, 0, none⟩ i a k n ⟨s1.size, 0, none⟩ (fun vs => N_ref10_With_0 (fun q u => ∃ i : Nat, i ≤ T.sc.length ∧ q = i ∧ TbB s1 u B T ((T.sc.take i).filter (isNot a k)) (z4 s1.size) noD (x, c)) (fun q _ => (T.sc.length - q).toNat) i u vs) u := by
      rintro b rfl
      unfold J_ref10_With_1
      refine BR_bool (fun hb => ?_) (fun hb => ?_)
      · obtain ⟨yy, cy, q1, _⟩ := tbu.sc
        refine ⟨_, _, _, q1.cell, _, _, _, g4u, IXS_nat hil ⟨_, d0, _, d1, _, d2, _, d3, ?_⟩⟩
        refine ne4 fun v f z p0 p1 p2 p3 => ?_
        have q2 := f.cell q1.cell
        refine ⟨⟨_, _, _, q2, rfl⟩, ?_⟩
        refine (tbu.after f).app (q := T.sc[i]) q2 p0.cell p1.cell p2.cell p3.cell (by omega) fun v2 _ tb2 => ?_
        unfold J_ref10_With_0
        refine ⟨rfl, _, rfl, ⟨i + 1, by omega, wrap_succ (by omega), ?_⟩, ms_succ hil (by omega)⟩
        rw [htake, hb]; exact tb2
      · unfold J_ref10_With_0
        refine ⟨rfl, _, rfl, ⟨i + 1, by omega, wrap_succ (by omega), ?_⟩, ms_succ hil (by omega)⟩
        rw [htake, hb]; simp only [Bool.false_eq_true, if_false, List.append_nil]; exact tbu
    refine ⟨_, _, _, g4u, IXS_nat hil ⟨_, d0, ?_⟩⟩
    refine BR_ne (fun hne => ?_) (fun he => ?_)
    · refine j1 true ?_
      unfold isNot; rw [decide_eq_true hne]; rfl
    · refine ⟨_, _, _, g4u, IXS_nat hil ⟨_, d1, ?_⟩⟩
      refine j1 _ ?_
      unfold isNot
      rw [decide_eq_false (fun hn => hn he), Bool.false_or, Bool.eq_iff_iff]; simp
  · have hil : i = T.sc.length := by omega
    subst hil
    rw [List.take_length] at tbu hfl
    obtain ⟨yy, cy, q1, _⟩ := tbu.sc
    refine ⟨_, _, _, q1.cell, ?_⟩
    refine ne4 fun v f z p0 p1 p2 p3 => ?_
    have q2 := f.cell q1.cell
    refine (tbu.after f).app (q := ⟨a, k, n, n⟩) q2 p0.cell p1.cell p2.cell p3.cell (by omega) fun v2 _ tb2 => ?_
    exact tb2.ret (Nat.le_refl _) rfl fun s' y c' e hy hf => h s' y c' (e1.trans e) hy fun a ha => ⟨Nat.le_trans e1.1 (hf a ha).1, (hf a ha).2⟩
/-- A table as good as read. -/
theorem f_WithN {x y : Option Addr} {c c' : Nat} {a k : Nat} {n : Int} (hok : okT T = true) (ha : a < T.n) (hk : k < T.m) (h0 : 0 ≤ n) (h1 : n ≤ 40) (hx : RowAt s x (ints T.off)) (hy : ScAt s y T.sc)
    (h : ∀ s' y c', Ext s s' → okT (withT T a k n) = true → RowAt s' x (ints (withT T a k n).off) → ScAt s' y (withT T a k n).sc → (∀ a, y = some a → s.size ≤ a.block ∧ a.block < s'.size) → K (.agg #[.int .i64 (withT T a k n).men, .int .i64 (withT T a k n).sheets, .slice x (withT T a k n).off.length c, .slice y (withT T a k n).sc.length c']) s') :
    CALL Pg W F_ref10_With [.agg #[.int .i64 T.men, .int .i64 T.sheets, .slice x T.off.length c, .slice y T.sc.length c'], .int .i64 a, .int .i64 k, .int .i64 n] K E s := by
  obtain ⟨_, _, _, _, h30, _⟩ := okT_iff.1 hok
  have hm := sheets_m hok
  exact f_With (by omega) hx hy fun s' y c' e hy hf => h s' y c' e (withT_ok hok (isM_nat hok ha) (by unfold isS; omega) h0 h1) (hx.ext e) hy hf
end
end Go.Proofs.Ytkgcbfbbcaajpaa.G

/- Rank: both ends of what is told: tables that are as good, or as bad, for one as can be. -/
set_option linter.unusedSimpArgs false
set_option linter.unusedVariables false
set_option maxRecDepth 20000
namespace Go.Proofs.Ytkgcbfbbcaajpaa.G
open Go.V
def loP (T : Tb) (i k : Nat) : Int := (pts (prs T) ((i : Int), (k : Int))).1
def hiP (T : Tb) (i k : Nat) : Int := (pts (prs T) ((i : Int), (k : Int))).2
theorem lowR_loP (T : Tb) (i : Nat) : lowR T i = rowG (loP T i) T.m (offT T i) := rfl
theorem topR_hiP (T : Tb) (i : Nat) : topR T i = rowG (hiP T i) T.m (offT T i) := rfl
theorem lo_hi {T : Tb} (hok : okT T = true) (i k : Nat) : 0 ≤ loP T i k ∧ loP T i k ≤ hiP T i k ∧ hiP T i k ≤ 40 := pts_in (okT_vd hok) _
def bestV (T : Tb) (a : Nat) (high : Bool) (i k : Nat) : Int := if decide (i = a) == high then hiP T i k else loP T i k
def bestT (T : Tb) (a : Nat) (high : Bool) : Tb := fillT T (bestV T a high)
theorem fill_n (T : Tb) (v : Nat → Nat → Int) : (fillT T v).n = T.n := rfl
theorem fill_m (T : Tb) (v : Nat → Nat → Int) : (fillT T v).m = T.m := rfl
theorem fill_off (T : Tb) (v : Nat → Nat → Int) (i : Nat) : offT (fillT T v) i = offT T i := rfl
theorem fill_low {T : Tb} {v : Nat → Nat → Int} {i : Nat} (hi : i < T.n) : lowR (fillT T v) i = rowG (v i) T.m (offT T i) := by
  rw [lowR_loP]
  refine rowG_congr fun k hk => ?_
  unfold loP
  rw [fillT_pts hi hk]
theorem fill_top {T : Tb} {v : Nat → Nat → Int} {i : Nat} (hi : i < T.n) : topR (fillT T v) i = rowG (v i) T.m (offT T i) := by
  rw [topR_hiP]
  refine rowG_congr fun k hk => ?_
  unfold hiP
  rw [fillT_pts hi hk]
theorem best_ok {T : Tb} (hok : okT T = true) (a : Nat) (high : Bool) : okT (bestT T a high) = true := fillT_ok hok fun i k _ _ => by
  have := lo_hi hok i k
  unfold bestV
  split <;> omega
theorem best_t (T : Tb) (a : Nat) : rowG (bestV T a true a) T.m (offT T a) = topR T a := by
  rw [topR_hiP]; refine rowG_congr fun k _ => ?_; unfold bestV; simp
theorem best_f (T : Tb) (a : Nat) : rowG (bestV T a false a) T.m (offT T a) = lowR T a := by
  rw [lowR_loP]; refine rowG_congr fun k _ => ?_; unfold bestV; simp
theorem best_t' (T : Tb) {a i : Nat} (h : i ≠ a) : rowG (bestV T a true i) T.m (offT T i) = lowR T i := by
  rw [lowR_loP]; refine rowG_congr fun k _ => ?_; unfold bestV; simp [h]
theorem best_f' (T : Tb) {a i : Nat} (h : i ≠ a) : rowG (bestV T a false i) T.m (offT T i) = topR T i := by
  rw [topR_hiP]; refine rowG_congr fun k _ => ?_; unfold bestV; simp [h]
theorem best_sum {T : Tb} {a : Nat} (ha : a < T.n) : sumT T a = ((sumT (bestT T a false) a).1, (sumT (bestT T a true) a).2) := by
  have e1 : lowR (bestT T a false) a = lowR T a := (fill_low ha).trans (best_f T a)
  have e2 : topR (bestT T a true) a = topR T a := (fill_top ha).trans (best_t T a)
  unfold sumT
  rw [e1, e2]
theorem best_plc {T : Tb} {a : Nat} (ha : a < T.n) : plcT T a = ((plcT (bestT T a true) a).1, (plcT (bestT T a false) a).2) := by
  rw [plcT_eq, plcT_eq, plcT_eq]
  have e1 : cntB (fun o => surT T o a) T.n = cntB (fun o => surT (bestT T a true) o a) (bestT T a true).n := cntB_ext fun o ho => by
    show surT T o a = surT (bestT T a true) o a
    rw [surT_eq, surT_eq]
    by_cases e : o = a
    · subst e; simp
    · unfold bestT
      rw [fill_low ho, fill_top ha, best_t' T e, best_t]
  have e2 : cntB (fun o => canT T o a) T.n = cntB (fun o => canT (bestT T a false) o a) (bestT T a false).n := cntB_ext fun o ho => by
    show canT T o a = canT (bestT T a false) o a
    rw [canT_eq, canT_eq]
    by_cases e : o = a
    · subst e; simp
    · unfold bestT
      rw [fill_top ho, fill_low ha, best_f' T e, best_f]
  rw [e1, e2]
theorem plc_lim {T : Tb} (hok : okT T = true) {a : Nat} (ha : a < T.n) : 1 ≤ (plcT T a).1 ∧ (plcT T a).1 ≤ (plcT T a).2 ∧ (plcT T a).2 ≤ T.n := by
  refine ⟨by rw [plcT_eq]; show (1 : Int) ≤ 1 + _; omega, plc_le hok a, ?_⟩
  have := cntB_lt (f := fun o => canT T o a) (g := fun _ => true) (canT_self T a) rfl T.n ha fun _ _ _ => rfl
  have h2 := cntB_le (fun _ => true) T.n
  rw [plcT_eq]
  show (1 : Int) + _ ≤ _
  omega
theorem eqP_iff {T : Tb} {a b : Nat} : eqP T a b = true ↔ (∀ k, k < T.m → loP T a k ≤ hiP T b k ∧ loP T b k ≤ hiP T a k) ∧ offT T a = offT T b := by
  unfold eqP
  rw [Bool.and_eq_true, decide_eq_true_eq, List.all_eq_true]
  constructor
  · rintro ⟨h1, h2⟩
    refine ⟨fun k hk => ?_, h2⟩
    have := h1 k (List.mem_range.2 hk)
    unfold ovl at this
    simp only [Bool.not_eq_true', Bool.or_eq_false_iff, decide_eq_false_iff_not] at this
    unfold loP hiP
    omega
  · rintro ⟨h1, h2⟩
    refine ⟨fun k hk => ?_, h2⟩
    have := h1 k (List.mem_range.1 hk)
    unfold loP hiP at this
    unfold ovl
    simp only [Bool.not_eq_true', Bool.or_eq_false_iff, decide_eq_false_iff_not]
    omega
theorem eqP_comm (T : Tb) (a b : Nat) : eqP T a b = eqP T b a := by
  have : ∀ a b, eqP T a b = true → eqP T b a = true := fun a b h => by
    obtain ⟨h1, h2⟩ := eqP_iff.1 h
    exact eqP_iff.2 ⟨fun k hk => ⟨(h1 k hk).2, (h1 k hk).1⟩, h2.symm⟩
  cases h : eqP T a b with
  | true => exact (this a b h).symm
  | false => cases h2 : eqP T b a with
    | false => rfl
    | true => rw [this b a h2] at h; cases h
theorem eqP_self {T : Tb} (hok : okT T = true) (a : Nat) : eqP T a a = true := eqP_iff.2 ⟨fun k _ => ⟨(lo_hi hok a k).2.1, (lo_hi hok a k).2.1⟩, rfl⟩
theorem sur_eq {T : Tb} (hok : okT T = true) (a b : Nat) : surT T a b = (!canT T b a && !eqP T a b) := by
  by_cases e : a = b
  · subst e; rw [surT_self, eqP_self hok]; simp
  · cases hs : surT T a b with
    | true =>
      rw [sur_not hs]
      cases he : eqP T a b with
      | false => rfl
      | true =>
        obtain ⟨h1, h2⟩ := eqP_iff.1 he
        have h3 := (surT_iff.1 hs).2
        rw [lowR_loP, topR_hiP, rowG_le (fun k hk => (h1 k hk).1) (by omega)] at h3
        cases h3
    | false =>
      rw [surT_eq, decide_eq_true e, Bool.true_and] at hs
      cases hc : canT T b a with
      | true => simp
      | false =>
        rw [canT_eq, decide_eq_true (show b ≠ a from fun h => e h.symm), Bool.true_and] at hc
        have h := ahead_tri _ _ (by rw [lowR_len, topR_len]) hs hc
        rw [lowR_loP, topR_hiP] at h
        obtain ⟨h1, h2⟩ := rowG_inj h
        have : eqP T a b = true := eqP_iff.2 ⟨fun k hk => ⟨by rw [h2 k hk]; omega, by
          have := lo_hi hok b k; have := lo_hi hok a k; have := h2 k hk; omega⟩, h1⟩
        rw [this]; simp
end Go.Proofs.Ytkgcbfbbcaajpaa.G

/- Rank: how many points are enough. -/
set_option linter.unusedSimpArgs false
set_option linter.unusedVariables false
set_option maxRecDepth 20000
namespace Go.Proofs.Ytkgcbfbbcaajpaa.G
open Go.V
theorem findA_put_ne {k x : Int × Int} (hx : x ≠ k) {v : Int × Int} : ∀ (l : List Pr), (findA x (l ++ [(k, v)]) 0).map (·.2) = (findA x l 0).map (·.2) := by
  intro l
  rw [findA_find, findA_find, List.find?_append]
  have : ([(k, v)] : List Pr).find? (fun y => decide (y.1 = x)) = none := by simp; exact fun h => hx h.symm
  rw [this]; simp
theorem find_set_ne {k x : Int × Int} (hx : x ≠ k) {v : Int × Int} : ∀ (l : List Pr) (i : Nat) (h : i < l.length), l[i].1 = k → (l.set i (k, v)).find? (fun y => decide (y.1 = x)) = l.find? (fun y => decide (y.1 = x))
  | [], i, h, _ => by simp at h
  | y :: l, 0, h, e => by
    have e' : y.1 = k := e
    rw [List.set_cons_zero, List.find?_cons, List.find?_cons, show decide (((k, v) : Pr).1 = x) = false from decide_eq_false fun hh => hx hh.symm, show decide (y.1 = x) = false from decide_eq_false fun hh => hx (hh.symm.trans e')]
  | y :: l, i + 1, h, e => by
    rw [List.set_cons_succ, List.find?_cons, List.find?_cons, find_set_ne hx l i (by simpa using h) (by simpa using e)]
theorem pts_put {l : List Pr} {k v : Int × Int} (x : Int × Int) : pts (put l k v) x = if x = k then v else pts l x := by
  by_cases e : x = k
  · subst e
    rw [if_pos rfl]
    obtain ⟨i, h, _⟩ := findA_put (l := l) (k := x) (v := v)
    unfold pts; rw [h]
  · rw [if_neg e]
    unfold put
    cases h : findA k l 0 with
    | none =>
      show pts (l ++ [(k, v)]) x = pts l x
      rw [pts_find, pts_find, ← findA_find _ 0, ← findA_find _ 0, findA_put_ne e]
    | some p =>
      obtain ⟨j, w⟩ := p
      obtain ⟨i, hi, hj, hx⟩ := findA_some l 0 j w h
      show pts (l.set j (k, v)) x = pts l x
      have : j = i := by omega
      subst this
      rw [pts_find, pts_find, find_set_ne e l j hi (by rw [hx])]
theorem with_put {T : Tb} (hok : okT T = true) {a k n : Int} : pts (put (prs T) (a, k) (n, n)) = pts (prs (withT T a k n)) := by
  funext x
  rw [pts_put, withT_pts hok]
theorem enough_eq {T : Tb} (hok : okT T = true) (i k : Nat) (pl q : Int) : enough T i k pl q = decide ((plcT (withT T i k q) i).2 ≤ pl) := by
  unfold enough
  rw [with_put hok]; rfl
theorem with_lo {T : Tb} (hok : okT T = true) {a k : Nat} {n : Int} (o j : Nat) : loP (withT T a k n) o j = (if o = a ∧ j = k then n else loP T o j) ∧ hiP (withT T a k n) o j = (if o = a ∧ j = k then n else hiP T o j) := by
  unfold loP hiP
  rw [withT_pts hok]
  by_cases e : o = a ∧ j = k
  · obtain ⟨rfl, rfl⟩ := e
    rw [if_pos rfl, if_pos ⟨rfl, rfl⟩, if_pos ⟨rfl, rfl⟩]; exact ⟨rfl, rfl⟩
  · rw [if_neg e, if_neg e, if_neg fun h => e (by injection h with h1 h2; omega)]; exact ⟨rfl, rfl⟩
theorem with_top {T : Tb} (hok : okT T = true) {a k : Nat} {n : Int} {o : Nat} (ho : o ≠ a) : topR (withT T a k n) o = topR T o ∧ lowR (withT T a k n) o = lowR T o := by
  rw [topR_hiP, topR_hiP, lowR_loP, lowR_loP]
  exact ⟨rowG_congr fun j _ => by rw [(with_lo hok o j).2, if_neg fun h => ho h.1], rowG_congr fun j _ => by rw [(with_lo hok o j).1, if_neg fun h => ho h.1]⟩
/-- More points are enough, too. -/
theorem enough_more {T : Tb} (hok : okT T = true) {a k : Nat} {p q : Int} (hpq : p ≤ q) : (plcT (withT T a k q) a).2 ≤ (plcT (withT T a k p) a).2 := by
  rw [plcT_eq, plcT_eq]
  have := cntB_mono (f := fun o => canT (withT T a k q) o a) (g := fun o => canT (withT T a k p) o a) T.n fun o _ ho => by
    obtain ⟨h1, h2⟩ := canT_iff.1 ho
    refine canT_iff.2 ⟨h1, ?_⟩
    rw [(with_top hok h1).1] at h2 ⊢
    refine gt_le (by rw [lowR_len, lowR_len]; rfl) h2 ?_
    rw [lowR_loP, lowR_loP]
    refine rowG_le (fun j _ => ?_) (Int.le_refl _)
    rw [(with_lo hok a j).1, (with_lo hok a j).1]
    split <;> omega
  show (1 : Int) + _ ≤ 1 + _
  have e : (withT T a k q).n = T.n := rfl
  have e' : (withT T a k p).n = T.n := rfl
  rw [e, e']
  omega
theorem needG_some {f : Int → Bool} : ∀ (c : Nat) (q r : Int), needG f c q = some r → q ≤ r ∧ r < q + c ∧ f r = true ∧ ∀ j, q ≤ j → j < r → f j = false
  | 0, q, r, h => by cases h
  | c + 1, q, r, h => by
    unfold needG at h
    by_cases hf : f q = true
    · rw [if_pos hf] at h
      injection h with h
      subst h
      exact ⟨by omega, by omega, hf, fun j h1 h2 => by omega⟩
    · rw [if_neg hf] at h
      obtain ⟨h1, h2, h3, h4⟩ := needG_some c (q + 1) r h
      refine ⟨by omega, by omega, h3, fun j g1 g2 => ?_⟩
      by_cases e : j = q
      · subst e; simpa using hf
      · exact h4 j (by omega) g2
theorem needG_none {f : Int → Bool} : ∀ (c : Nat) (q : Int), needG f c q = none → ∀ j, q ≤ j → j < q + c → f j = false
  | 0, q, h, j, h1, h2 => by omega
  | c + 1, q, h, j, h1, h2 => by
    unfold needG at h
    by_cases hf : f q = true
    · rw [if_pos hf] at h; cases h
    · rw [if_neg hf] at h
      by_cases e : j = q
      · subst e; simpa using hf
      · exact needG_none c (q + 1) h j (by omega) (by omega)
end Go.Proofs.Ytkgcbfbbcaajpaa.G

/- Rank: a table with some scores of two ploughmen read. -/
set_option linter.unusedSimpArgs false
set_option linter.unusedVariables false
set_option maxRecDepth 20000
namespace Go.Proofs.Ytkgcbfbbcaajpaa.G
open Go.V
theorem has_i : ∀ w : Nat, w < 1024 → ∀ k : Nat, k < 10 → (andv .i64 (shrv .i64 (w : Int) (k : Int)) 1 == 1) = w.testBit k := by
  have h : ((List.range 1024).all fun (l : Nat) => (List.range 10).all fun (m : Nat) => decide ((andv .i64 (shrv .i64 (l : Int) (m : Int)) 1 == 1) = l.testBit m)) = true := by decide +kernel
  intro w hl m hm
  have h1 := List.all_eq_true.1 h w (by simpa using hl)
  have h2 := List.all_eq_true.1 h1 m (by simpa using hm)
  exact of_decide_eq_true h2
def put1 (X : Tb) (a k : Nat) (f : Option Int) : Tb := match f with | some n => withT X a k n | none => X
/-- Scores of 'a' by 'f', and of 'b' by 'g', one after the other. -/
def readG (T : Tb) (a b : Nat) (f g : Nat → Option Int) : Nat → Tb
  | 0 => T
  | j + 1 => put1 (put1 (readG T a b f g j) a j (f j)) b j (g j)
theorem put1_same (X : Tb) (a k : Nat) (f : Option Int) : (put1 X a k f).men = X.men ∧ (put1 X a k f).sheets = X.sheets ∧ (put1 X a k f).off = X.off := by cases f <;> exact ⟨rfl, rfl, rfl⟩
theorem readG_same (T : Tb) (a b : Nat) (f g : Nat → Option Int) : ∀ j, (readG T a b f g j).men = T.men ∧ (readG T a b f g j).sheets = T.sheets ∧ (readG T a b f g j).off = T.off
  | 0 => ⟨rfl, rfl, rfl⟩
  | j + 1 => by
    obtain ⟨h1, h2, h3⟩ := readG_same T a b f g j
    unfold readG
    obtain ⟨g1, g2, g3⟩ := put1_same (put1 (readG T a b f g j) a j (f j)) b j (g j)
    obtain ⟨k1, k2, k3⟩ := put1_same (readG T a b f g j) a j (f j)
    exact ⟨by rw [g1, k1, h1], by rw [g2, k2, h2], by rw [g3, k3, h3]⟩
theorem same_n {X T : Tb} (h : X.men = T.men) : X.n = T.n := by unfold Tb.n; rw [h]
theorem same_m {X T : Tb} (h : X.sheets = T.sheets) : X.m = T.m := by unfold Tb.m; rw [h]
theorem same_off {X T : Tb} (h : X.off = T.off) (i : Nat) : offT X i = offT T i := by unfold offT; rw [h]
theorem put1_ok {X : Tb} (hok : okT X = true) {a k : Nat} (ha : a < X.n) (hk : k < X.m) {f : Option Int} (hf : ∀ n, f = some n → 0 ≤ n ∧ n ≤ 40) : okT (put1 X a k f) = true := by
  cases f with
  | none => exact hok
  | some n =>
    have hm := sheets_m hok
    have hs : isS X (k : Int) := ⟨by omega, by omega⟩
    exact withT_ok hok (isM_nat hok ha) hs (hf n rfl).1 (hf n rfl).2
theorem put1_lo {X : Tb} (hok : okT X = true) (a k : Nat) (f : Option Int) (o j : Nat) : loP (put1 X a k f) o j = (if o = a ∧ j = k then f.getD (loP X o j) else loP X o j) ∧ hiP (put1 X a k f) o j = (if o = a ∧ j = k then f.getD (hiP X o j) else hiP X o j) := by
  cases f with
  | none => simp [put1]
  | some n => exact with_lo hok o j
section
variable {T : Tb} {a b : Nat} {f g : Nat → Option Int} (hok : okT T = true) (ha : a < T.n) (hb : b < T.n) (hf : ∀ j n, j < T.m → f j = some n → 0 ≤ n ∧ n ≤ 40) (hg : ∀ j n, j < T.m → g j = some n → 0 ≤ n ∧ n ≤ 40)
include hok ha hb hf hg
theorem readG_ok : ∀ j, j ≤ T.m → okT (readG T a b f g j) = true
  | 0, _ => hok
  | j + 1, h => by
    have ih := readG_ok j (by omega)
    obtain ⟨h1, h2, h3⟩ := readG_same T a b f g j
    obtain ⟨k1, k2, k3⟩ := put1_same (readG T a b f g j) a j (f j)
    have i1 := put1_ok ih (a := a) (k := j) (by rw [same_n h1]; exact ha) (by rw [same_m h2]; omega) (f := f j) fun n hn => hf j n (by omega) hn
    exact put1_ok i1 (a := b) (k := j) (by rw [same_n (k1.trans h1)]; exact hb) (by rw [same_m (k2.trans h2)]; omega) fun n hn => hg j n (by omega) hn
theorem readG_lo (hab : a ≠ b) : ∀ j, j ≤ T.m → ∀ o k, loP (readG T a b f g j) o k = (if o = a ∧ k < j then (f k).getD (loP T o k) else if o = b ∧ k < j then (g k).getD (loP T o k) else loP T o k) ∧ hiP (readG T a b f g j) o k = (if o = a ∧ k < j then (f k).getD (hiP T o k) else if o = b ∧ k < j then (g k).getD (hiP T o k) else hiP T o k)
  | 0, _, o, k => by simp [readG]
  | j + 1, h, o, k => by
    have ih := readG_lo hab j (by omega)
    have o0 := readG_ok hok ha hb hf hg j (by omega)
    obtain ⟨h1, h2, h3⟩ := readG_same T a b f g j
    have i1 := put1_ok o0 (a := a) (k := j) (by rw [same_n h1]; exact ha) (by rw [same_m h2]; omega) (f := f j) fun n hn => hf j n (by omega) hn
    obtain ⟨p1, p2⟩ := put1_lo i1 b j (g j) o k
    obtain ⟨q1, q2⟩ := put1_lo o0 a j (f j) o k
    obtain ⟨r1, r2⟩ := ih o k
    unfold readG
    rw [p1, p2, q1, q2, r1, r2]
    by_cases e1 : o = a
    · subst e1
      have hb' : ¬ o = b := hab
      by_cases e2 : k = j
      · subst e2; simp [hb']
      · by_cases e3 : k < j
        · simp [hb', e2, e3, show k < j + 1 by omega]
        · simp [hb', e2, e3, show ¬ k < j + 1 by omega]
    · by_cases e4 : o = b
      · subst e4
        by_cases e2 : k = j
        · subst e2; simp [e1]
        · by_cases e3 : k < j
          · simp [e1, e2, e3, show k < j + 1 by omega]
          · simp [e1, e2, e3, show ¬ k < j + 1 by omega]
      · simp [e1, e4]
end
/-! ### A table in a variable -/
structure TbV (s1 s : Hp) (B : Nat) (X : Tb) (xo : Option Addr × Nat) : Prop where
  ext : Ext s1 s
  blk : s1.size ≤ B
  men : Own s ⟨B, 0, none⟩ (.int .i64 X.men)
  sheets : Own s ⟨B, 1, none⟩ (.int .i64 X.sheets)
  off : Own s ⟨B, 2, none⟩ (.slice xo.1 X.off.length xo.2) ∧ RowAt s1 xo.1 (ints X.off)
  sc : ∃ y c, Own s ⟨B, 3, none⟩ (.slice y X.sc.length c) ∧ ScAt s y X.sc
theorem TbV.after {s1 s s' : Hp} {B : Nat} {X : Tb} {xo : Option Addr × Nat} (e : Ext s s') (h : TbV s1 s B X xo) : TbV s1 s' B X xo :=
  ⟨h.ext.trans e, h.blk, e.own h.men, e.own h.sheets, ⟨e.own h.off.1, h.off.2⟩, by obtain ⟨y, c, h1, h2⟩ := h.sc; exact ⟨y, c, e.own h1, h2.ext e⟩⟩
theorem TbV.tbA {s1 s : Hp} {B : Nat} {X : Tb} {xo : Option Addr × Nat} (h : TbV s1 s B X xo) : TbA s ⟨B, 0, none⟩ X :=
  ⟨h.men.cell, h.sheets.cell, ⟨xo.1, xo.2, h.off.1.cell, h.off.2.ext h.ext⟩, by obtain ⟨y, c, h1, h2⟩ := h.sc; exact ⟨y, c, h1.cell, h2⟩⟩
theorem TbV.put {s1 s : Hp} {B c : Nat} {X X' : Tb} {xo : Option Addr × Nat} {y : Option Addr} {K : Hp → Prop} (h : TbV s1 s B X xo) (hox : RowAt s1 xo.1 (ints X'.off)) (hy : ScAt s y X'.sc) (hf : ∀ a, y = some a → a.block ≠ B) (hK : ∀ s', Kp (· = B) s s' → TbV s1 s' B X' xo → K s') :
    (WR (Addr.add ⟨B, 0, none⟩ 0) (.int .i64 X'.men) <| WR (Addr.add ⟨B, 0, none⟩ 1) (.int .i64 X'.sheets) <| WR (Addr.add ⟨B, 0, none⟩ 2) (.slice xo.1 X'.off.length xo.2) <| WR (Addr.add ⟨B, 0, none⟩ 3) (.slice y X'.sc.length c) K) s := by
  obtain ⟨y0, c0, h1, _⟩ := h.sc
  refine wr4 rfl rfl rfl rfl (a := ⟨B, 0, none⟩) (fun j hj => ?_) fun s' k z o0 o1 o2 o3 => ?_
  · match j, hj with
    | 0, _ => exact ⟨_, h.men⟩
    | 1, _ => exact ⟨_, h.sheets⟩
    | 2, _ => exact ⟨_, h.off.1⟩
    | 3, _ => exact ⟨_, h1⟩
  · refine hK s' k ⟨ext_kp h.ext h.blk k, h.blk, o0, o1, ⟨o2, hox⟩, y, c, o3, fun i hi => ?_⟩
    obtain ⟨a, ha, g0, g1, g2, g3⟩ := hy i hi
    have hd : ∀ j, ¬ (((a.add (i * 4)).add j).block = B) := fun j => by rw [add_blk, add_blk]; exact hf a ha
    exact ⟨a, ha, k.cell (hd 0) g0, k.cell (hd 1) g1, k.cell (hd 2) g2, k.cell (hd 3) g3⟩
/-- A copy of a table. -/
theorem tbV_new {s1 s : Hp} {T : Tb} {x y : Option Addr} {c c' : Nat} {K : Nat → Hp → Prop} (e : Ext s1 s) (hx : RowAt s1 x (ints T.off)) (hy : ScAt s y T.sc) (h : ∀ s' B, Ext s s' → s'.size = s.size + 1 → B = s.size → cellAt s' ⟨B, 3, none⟩ = some (.slice y T.sc.length c') → TbV s1 s' B T (x, c) → K B s') :
    NEWZ Pg 25 (fun B => WR (Addr.add ⟨B, 0, none⟩ 0) (.int .i64 T.men) (WR (Addr.add ⟨B, 0, none⟩ 1) (.int .i64 T.sheets) (WR (Addr.add ⟨B, 0, none⟩ 2) (.slice x T.off.length c) (WR (Addr.add ⟨B, 0, none⟩ 3) (.slice y T.sc.length c') (K B))))) s := by
  refine nw4 zc_25 rfl rfl rfl rfl fun s1' e1 z1 o0 o1 o2 o3 => ?_
  exact h s1' s.size e1 z1 rfl o3.cell ⟨e.trans e1, e.1, o0, o1, ⟨o2, hx⟩, y, c', o3, hy.ext e1⟩
section
variable {W : World} {K : VK} {E : List PanicEntry → Hp → Prop} {s s1 : Hp} {T X : Tb} {xo : Option Addr × Nat} {B : Nat}
/-- 'x = With(x, ..)'. -/
theorem with_var {a k : Nat} {n : Int} {y : Option Addr} {c : Nat} {KK : Hp → Prop} {R : Ending → Hp → Prop} (hok : okT X = true) (ha : a < X.n) (hk : k < X.m) (h0 : 0 ≤ n) (h1 : n ≤ 40) (v : TbV s1 s B X xo) (hy : ScAt s y X.sc)
    (hK : ∀ s' t, Ext s t → Kp (· = B) t s' → TbV s1 s' B (withT X a k n) xo → KK s') :
    CALL Pg W F_ref10_With [.agg #[.int .i64 X.men, .int .i64 X.sheets, .slice xo.1 X.off.length xo.2, .slice y X.sc.length c], .int .i64 a, .int .i64 k, .int .i64 n]
      (fun v118 => AGG v118 fun q120 => HD q120 fun v121 r122 => TYI .i64 v121 fun n123 => HD r122 fun v124 r125 => TYI .i64 v124 fun n126 => HD r125 fun v127 r128 => TYL v127 fun x129 l130 c131 => HD r128 fun v132 r133 => TYL v132 fun x134 l135 c136 => NL r133 <|
        WR (Addr.add ⟨B, 0, none⟩ 0) (.int .i64 n123) <| WR (Addr.add ⟨B, 0, none⟩ 1) (.int .i64 n126) <| WR (Addr.add ⟨B, 0, none⟩ 2) (.slice x129 l130 c131) <| WR (Addr.add ⟨B, 0, none⟩ 3) (.slice x134 l135 c136) KK) (fun e => R (.panicked e)) s := by
  refine f_WithN hok ha hk h0 h1 (v.off.2.ext v.ext) hy fun t y' c' e hok' hx' hy' hf => ?_
  try simp only [TUP_mk, AGG_mk, HD_mk, NL_mk, TYI_mk, TYB_mk, TYP_mk, TYL_mk, TYS_mk, TYM_mk, SO_mk, NX_mk, endK_mk, endK_mk', add_0]
  have hBl : B < s.size := v.men.lt
  exact (v.after e).put (X' := withT X a k n) v.off.2 hy' (fun a ha => by have := (hf a ha).1; omega) fun s' k' v' => hK s' t e k' v'
end
end Go.Proofs.Ytkgcbfbbcaajpaa.G

/- Rank: read. -/
set_option linter.unusedSimpArgs false
set_option linter.unusedVariables false
set_option maxRecDepth 20000
namespace Go.Proofs.Ytkgcbfbbcaajpaa.G
open Go.V
def bitO (w j : Nat) (n : Int) : Option Int := if w.testBit j then some n else none
/-- With the scores of a set read, as good for 'a', and as bad for 'b', as can be. -/
def readL (T : Tb) (a b w : Nat) : Nat → Tb := readG T a b (fun j => bitO w j (hiP T a j)) (fun j => bitO w (T.m + j) (loP T b j))
theorem bitO_some {w j : Nat} {n m : Int} (h : bitO w j n = some m) : m = n := by
  unfold bitO at h
  split at h
  · injection h with h; exact h.symm
  · cases h
section
variable {s1 s : Hp} {T : Tb}
theorem TbV.ret {B C : Nat} {X : Tb} {xo : Option Addr × Nat} {R : Ending → Hp → Prop} (h : TbV s1 s B X xo) (hC : s1.size ≤ C) (hk : ∀ p ∈ z4 C, Own s p.1 p.2) (hf : ∀ y c, cellAt s ⟨B, 3, none⟩ = some (.slice y X.sc.length c) → ∀ i, i < X.sc.length → ∀ a, y = some a → a.block ≠ C)
    (hR : ∀ s' y c', Ext s1 s' → ScAt s' y X.sc → R (.returned (.agg #[.int .i64 X.men, .int .i64 X.sheets, .slice xo.1 X.off.length xo.2, .slice y X.sc.length c'])) s') :
    (RDI .i64 (Addr.add ⟨B, 0, none⟩ 0) fun n17 => RDI .i64 (Addr.add ⟨B, 0, none⟩ 1) fun n18 => RDL (Addr.add ⟨B, 0, none⟩ 2) fun x19 l20 c21 => RDL (Addr.add ⟨B, 0, none⟩ 3) fun x22 l23 c24 =>
      WR (Addr.add ⟨C, 0, none⟩ 0) (.int .i64 n17) <| WR (Addr.add ⟨C, 0, none⟩ 1) (.int .i64 n18) <| WR (Addr.add ⟨C, 0, none⟩ 2) (.slice x19 l20 c21) <| WR (Addr.add ⟨C, 0, none⟩ 3) (.slice x22 l23 c24) <|
      RDI .i64 (Addr.add ⟨C, 0, none⟩ 0) fun n25 => RDI .i64 (Addr.add ⟨C, 0, none⟩ 1) fun n26 => RDL (Addr.add ⟨C, 0, none⟩ 2) fun x27 l28 c29 => RDL (Addr.add ⟨C, 0, none⟩ 3) fun x30 l31 c32 =>
      R (.returned (.agg #[(.int .i64 n25), (.int .i64 n26), (.slice x27 l28 c29), (.slice x30 l31 c32)]))) s := by
  obtain ⟨y, cy, h1, h2⟩ := h.sc
  refine ⟨_, h.men.cell, _, h.sheets.cell, _, _, _, h.off.1.cell, _, _, _, h1.cell, ?_⟩
  refine wr4 rfl rfl rfl rfl (a := ⟨C, 0, none⟩) (fun j hj => ?_) fun s' k z o0 o1 o2 o3 => ?_
  · match j, hj with
    | 0, _ => exact ⟨_, hk (⟨C, 0, none⟩, .int .i64 0) (by simp [z4])⟩
    | 1, _ => exact ⟨_, hk (⟨C, 1, none⟩, .int .i64 0) (by simp [z4])⟩
    | 2, _ => exact ⟨_, hk (⟨C, 2, none⟩, .slice none 0 0) (by simp [z4])⟩
    | 3, _ => exact ⟨_, hk (⟨C, 3, none⟩, .slice none 0 0) (by simp [z4])⟩
  · refine ⟨_, o0.cell, _, o1.cell, _, _, _, o2.cell, _, _, _, o3.cell, ?_⟩
    refine hR s' y cy (ext_kp h.ext hC k) fun i hi => ?_
    obtain ⟨a, ha, g0, g1, g2, g3⟩ := h2 i hi
    have hd : ∀ j, ¬ (((a.add (i * 4)).add j).block = C) := fun j => by rw [add_blk, add_blk]; exact hf y cy h1.cell i hi a ha
    exact ⟨a, ha, k.cell (hd 0) g0, k.cell (hd 1) g1, k.cell (hd 2) g2, k.cell (hd 3) g3⟩
/-- The scores of a table in a variable do not lie in some block. -/
def ScN (s : Hp) (B : Nat) (X : Tb) (C : Nat) : Prop := ∀ y c, cellAt s ⟨B, 3, none⟩ = some (.slice y X.sc.length c) → ∀ i, i < X.sc.length → ∀ a, y = some a → a.block ≠ C
theorem ScN.after {s s' : Hp} {B C : Nat} {X : Tb} {xo : Option Addr × Nat} (v : TbV s1 s B X xo) (e : Ext s s') (h : ScN s B X C) : ScN s' B X C := fun y c hc => by
  obtain ⟨y0, c0, h1, _⟩ := v.sc
  have := e.cell h1.cell
  rw [hc] at this
  injection this with this
  injection this with g1 g2 g3
  subst g1; subst g3
  exact h y c h1.cell
end
section
variable {W : World} {K : VK} {E : List PanicEntry → Hp → Prop} {s : Hp} {T : Tb}
/-- One step: if a score is read, the variable has the table with it. -/
theorem read_step {R : Ending → Hp → Prop} {s1 u : Hp} {B C za a k : Nat} {X : Tb} {xo : Option Addr × Nat} {e : Bool} {KK : Hp → Prop} (hok : okT T = true) (hokX : okT X = true) (haX : a < X.n) (hkX : k < X.m) (ta : TbA s1 ⟨za, 0, none⟩ T) (v : TbV s1 u B X xo) (hC : C < u.size) (hCB : C ≠ B) (hk : ∀ p ∈ z4 C, Own u p.1 p.2)
    (hK : ∀ s', TbV s1 s' B (withT X a k (sel e (loP T a k, hiP T a k))) xo → (∀ p ∈ z4 C, Own s' p.1 p.2) → ScN s' B (withT X a k (sel e (loP T a k, hiP T a k))) C → u.size ≤ s'.size → KK s') :
    (RDI .i64 (Addr.add ⟨B, 0, none⟩ 0) fun n25 => RDI .i64 (Addr.add ⟨B, 0, none⟩ 1) fun n26 => RDL (Addr.add ⟨B, 0, none⟩ 2) fun x27 l28 c29 => RDL (Addr.add ⟨B, 0, none⟩ 3) fun x30 l31 c32 =>
      RDI .i64 (Addr.add ⟨za, 0, none⟩ 0) fun n33 => RDI .i64 (Addr.add ⟨za, 0, none⟩ 1) fun n34 => RDL (Addr.add ⟨za, 0, none⟩ 2) fun x35 l36 c37 => RDL (Addr.add ⟨za, 0, none⟩ 3) fun x38 l39 c40 =>
      CALL Pg W F_ref10_Points [(.agg #[(.int .i64 n33), (.int .i64 n34), (.slice x35 l36 c37), (.slice x38 l39 c40)]), (.int .i64 a), (.int .i64 k)]
        (fun v41 => AGG v41 fun q43 => HD q43 fun v44 r45 => TYI .i64 v44 fun n46 => HD r45 fun v47 r48 => TYI .i64 v47 fun n49 => NL r48 <|
          ANDS (RDI .i64 (Addr.add ⟨B, 0, none⟩ 0) fun n50 => RDI .i64 (Addr.add ⟨B, 0, none⟩ 1) fun n51 => RDL (Addr.add ⟨B, 0, none⟩ 2) fun x52 l53 c54 => RDL (Addr.add ⟨B, 0, none⟩ 3) fun x55 l56 c57 => fun _ => ((.agg #[(.int .i64 n50), (.int .i64 n51), (.slice x52 l53 c54), (.slice x55 l56 c57)]) : Value) = (.agg #[(.int .i64 n25), (.int .i64 n26), (.slice x27 l28 c29), (.slice x30 l31 c32)])) <|
          ANDS (RDI .i64 (Addr.add ⟨B, 0, none⟩ 0) fun n58 => RDI .i64 (Addr.add ⟨B, 0, none⟩ 1) fun n59 => RDL (Addr.add ⟨B, 0, none⟩ 2) fun x60 l61 c62 => RDL (Addr.add ⟨B, 0, none⟩ 3) fun x63 l64 c65 => fun _ => ((.agg #[(.int .i64 n58), (.int .i64 n59), (.slice x60 l61 c62), (.slice x63 l64 c65)]) : Value) = (.agg #[(.int .i64 n25), (.int .i64 n26), (.slice x27 l28 c29), (.slice x30 l31 c32)])) <|
          CALL Pg W F_ref10_With [(.agg #[(.int .i64 n25), (.int .i64 n26), (.slice x27 l28 c29), (.slice x30 l31 c32)]), (.int .i64 a), (.int .i64 k), (.int .i64 (sel e (n46, n49)))]
            (fun v66 => AGG v66 fun q68 => HD q68 fun v69 r70 => TYI .i64 v69 fun n71 => HD r70 fun v72 r73 => TYI .i64 v72 fun n74 => HD r73 fun v75 r76 => TYL v75 fun x77 l78 c79 => HD r76 fun v80 r81 => TYL v80 fun x82 l83 c84 => NL r81 <|
              WR (Addr.add ⟨B, 0, none⟩ 0) (.int .i64 n71) <| WR (Addr.add ⟨B, 0, none⟩ 1) (.int .i64 n74) <| WR (Addr.add ⟨B, 0, none⟩ 2) (.slice x77 l78 c79) <| WR (Addr.add ⟨B, 0, none⟩ 3) (.slice x82 l83 c84) <| KK)
            (fun e67 => R (.panicked e67)))
        (fun e42 => R (.panicked e42))) u := by
  obtain ⟨_, _, _, _, h30, _⟩ := okT_iff.1 hok
  have hlh := lo_hi hok a k
  have hsel : 0 ≤ sel e (loP T a k, hiP T a k) ∧ sel e (loP T a k, hiP T a k) ≤ 40 := by cases e <;> simp only [sel] <;> first | (simp; omega) | omega
  obtain ⟨y, cy, h1, h2⟩ := v.sc
  refine ⟨_, v.men.cell, _, v.sheets.cell, _, _, _, v.off.1.cell, _, _, _, h1.cell, ?_⟩
  refine rdT (ta.ext v.ext) fun x c y' c' hx hy => ?_
  refine f_Points hx hy (by omega) fun t f => ?_
  unfold spanV
  try simp only [TUP_mk, AGG_mk, HD_mk, NL_mk, TYI_mk, TYB_mk, TYP_mk, TYL_mk, TYS_mk, TYM_mk, SO_mk, NX_mk, endK_mk, endK_mk', add_0]
  have vt := v.after f
  have h1t := f.cell h1.cell
  refine ⟨⟨_, vt.men.cell, _, vt.sheets.cell, _, _, _, vt.off.1.cell, _, _, _, h1t, rfl⟩, ⟨⟨_, vt.men.cell, _, vt.sheets.cell, _, _, _, vt.off.1.cell, _, _, _, h1t, rfl⟩, ?_⟩⟩
  have hs : sel e ((pts (prs T) ((a : Int), (k : Int))).1, (pts (prs T) ((a : Int), (k : Int))).2) = sel e (loP T a k, hiP T a k) := rfl
  rw [hs]
  refine f_WithN hokX haX hkX hsel.1 hsel.2 (v.off.2.ext vt.ext) (h2.ext f) fun t2 y2 c2 f2 hok2 hx2 hy2 hfr => ?_
  try simp only [TUP_mk, AGG_mk, HD_mk, NL_mk, TYI_mk, TYB_mk, TYP_mk, TYL_mk, TYS_mk, TYM_mk, SO_mk, NX_mk, endK_mk, endK_mk', add_0]
  have hBl : B < t.size := vt.men.lt
  have hs1 := f.1
  have hs2 := f2.1
  obtain ⟨y3, c3, g1, g2⟩ := (vt.after f2).sc
  refine wr4 rfl rfl rfl rfl (a := ⟨B, 0, none⟩) (fun j hj => ?_) fun s' k' z o0 o1 o2 o3 => ?_
  · match j, hj with
    | 0, _ => exact ⟨_, (vt.after f2).men⟩
    | 1, _ => exact ⟨_, (vt.after f2).sheets⟩
    | 2, _ => exact ⟨_, (vt.after f2).off.1⟩
    | 3, _ => exact ⟨_, g1⟩
  · refine hK s' ⟨ext_kp (vt.after f2).ext v.blk k', v.blk, o0, o1, ⟨o2, v.off.2⟩, y2, c2, o3, fun i hi => ?_⟩ (fun p hp => ?_) (fun y5 c5 hc5 i hi a' ha' => ?_) (by have := k'.1; omega)
    · obtain ⟨ad, had, g0, g1, g2, g3⟩ := hy2 i hi
      have hd : ∀ j, ¬ (((ad.add (i * 4)).add j).block = B) := fun j => by rw [add_blk, add_blk]; have := (hfr ad had).1; omega
      exact ⟨ad, had, k'.cell (hd 0) g0, k'.cell (hd 1) g1, k'.cell (hd 2) g2, k'.cell (hd 3) g3⟩
    · have hpC : p.1.block = C := by
        unfold z4 at hp
        simp only [List.mem_cons, List.not_mem_nil, or_false] at hp
        rcases hp with rfl | rfl | rfl | rfl <;> rfl
      exact k'.own (by rw [hpC]; exact hCB) (f2.own (f.own (hk p hp)))
    · have hc6 : cellAt s' ⟨B, 3, none⟩ = _ := o3.cell
      rw [hc6] at hc5
      injection hc5 with hc5
      injection hc5 with e1 e2 e3
      subst e1
      have := (hfr a' ha').1; omega
end
end Go.Proofs.Ytkgcbfbbcaajpaa.G

/- Rank: read, in the statements; what the fewest scores are. -/
set_option linter.unusedSimpArgs false
set_option linter.unusedVariables false
set_option maxRecDepth 20000
namespace Go.Proofs.Ytkgcbfbbcaajpaa.G
open Go.V
section
variable {T : Tb} {a b w : Nat}
theorem readL_same (j : Nat) : (readL T a b w j).men = T.men ∧ (readL T a b w j).sheets = T.sheets ∧ (readL T a b w j).off = T.off := readG_same T a b _ _ j
theorem readL_ok (hok : okT T = true) (ha : a < T.n) (hb : b < T.n) {j : Nat} (hj : j ≤ T.m) : okT (readL T a b w j) = true :=
  readG_ok hok ha hb (fun k n _ h => by have := lo_hi hok a k; rw [bitO_some h]; omega) (fun k n _ h => by have := lo_hi hok b k; rw [bitO_some h]; omega) j hj
theorem put1_none (X : Tb) (a k : Nat) : put1 X a k none = X := rfl
/-- Between two scores of one sheet. -/
def readH (T : Tb) (a b w j : Nat) : Tb := put1 (readL T a b w j) a j (bitO w j (hiP T a j))
theorem readH_ok (hok : okT T = true) (ha : a < T.n) (hb : b < T.n) {j : Nat} (hj : j < T.m) : okT (readH T a b w j) = true := by
  obtain ⟨h1, h2, h3⟩ := readL_same (T := T) (a := a) (b := b) (w := w) j
  exact put1_ok (readL_ok hok ha hb (by omega)) (by rw [same_n h1]; exact ha) (by rw [same_m h2]; exact hj) fun n h => by have := lo_hi hok a j; rw [bitO_some h]; omega
theorem readH_same (j : Nat) : (readH T a b w j).men = T.men ∧ (readH T a b w j).sheets = T.sheets ∧ (readH T a b w j).off = T.off := by
  obtain ⟨h1, h2, h3⟩ := readL_same (T := T) (a := a) (b := b) (w := w) j
  obtain ⟨k1, k2, k3⟩ := put1_same (readL T a b w j) a j (bitO w j (hiP T a j))
  exact ⟨k1.trans h1, k2.trans h2, k3.trans h3⟩
theorem readL_succ (j : Nat) : readL T a b w (j + 1) = put1 (readH T a b w j) b j (bitO w (T.m + j) (loP T b j)) := rfl
theorem bitO_t {w j : Nat} {n : Int} (h : w.testBit j = true) : bitO w j n = some n := by unfold bitO; rw [if_pos h]
theorem bitO_f {w j : Nat} {n : Int} (h : w.testBit j = false) : bitO w j n = none := by unfold bitO; rw [if_neg (by rw [h]; simp)]
end
end Go.Proofs.Ytkgcbfbbcaajpaa.G

/- Rank, in plain Lean: the fewest scores that prove it. -/
set_option linter.unusedSimpArgs false
set_option linter.unusedVariables false
set_option maxRecDepth 20000
namespace Go.Proofs.Ytkgcbfbbcaajpaa.G
open Go.V
/-! ### The order of sets -/
def setLt (x y : Nat) : Prop := popN x < popN y ∨ (popN x = popN y ∧ x < y)
theorem lay_mem {M z x : Nat} : x ∈ lay M z ↔ x < 2 ^ M ∧ popN x = z := by unfold lay; simp
theorem sets_sorted (M : Nat) : (setsL M).Pairwise setLt := by
  unfold setsL
  rw [List.pairwise_flatMap]
  constructor
  · intro z hz
    unfold lay
    have h : (List.range (2 ^ M)).Pairwise (· < ·) := List.pairwise_lt_range
    refine List.Pairwise.imp_of_mem ?_ (h.filter _)
    intro x y hx hy hlt
    have h1 := (List.mem_filter.1 hx).2
    have h2 := (List.mem_filter.1 hy).2
    simp at h1 h2
    exact .inr ⟨by omega, hlt⟩
  · have h : (List.range (M + 1)).Pairwise (· < ·) := List.pairwise_lt_range
    refine h.imp ?_
    intro z z' hlt x hx y hy
    exact .inl (by rw [(lay_mem.1 hx).2, (lay_mem.1 hy).2]; exact hlt)
theorem popN_le (x : Nat) : popN x ≤ 10 := by unfold popN; exact Nat.le_trans (List.length_filter_le _ _) (by simp)
theorem pop_small : ∀ M : Nat, M ≤ 10 → ∀ x : Nat, x < 2 ^ M → popN x ≤ M := by
  intro M hM x hx
  unfold popN
  have hb : ∀ i, M ≤ i → x.testBit i = false := fun i hi => Nat.testBit_lt_two_pow (Nat.lt_of_lt_of_le hx (Nat.pow_le_pow_right (by omega) hi))
  have : (List.range 10).filter (fun i => x.testBit i) = (List.range M).filter (fun i => x.testBit i) := by
    have : List.range 10 = List.range M ++ (List.range (10 - M)).map (M + ·) := by rw [← List.range_add]; congr 1; omega
    rw [this, List.filter_append]
    have : ((List.range (10 - M)).map (M + ·)).filter (fun i => x.testBit i) = [] := List.filter_eq_nil_iff.2 fun i hi => by
      obtain ⟨j, _, rfl⟩ := List.mem_map.1 hi
      rw [hb _ (by omega)]; simp
    rw [this, List.append_nil]
  rw [this]
  exact Nat.le_trans (List.length_filter_le _ _) (by simp)
theorem sets_mem {M : Nat} (hM : M ≤ 10) {x : Nat} (hx : x < 2 ^ M) : x ∈ setsL M := by
  unfold setsL
  have := pop_small M hM x hx
  exact List.mem_flatMap.2 ⟨popN x, List.mem_range.2 (by omega), lay_mem.2 ⟨hx, rfl⟩⟩
theorem sets_first {M : Nat} (hM : M ≤ 10) {p : Nat → Bool} {w x : Nat} (h : (setsL M).find? p = some w) (hx : x < 2 ^ M) (hp : p x = true) : ¬ setLt x w := by
  obtain ⟨h1, l1, l2, h2, h3⟩ := List.find?_eq_some_iff_append.1 h
  have hs := sets_sorted M
  have hm := sets_mem hM hx
  rw [h2] at hs hm
  rcases List.mem_append.1 hm with hm | hm
  · have := h3 x hm; rw [hp] at this; cases this
  · rcases List.mem_cons.1 hm with rfl | hm
    · rintro (h | ⟨_, h⟩) <;> omega
    · have := (List.pairwise_append.1 hs).2.1
      have := List.rel_of_pairwise_cons this hm
      rintro (h | ⟨h4, h5⟩)
      · rcases this with h6 | ⟨h6, h7⟩ <;> omega
      · rcases this with h6 | ⟨h6, h7⟩ <;> omega
/-! ### Size, all -/
def popA : Nat → Nat → Nat
  | 0, _ => 0
  | f + 1, n => n % 2 + popA f (n / 2)
theorem popA_pop : ∀ n : Nat, n < 1024 → popA 10 n = popN n := by
  have h : ((List.range 1024).all fun n => decide (popA 10 n = popN n)) = true := by decide +kernel
  intro n hn
  exact of_decide_eq_true (List.all_eq_true.1 h n (by simpa using hn))
theorem shl_all : ∀ M : Nat, M ≤ 5 → IntKind.wrap .i64 (shlv .i64 1 (IntKind.wrap .i64 (2 * (M : Int))) - 1) = ((2 ^ (2 * M) - 1 : Nat) : Int) := by decide +kernel
theorem and_all {x n : Nat} (hx : x < 65536) (hn : n ≤ 10) : andv .i64 (x : Int) ((2 ^ n - 1 : Nat) : Int) = ((x % 2 ^ n : Nat) : Int) := by
  have h1 : 2 ^ n ≤ 2 ^ 10 := Nat.pow_le_pow_right (by omega) hn
  unfold andv
  have e1 : (BitVec.ofInt IntKind.i64.bits (x : Int)).toNat = x := by
    show (BitVec.ofInt 64 (x : Int)).toNat = x
    rw [BitVec.ofInt_natCast, BitVec.toNat_ofNat, Nat.mod_eq_of_lt (by omega)]
  have e2 : (BitVec.ofInt IntKind.i64.bits ((2 ^ n - 1 : Nat) : Int)).toNat = 2 ^ n - 1 := by
    show (BitVec.ofInt 64 ((2 ^ n - 1 : Nat) : Int)).toNat = 2 ^ n - 1
    rw [BitVec.ofInt_natCast, BitVec.toNat_ofNat, Nat.mod_eq_of_lt (by omega)]
  rw [BitVec.toNat_and, e1, e2, Nat.and_two_pow_sub_one_eq_mod]
  have := Nat.mod_lt x (show 2 ^ n > 0 from Nat.pow_pos (by omega))
  exact wrap_i64 (by omega) (by omega)
/-! ### What is proved -/
section
variable {T : Tb} {a b w : Nat}
theorem readV_rows {V : Nat → Nat → Int} (hok : okT T = true) (ha : a < T.n) (hb : b < T.n) (hab : a ≠ b) (hv : ∀ i k, i < T.n → k < T.m → 0 ≤ V i k ∧ V i k ≤ 40) {X : Tb} (hX : X = readG T a b (fun j => bitO w j (V a j)) (fun j => bitO w (T.m + j) (V b j)) T.m) :
    lowR X a = rowG (fun k => if w.testBit k then V a k else loP T a k) T.m (offT T a) ∧ topR X b = rowG (fun k => if w.testBit (T.m + k) then V b k else hiP T b k) T.m (offT T b) := by
  obtain ⟨h1, h2, h3⟩ := readG_same T a b (fun j => bitO w j (V a j)) (fun j => bitO w (T.m + j) (V b j)) T.m
  rw [← hX] at h1 h2 h3
  have key := readG_lo (f := fun j => bitO w j (V a j)) (g := fun j => bitO w (T.m + j) (V b j)) hok ha hb (fun j n hj h => by rw [bitO_some h]; exact hv a j ha hj) (fun j n hj h => by rw [bitO_some h]; exact hv b j hb hj) hab T.m (Nat.le_refl _)
  rw [← hX] at key
  rw [lowR_loP, topR_hiP, same_m h2, same_off h3, same_off h3]
  constructor
  · refine rowG_congr fun k hk => ?_
    rw [(key a k).1, if_pos ⟨rfl, hk⟩]
    unfold bitO; split <;> rfl
  · refine rowG_congr fun k hk => ?_
    rw [(key b k).2, if_neg (fun h => hab h.1.symm), if_pos ⟨rfl, hk⟩]
    unfold bitO; split <;> rfl
def hl (T : Tb) (a b : Nat) (i k : Nat) : Int := if i = a then hiP T i k else loP T i k
theorem readL_rows (hok : okT T = true) (ha : a < T.n) (hb : b < T.n) (hab : a ≠ b) :
    lowR (readL T a b w T.m) a = rowG (fun k => if w.testBit k then hiP T a k else loP T a k) T.m (offT T a) ∧ topR (readL T a b w T.m) b = rowG (fun k => if w.testBit (T.m + k) then loP T b k else hiP T b k) T.m (offT T b) := by
  have hb' : ¬ b = a := fun h => hab h.symm
  have := readV_rows (w := w) (V := hl T a b) hok ha hb hab (fun i k _ _ => by have := lo_hi hok i k; unfold hl; split <;> omega) (X := readL T a b w T.m) (by unfold readL hl; simp [hb'])
  simpa [hl, hb'] using this
theorem proves_rows (hab : a ≠ b) : provesB T a b w = aheadL (rowG (fun k => if w.testBit k then hiP T a k else loP T a k) T.m (offT T a)) (rowG (fun k => if w.testBit (T.m + k) then loP T b k else hiP T b k) T.m (offT T b)) := by
  unfold provesB befP
  rw [decide_eq_true hab, Bool.true_and]
  congr 1
  · show rowG (fun k => (bet (pts (prs T)) T.m a b w ((a : Int), (k : Int))).1) T.m (offT T a) = _
    refine rowG_congr fun k hk => ?_
    unfold bet
    simp only [Int.toNat_natCast, true_and]
    cases w.testBit k
    · by_cases e : (a : Int) = (b : Int) ∧ w.testBit (T.m + k) = true
      · exact absurd (by omega : a = b) hab
      · simp only [Bool.false_eq_true, if_false, if_neg e]; rfl
    · rfl
  · show rowG (fun k => (bet (pts (prs T)) T.m a b w ((b : Int), (k : Int))).2) T.m (offT T b) = _
    refine rowG_congr fun k hk => ?_
    unfold bet
    have hb' : ¬ (b : Int) = (a : Int) := fun h => hab (by omega)
    simp only [Int.toNat_natCast, hb', false_and, if_false, true_and]
    cases w.testBit (T.m + k) <;> rfl
theorem proves_sur (hok : okT T = true) (ha : a < T.n) (hb : b < T.n) (hab : a ≠ b) : surT (readL T a b w T.m) a b = provesB T a b w := by
  obtain ⟨h1, h2⟩ := readL_rows (w := w) hok ha hb hab
  rw [surT_eq, h1, h2, proves_rows hab, decide_eq_true hab, Bool.true_and]
theorem proves_self : provesB T a a w = false := by unfold provesB befP; simp
theorem proves_can (hok : okT T = true) (h : provesB T a b w = true) : canT T a b = true := by
  by_cases hab : a = b
  · subst hab; rw [proves_self] at h; cases h
  rw [proves_rows hab] at h
  refine canT_iff.2 ⟨hab, ?_⟩
  rw [topR_hiP, lowR_loP]
  refine le_gt (by rw [rowG_len, rowG_len]) (rowG_le (fun k _ => ?_) (Int.le_refl _)) (gt_le (by rw [rowG_len, rowG_len]) h (rowG_le (fun k _ => ?_) (Int.le_refl _)))
  · have := lo_hi hok a k
    show (if w.testBit k then hiP T a k else loP T a k) ≤ _
    split <;> omega
  · have := lo_hi hok b k
    show _ ≤ (if w.testBit (T.m + k) then loP T b k else hiP T b k)
    split <;> omega
theorem proves_all (hok : okT T = true) (h : canT T a b = true) : provesB T a b (2 ^ (2 * T.m) - 1) = true := by
  obtain ⟨hab, h2⟩ := canT_iff.1 h
  have hb : ∀ k, k < 2 * T.m → (2 ^ (2 * T.m) - 1).testBit k = true := fun k hk => by rw [Nat.testBit_two_pow_sub_one]; exact decide_eq_true hk
  rw [proves_rows hab]
  refine Eq.trans ?_ h2
  rw [topR_hiP, lowR_loP]
  congr 1
  · exact rowG_congr fun k hk => by rw [hb k (by omega), if_pos rfl]
  · exact rowG_congr fun k hk => by rw [hb (T.m + k) (by omega), if_pos rfl]
theorem proves_none (T : Tb) (a b : Nat) : provesB T a b 0 = surT T a b := by
  by_cases hab : a = b
  · subst hab; rw [proves_self, surT_self]
  rw [proves_rows hab, surT_eq, decide_eq_true hab, Bool.true_and, lowR_loP, topR_hiP]
  congr 1
  · exact rowG_congr fun k _ => by simp
  · exact rowG_congr fun k _ => by simp
/-- With any numbers none of fewer prove it. -/
theorem any_numbers {V : Nat → Nat → Int} (hok : okT T = true) (ha : a < T.n) (hb : b < T.n) (hv : ∀ i k, i < T.n → k < T.m → loP T i k ≤ V i k ∧ V i k ≤ hiP T i k) {X : Tb} (hX : X = readG T a b (fun j => bitO w j (V a j)) (fun j => bitO w (T.m + j) (V b j)) T.m) (h : surT X a b = true) : provesB T a b w = true := by
  by_cases hab : a = b
  · subst hab; rw [surT_self] at h; cases h
  obtain ⟨h1, h2⟩ := readV_rows hok ha hb hab (fun i k hi hk => by have := hv i k hi hk; have := lo_hi hok i k; omega) hX
  rw [surT_eq, h1, h2, decide_eq_true hab, Bool.true_and] at h
  rw [proves_rows hab]
  refine le_gt (by rw [rowG_len, rowG_len]) (rowG_le (fun k hk => ?_) (Int.le_refl _)) (gt_le (by rw [rowG_len, rowG_len]) h (rowG_le (fun k hk => ?_) (Int.le_refl _)))
  · have := hv a k ha hk
    show (if w.testBit k then V a k else loP T a k) ≤ (if w.testBit k then hiP T a k else loP T a k)
    split <;> omega
  · have := hv b k hb hk
    show (if w.testBit (T.m + k) then loP T b k else hiP T b k) ≤ (if w.testBit (T.m + k) then V b k else hiP T b k)
    split <;> omega
theorem could_some (hok : okT T = true) (hc : canT T a b = true) : ∃ w, couldN T a b = some w ∧ w < 2 ^ (2 * T.m) ∧ provesB T a b w = true ∧ (∀ x, x < 2 ^ (2 * T.m) → provesB T a b x = true → ¬ setLt x w) ∧ (w = 0 ↔ surT T a b = true) := by
  obtain ⟨_, _, _, m5⟩ := n_lim hok
  have hp : 0 < 2 ^ (2 * T.m) := Nat.pow_pos (by omega)
  cases h : couldN T a b with
  | none =>
    have := List.find?_eq_none.1 h (2 ^ (2 * T.m) - 1) (sets_mem (by omega) (by omega))
    exact absurd (proves_all hok hc) this
  | some w =>
    have hw : w < 2 ^ (2 * T.m) := by
      have := List.mem_of_find?_eq_some h
      unfold setsL at this
      obtain ⟨z, _, hz⟩ := List.mem_flatMap.1 this
      exact (lay_mem.1 hz).1
    have hpw : provesB T a b w = true := List.find?_some h
    have hfirst := fun x hx hpx => sets_first (M := 2 * T.m) (by omega) (p := provesB T a b) (w := w) (x := x) h hx hpx
    refine ⟨w, rfl, hw, hpw, hfirst, ⟨fun e => ?_, fun hs => ?_⟩⟩
    · subst e; rw [← proves_none]; exact hpw
    · have := hfirst 0 hp (by rw [proves_none]; exact hs)
      rcases Nat.eq_zero_or_pos w with h0 | h0
      · exact h0
      · have hz : popN 0 = 0 := by decide
        exact absurd (show setLt 0 w by unfold setLt; rw [hz]; omega) this
end
section
variable {W : World} {K : VK} {E : List PanicEntry → Hp → Prop} {s : Hp}
theorem f_Size {n : Nat} (hn : n < 1024) (h : K (.int .i64 (popN n : Nat)) s) : CALL Pg W F_ref10_Size [.int .i64 (n : Nat)] K E s := by
  refine does_ref10_Size W n _ s ?_
  unfold T_ref10_Size
  refine L_ref10_Size_0_rule W _ (fun x c t => t = s ∧ ∃ f m k : Nat, f ≤ 10 ∧ m < 2 ^ f ∧ x = m ∧ c = k ∧ k ≤ 10 - f ∧ k + popA f m = popN n) (fun x _ _ => x.toNat) n 0 s ⟨rfl, 10, n, 0, by omega, by omega, rfl, rfl, by omega, by rw [popA_pop n hn]; omega⟩ ?_
  rintro n2 n3 t ⟨rfl, f, m, k, hf, hm, rfl, rfl, hk, he⟩
  have hm2 : m < 1024 := Nat.lt_of_lt_of_le hm (show 2 ^ f ≤ 2 ^ 10 from Nat.pow_le_pow_right (by omega) hf)
  unfold B_ref10_Size_0
  refine BR_dec (fun h1 => ?_) (fun h1 => ?_)
  · have hmp : 0 < m := by omega
    cases f with
    | zero => simp at hm; omega
    | succ f =>
      have hd : IntKind.wrap .i64 (Int.tdiv (m : Int) 2) = ((m / 2 : Nat) : Int) := by
        have : Int.tdiv (m : Int) 2 = ((m / 2 : Nat) : Int) := rfl
        rw [this, wrap_i64 (by omega) (by omega)]
      have hr : Int.tmod (m : Int) 2 = ((m % 2 : Nat) : Int) := rfl
      have hml := Nat.mod_lt m (show 2 > 0 by omega)
      unfold popA at he
      refine ⟨rfl, _, _, rfl, ⟨rfl, f, m / 2, k + m % 2, by omega, by rw [Nat.pow_succ] at hm; omega, hd, ?_, by omega, by omega⟩, ?_⟩
      · rw [hr, wrap_i64 (by omega) (by omega)]; rfl
      · show (IntKind.wrap .i64 (Int.tdiv (m : Int) 2)).toNat < (m : Int).toNat
        rw [hd]; omega
  · have hm0 : m = 0 := by omega
    subst hm0
    have hz : popA f 0 = 0 := by
      clear he hm hm2
      induction f with
      | zero => rfl
      | succ f ih => unfold popA; simp [ih (by omega) (by omega)]
    rw [hz, Nat.add_zero] at he
    rw [he]; exact h
end
end Go.Proofs.Ytkgcbfbbcaajpaa.G
