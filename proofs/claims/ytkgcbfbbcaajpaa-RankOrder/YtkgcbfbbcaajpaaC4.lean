import Derived.Test.YtkgcbfbbcaajpaaC3
/- The order that is told has everybody once and is never wrong, numbers make no difference in all else, and no argument is changed: the statement RankOrder holds for every input, with no condition. -/
/- The statement RankOrder: the order. -/
set_option linter.unusedSimpArgs false
set_option linter.unusedVariables false
set_option maxRecDepth 20000
namespace Go.Proofs.Ytkgcbfbbcaajpaa.G
open Go.V
theorem SLS_row {s : Hp} {x : Option Addr} {c i n : Nat} {d : List Int} {K : Option Addr → Nat → Nat → Hp → Prop} (h : RowAt s x (ints d)) (hn : n = d.length) (hi : i ≤ n) (hc : n ≤ c) (hK : ∀ x' c', RowAt s x' (ints (d.drop i)) → K x' (n - i) c' s) : SLS x c (i : Int) (n : Int) 1 K s := by
  refine ⟨⟨by omega, by omega, by omega⟩, ?_⟩
  rw [Int.toNat_natCast, Int.toNat_natCast]
  refine hK _ _ ?_
  intro j hj
  rw [ints_len, List.length_drop] at hj
  obtain ⟨a, ha, g⟩ := h (i + j) (by rw [ints_len]; omega)
  subst ha
  refine ⟨a.add (i * 1), by rw [if_neg (by omega)]; rfl, ?_⟩
  rw [ints_get] at g ⊢
  rw [addr_add, ← Nat.add_mul, g]
  simp
theorem natI_len (l : List Nat) : (natI l).length = l.length := by unfold natI; simp
theorem natI_getD {l : List Nat} {j : Nat} (h : j < l.length) : (natI l).getD j 0 = ((l[j] : Nat) : Int) := by unfold natI; simp [List.getD, h]
theorem natI_drop (l : List Nat) (i : Nat) : (natI l).drop i = natI (l.drop i) := by unfold natI; rw [List.map_drop]
section
variable {W : World} {R : Ending → Hp → Prop} {s1 t : Hp} {T : Tb} {za : Nat} {za1 : Addr} {p : Option Addr} {cp w i : Nat}
/-- Somebody with a lesser number has somebody before who is left. -/
theorem ord_5 {nx0 nx3 : List Value → Hp → Prop} {zb2 : Bool} {b len : Nat} {zn8 zn10 : Int} {zn6 zn7 : Int} {x' : Option Addr} {c' : Nat} {l : List Nat} (hok : okT T = true) (hlo : T.off.length ≤ 100000) (ta : TbA s1 ⟨za, 0, none⟩ T) (et : Ext s1 t) (hb : b < T.n) (hr : RowAt t x' (ints (natI l))) (hl : ∀ c ∈ l, c < T.n) (hlen : l.length = len) (h6 : len ≤ 100) (hex : ∃ c ∈ l, surT T c b = true)
    (hgo : ∀ t', Ext t t' → nx3 [.bool zb2, .int .i64 (IntKind.wrap .i64 ((b : Int) + 1))] t') :
    L_law10_RankOrder_5 W R nx0 nx3 ⟨za, 0, none⟩ za1 zb2 p T.n cp zn6 zn7 zn8 b zn10 x' len c' len false 0 t := by
  refine L_law10_RankOrder_5_rule W R nx0 nx3 ⟨za, 0, none⟩ za1 zb2 p T.n cp zn6 zn7 zn8 b zn10 x' len c' len (fun h n u => Ext t u ∧ ∃ k : Nat, k ≤ len ∧ n = k ∧ h = (l.take k).any fun c => surT T c b) (fun _ n _ => (len - n).toNat) false 0 t ⟨Ext.refl _, 0, by omega, rfl, rfl⟩ ?_
  rintro b278 n279 u ⟨eu, k, hk, rfl, rfl⟩
  unfold B_law10_RankOrder_5
  refine BR_dec (fun h1 => ?_) (fun h1 => ?_)
  · have hkl : k < l.length := by omega
    obtain ⟨a, ha, g⟩ := row_int (hr.ext eu) (show k < (natI l).length by rw [natI_len]; exact hkl)
    subst ha
    rw [natI_getD hkl] at g
    refine IXS_nat (by omega) ⟨_, g, ?_⟩
    refine rdT (ta.ext (et.trans eu)) fun x c0 y c1 hx hy => ?_
    refine c_BeforeN hok (hl _ (List.getElem_mem hkl)) hb hlo hx hy fun v f => ?_
    try simp only [TUP_mk, AGG_mk, HD_mk, NL_mk, TYI_mk, TYB_mk, TYP_mk, TYL_mk, TYS_mk, TYM_mk, SO_mk, NX_mk, endK_mk, endK_mk', add_0]
    have htk : (l.take (k + 1)).any (fun c => surT T c b) = ((l.take k).any (fun c => surT T c b) || surT T l[k] b) := by
      rw [List.take_add_one, List.getElem?_eq_getElem hkl, List.any_append]; simp
    have hb2 : (befN T l[k] b == 2) = surT T l[k] b := by
      cases hc : surT T l[k] b with
      | true => rw [befN_two.2 hc]; rfl
      | false => rw [beq_eq_false_iff_ne.2 fun hh => by rw [befN_two.1 hh] at hc; cases hc]
    have j6 : ∀ q, q = (l.take (k + 1)).any (fun c => surT T c b) → J_law10_RankOrder_6 W R ⟨za, 0, none⟩ za1 zb2 p T.n cp zn6 zn7 zn8 b zn10 (some a) len c' len (fun vs => N_law10_RankOrder_5 (fun h n u => Ext t u ∧ ∃ k : Nat, k ≤ len ∧ n = k ∧ h = (l.take k).any fun c => surT T c b) (fun _ n _ => (len - n).toNat) ((l.take k).any fun c => surT T c b) k u vs) q k v := by
      rintro q rfl
      unfold J_law10_RankOrder_6
      exact ⟨rfl, _, _, rfl, ⟨eu.trans f, k + 1, by omega, wrap_succ (by omega), rfl⟩, ms_succ (by omega) (by omega)⟩
    refine BR_bool (fun hq => j6 _ (by rw [htk, hq]; rfl)) (fun hq => ?_)
    refine BR_tt rfl (j6 _ ?_)
    rw [htk, hq, hb2]; rfl
  · have hkl : k = len := by omega
    subst hkl
    rw [← hlen, List.take_length]
    have : (l.any fun c => surT T c b) = true := by
      obtain ⟨c, hc, hs⟩ := hex
      exact List.any_eq_true.2 ⟨c, hc, hs⟩
    rw [this]
    exact BR_ff rfl ⟨rfl, hgo u eu⟩
/-- One round of the order. -/
theorem ord_round {nx0 : List Value → Hp → Prop} {b59 : Bool} {l : List Nat} (hok : okT T = true) (hlo : T.off.length ≤ 100000) (ta : TbA s1 ⟨za, 0, none⟩ T) (et : Ext s1 t) (hr : RowAt t p (ints (natI l))) (hl : l = orderP T) (hcp : T.n ≤ cp) (hi : i < T.n) (hw : w < 64) (hbits : ∀ b, b < 8 → w.testBit b = decide (b ∈ l.take i))
    (hgo : ∀ t' q w', Ext t t' → w' < 64 → (∀ b, b < 8 → w'.testBit b = decide (b ∈ l.take (i + 1))) → nx0 [.bool q, .int .i64 (w' : Nat), .int .i64 (IntKind.wrap .i64 ((i : Int) + 1))] t') :
    (IXS p T.n (i : Int) 1 fun a62 => RDI .i64 a62 fun n63 => BR (decide (n63 < 0)) (J_law10_RankOrder_3 W R true p cp i T.n nx0 ⟨za, 0, none⟩ za1 (w : Nat) n63 T.n b59)
      (RDI .i64 (Addr.add ⟨za, 0, none⟩ 0) fun n69 => J_law10_RankOrder_3 W R (decide (n63 ≥ n69)) p cp i T.n nx0 ⟨za, 0, none⟩ za1 (w : Nat) n63 T.n b59)) t := by
  have hn := men_n hok
  obtain ⟨np, n6, _, _⟩ := n_lim hok
  have hlen : l.length = T.n := by rw [hl]; exact order_len hok
  have hmem : ∀ b, b ∈ l ↔ b < T.n := fun b => by rw [hl]; exact order_mem hok b
  have hnd : l.Nodup := by rw [hl]; exact order_nodup hok
  have hil : i < l.length := by omega
  obtain ⟨hg1, hg2⟩ : (∀ b ∈ l.drop (i + 1), surT T b l[i] = false) ∧ ∀ b, b < l[i] → b ∈ l.drop i → ∃ c ∈ l.drop i, surT T c b = true := good_at l _ List.nodup_range (by rw [hl]; exact order_good hok) i hil
  have han : l[i] < T.n := (hmem _).1 (List.getElem_mem hil)
  generalize ha : l[i] = a at *
  obtain ⟨ad, had, g⟩ := row_int hr (show i < (natI l).length by rw [natI_len]; exact hil)
  rw [natI_getD hil, ha] at g
  subst had
  refine IXS_nat hi ⟨_, g, ?_⟩
  refine BR_ff (decide_eq_false (by omega)) ⟨_, (ta.ext et).men, ?_⟩
  unfold J_law10_RankOrder_3
  refine BR_ff (decide_eq_false (by omega)) (NNI_nat ?_)
  rw [bit_is w (by omega) a (by omega), hbits a (by omega)]
  have hdj : ∀ b, b ∈ l → (b ∈ l.take i ↔ ¬ b ∈ l.drop i) := fun b hb => by
    have h1 : l.take i ++ l.drop i = l := List.take_append_drop i l
    have h2 := hnd
    rw [← h1, List.nodup_append] at h2
    constructor
    · intro h3 h4; exact h2.2.2 b h3 b h4 rfl
    · intro h3
      rw [← h1] at hb
      rcases List.mem_append.1 hb with h4 | h4
      · exact h4
      · exact absurd h4 h3
  have hna : ¬ a ∈ l.take i := fun h => (hdj a ((hmem a).2 han)).1 h (by rw [List.drop_eq_getElem_cons hil, ha]; simp)
  unfold J_law10_RankOrder_2
  refine BR_ff (decide_eq_false hna) ?_
  have hw1 : IntKind.wrap .i64 ((i : Int) + 1) = ((i + 1 : Nat) : Int) := wrap_succ (by omega)
  rw [hw1]
  refine SLS_row hr (by rw [natI_len]; omega) (by omega) hcp fun x' c' hr1 => ?_
  rw [natI_drop] at hr1
  have hdl : (l.drop (i + 1)).length = T.n - (i + 1) := by rw [List.length_drop]; omega
  refine L_law10_RankOrder_1_rule W R nx0 ⟨za, 0, none⟩ za1 (some ad) T.n cp w i a T.n x' (T.n - (i + 1)) c' (((T.n - (i + 1) : Nat) : Int)) (fun _ n u => Ext t u ∧ ∃ k : Nat, k ≤ T.n - (i + 1) ∧ n = k) (fun _ n _ => (((T.n - (i + 1) : Nat) : Int) - n).toNat) b59 0 t ⟨Ext.refl _, 0, by omega, rfl⟩ ?_
  rintro b84 n85 u ⟨eu, k, hk, rfl⟩
  unfold B_law10_RankOrder_1
  refine BR_dec (fun h1 => ?_) (fun h1 => ?_)
  · have hkl : k < (l.drop (i + 1)).length := by omega
    obtain ⟨ad', had', g'⟩ := row_int (hr1.ext eu) (show k < (natI (l.drop (i + 1))).length by rw [natI_len]; exact hkl)
    subst had'
    rw [natI_getD hkl] at g'
    refine IXS_nat (by omega) ⟨_, g', ?_⟩
    refine rdT (ta.ext (et.trans eu)) fun x c y c' hx hy => ?_
    have hbm := List.getElem_mem hkl
    refine c_BeforeN hok ((hmem _).1 (List.mem_of_mem_drop hbm)) han hlo hx hy fun v f => ?_
    try simp only [TUP_mk, AGG_mk, HD_mk, NL_mk, TYI_mk, TYB_mk, TYP_mk, TYL_mk, TYS_mk, TYM_mk, SO_mk, NX_mk, endK_mk, endK_mk', add_0]
    refine BR_ff rfl ?_
    unfold J_law10_RankOrder_4
    refine BR_ff (beq_eq_false_iff_ne.2 fun hh => by have := befN_two.1 hh; rw [hg1 _ hbm] at this; cases this) ?_
    exact ⟨rfl, _, _, rfl, ⟨eu.trans f, k + 1, by omega, wrap_succ (by omega)⟩, ms_succ (by omega) (by omega)⟩
  · refine L_law10_RankOrder_3_rule W R nx0 ⟨za, 0, none⟩ za1 (some ad) T.n cp w i a T.n (fun _ n v => Ext t v ∧ ∃ k : Nat, k ≤ a ∧ n = k) (fun _ n _ => ((a : Int) - n).toNat) b84 0 u ⟨eu, 0, by omega, rfl⟩ ?_
    rintro b122 n123 v ⟨ev, b, hb, rfl⟩
    unfold B_law10_RankOrder_3
    refine BR_dec (fun h2 => ?_) (fun h2 => ?_)
    · have hba : b < a := by omega
      have hbn : b < T.n := by omega
      refine NNI_nat ?_
      rw [bit_is w (by omega) b (by omega), hbits b (by omega)]
      refine BR_dec (fun h3 => ?_) (fun h3 => ?_)
      · exact ⟨rfl, _, _, rfl, ⟨ev, b + 1, by omega, wrap_succ (by omega)⟩, ms_succ (by omega) (by omega)⟩
      · refine SLS_row (hr.ext ev) (by rw [natI_len]; omega) (by omega) hcp fun x2 c2 hr2 => ?_
        rw [natI_drop] at hr2
        have hbd : b ∈ l.drop i := by
          by_cases hh : b ∈ l.drop i
          · exact hh
          · exact absurd ((hdj b ((hmem b).2 hbn)).2 hh) h3
        refine ord_5 hok hlo ta (et.trans ev) hbn hr2 (fun c hc => (hmem c).1 (List.mem_of_mem_drop hc)) (by rw [List.length_drop]; omega) (by omega) (hg2 b hba hbd) fun t' e' => ?_
        exact ⟨_, _, rfl, ⟨ev.trans e', b + 1, by omega, wrap_succ (by omega)⟩, ms_succ (by omega) (by omega)⟩
    · have hba : b = a := by omega
      refine NNI_nat ⟨rfl, ?_⟩
      rw [ori_eq w (by omega) a (by omega)]
      have hp : 2 ^ a < 2 ^ 6 := Nat.pow_lt_pow_right (by omega) (by omega)
      refine hgo v b122 (w ||| 2 ^ a) ev (Nat.or_lt_two_pow (n := 6) hw hp) fun b' hb' => ?_
      rw [Nat.testBit_or, hbits b' hb', Nat.testBit_two_pow, List.take_add_one, List.getElem?_eq_getElem hil, ha]
      simp only [Option.toList_some, List.mem_append, List.mem_singleton]
      rw [Bool.eq_iff_iff]
      simp only [Bool.or_eq_true, decide_eq_true_eq]
      constructor
      · rintro (h | h)
        · exact .inl h
        · exact .inr h.symm
      · rintro (h | h)
        · exact .inl h
        · exact .inr h.symm
end
end Go.Proofs.Ytkgcbfbbcaajpaa.G

/- The statement RankOrder: other numbers; no argument is changed. -/
set_option linter.unusedSimpArgs false
set_option linter.unusedVariables false
set_option maxRecDepth 20000
namespace Go.Proofs.Ytkgcbfbbcaajpaa.G
open Go.V
theorem row_scs {s : Hp} {y : Option Addr} {l : List Sc} (h : ScAt s y l) : RowAt s y (scs l) := fun i hi => by
  rw [scs_len] at hi
  have hq : i / 4 < l.length := by omega
  obtain ⟨a, ha, g0, g1, g2, g3⟩ := h (i / 4) hq
  refine ⟨a, ha, ?_⟩
  obtain ⟨h0, h1, h2, h3⟩ := scs_get l (i / 4) hq
  have e : ∀ j v, j < 4 → i = i / 4 * 4 + j → (scs l)[i / 4 * 4 + j]? = some v → cellAt s ((a.add (i / 4 * 4)).add j) = some v → cellAt s (a.add (i * 1)) = some (scs l)[i] := fun j v hj hi' hv hc => by
    rw [← hi', List.getElem?_eq_getElem (by rw [scs_len]; omega)] at hv
    injection hv with hv
    rw [hv, ← hc, addr_add, Nat.mul_one, ← hi']
  have hr : i % 4 = 0 ∨ i % 4 = 1 ∨ i % 4 = 2 ∨ i % 4 = 3 := by omega
  rcases hr with hr | hr | hr | hr
  · exact e 0 _ (by omega) (by omega) h0 g0
  · exact e 1 _ (by omega) (by omega) h1 g1
  · exact e 2 _ (by omega) (by omega) h2 g2
  · exact e 3 _ (by omega) (by omega) h3 g3
theorem bit_val : ∀ w : Nat, w < 256 → ∀ n : Nat, n < 8 → andv .i64 (shrv .i64 (w : Int) (n : Int)) 1 = if w.testBit n then 1 else 0 := by
  have h : ((List.range 256).all fun (l : Nat) => (List.range 8).all fun (m : Nat) => decide (andv .i64 (shrv .i64 (l : Int) (m : Int)) 1 = if l.testBit m then 1 else 0)) = true := by decide +kernel
  intro w hl m hm
  have h1 := List.all_eq_true.1 h w (by simpa using hl)
  have h2 := List.all_eq_true.1 h1 m (by simpa using hm)
  exact of_decide_eq_true h2
section
variable {W : World} {K : VK} {E : List PanicEntry → Hp → Prop} {R : Ending → Hp → Prop} {s s1 t : Hp} {T : Tb} {za zu B u : Nat}
theorem c_number {n m : Nat} (hn : 0 < n) (hn6 : n ≤ 6) (hm : m < n) (hu : u < 256) (hzu : cellAt s ⟨zu, 0, none⟩ = some (.int .u8 (u : Nat))) (hza : cellAt s (Addr.add ⟨za, 0, none⟩ 0) = some (.int .i64 (n : Nat))) (h : K (.int .i64 (num n u m : Nat)) s) :
    CALLV Pg W (.func (.func 43) #[] #[.pointer (some ⟨zu, 0, none⟩), .pointer (some ⟨za, 0, none⟩)]) [.int .i64 (m : Nat)] K E s := by
  refine CALLV_func ?_
  refine does_law10_RankOrder_c1 W m ⟨zu, 0, none⟩ ⟨za, 0, none⟩ _ s ?_
  unfold T_law10_RankOrder_c1
  refine ⟨_, hzu, _, hza, NZI_pos (by omega) ?_⟩
  have hw : IntKind.wrap .i64 ((m : Int) + IntKind.wrap .i64 (u : Int)) = ((m + u : Nat) : Int) := by rw [wrap_i64 (n := (u : Int)) (by omega) (by omega), wrap_i64 (by omega) (by omega)]; omega
  rw [hw]
  exact h
theorem copy_sc {C l' : Nat} {y : Option Addr} {l : List Sc} {KK : Option Addr → Nat → Nat → Hp → Prop} (hC : s1.size ≤ C) (et : Ext s1 s) (hy : ScAt s y l) (hl : l' = l.length) (hl8 : l.length ≤ 1000)
    (hK : ∀ s' x' c', Ext s1 s' → Kp (· = C) s s' → ScAt s' x' l → (∀ a, x' = some a → a.block = C ∨ s.size ≤ a.block) → KK x' l.length c' s') : APP Pg 55 4 (some ⟨C, 0, none⟩) 0 0 y l' KK s := by
  subst hl
  have hfr : Fr s1.size s (some ⟨C, 0, none⟩) 0 0 4 [] := ⟨⟨Nat.le_refl _, fun i hi => by omega⟩, rfl, fun a ha => by cases ha; exact hC, by omega⟩
  refine APP_fr (ws := scs l) hfr et.1 (row_scs hy) (scs_len l) zc_55 rfl (by omega) (scs_one _) (by omega) fun s' x' c' k g f => ?_
  rw [Nat.zero_add, List.nil_append] at *
  have k' : Kp (· = C) s s' := k.mono fun b ⟨a, ha, hb⟩ => by cases ha; exact hb.symm
  refine hK s' x' c' (ext_kp et hC k') k' (scAt_row f.row) fun a ha => ?_
  rcases g a ha with ⟨a', h1, h2⟩ | h1
  · cases h1; exact .inl h2.symm
  · exact .inr h1
theorem copy_ints {C l' : Nat} {y : Option Addr} {l : List Int} {KK : Option Addr → Nat → Nat → Hp → Prop} (hC : s1.size ≤ C) (et : Ext s1 s) (hy : RowAt s y (ints l)) (hl : l' = l.length) (hl8 : l.length ≤ 1000)
    (hK : ∀ s' x' c', Ext s1 s' → Kp (· = C) s s' → RowAt s' x' (ints l) → KK x' l.length c' s') : APP Pg 3 1 (some ⟨C, 0, none⟩) 0 0 y l' KK s := by
  subst hl
  have hfr : Fr s1.size s (some ⟨C, 0, none⟩) 0 0 1 [] := ⟨⟨Nat.le_refl _, fun i hi => by omega⟩, rfl, fun a ha => by cases ha; exact hC, by omega⟩
  refine APP_fr (ws := ints l) hfr et.1 hy (by rw [ints_len]; omega) zc_3 rfl (by omega) (ints_one _) (by omega) fun s' x' c' k g f => ?_
  rw [Nat.zero_add, List.nil_append] at *
  have k' : Kp (· = C) s s' := k.mono fun b ⟨a, ha, hb⟩ => by cases ha; exact hb.symm
  exact hK s' x' c' (ext_kp et hC k') k' f.row
/-- The comparisons of the two tables. -/
theorem ord_J5 {zb : Bool} {xs xo : Option Addr} {cs co : Nat} (hok : okT T = true) (hlo : T.off.length ≤ 100000) (hu : u < 256) (ta : TbA s1 ⟨za, 0, none⟩ T) (hzu : cellAt s1 ⟨zu, 0, none⟩ = some (.int .u8 (u : Nat))) (et : Ext s1 t) (tx : TbA t ⟨B, 0, none⟩ (renT T u)) (hs : ScAt t xs T.sc) (ho : RowAt t xo (ints T.off))
    (aw : ∀ t, Ext s1 t → CALL Pg W F_law10_awake [] (fun v => TYB v fun b => R (.returned (.bool b))) (fun e => R (.panicked e)) t) :
    J_law10_RankOrder_5 W R ⟨za, 0, none⟩ ⟨B, 0, none⟩ ⟨zu, 0, none⟩ xs T.sc.length cs xo T.off.length co zb t := by
  have hn := men_n hok
  have vd := okT_vd hok
  obtain ⟨np, n6, _, _⟩ := n_lim hok
  obtain ⟨_, _, _, _, h30, _⟩ := okT_iff.1 hok
  have okX := renT_ok (u := u) hok
  have hloX : (renT T u).off.length ≤ 100000 := by show ((List.range T.n).map _).length ≤ _; simp; omega
  have hXn : (renT T u).n = T.n := rfl
  have cm : ∀ {t}, Ext s1 t → cellAt t (Addr.add ⟨za, 0, none⟩ 0) = some (.int .i64 (T.n : Nat)) := fun e => by rw [hn]; exact (ta.ext e).men
  unfold J_law10_RankOrder_5
  refine rdT (ta.ext et) fun x c y c' hx hy => ?_
  refine c_WinnersN hok hlo hx hy fun t1 f1 => ?_
  try simp only [TUP_mk, AGG_mk, HD_mk, NL_mk, TYI_mk, TYB_mk, TYP_mk, TYL_mk, TYS_mk, TYM_mk, SO_mk, NX_mk, endK_mk, endK_mk', add_0]
  refine rdT (tx.ext f1) fun x c y c' hx hy => ?_
  refine c_WinnersN okX hloX hx hy fun t2 f2 => ?_
  try simp only [TUP_mk, AGG_mk, HD_mk, NL_mk, TYI_mk, TYB_mk, TYP_mk, TYL_mk, TYS_mk, TYM_mk, SO_mk, NX_mk, endK_mk, endK_mk', add_0]
  have f12 := f1.trans f2
  refine BR_ff rfl ?_
  have e2 := et.trans f12
  refine ⟨_, cm e2, ?_⟩
  have hsl := setOf_lt (surF T) T.n
  have hcl := setOf_lt (canF T) T.n
  have hsl' : setOf' (surF (renT T u)) (renT T u).n < 2 ^ T.n := setOf_lt (surF (renT T u)) T.n
  have hcl' : setOf' (canF (renT T u)) (renT T u).n < 2 ^ T.n := setOf_lt (canF (renT T u)) T.n
  have h64 : 2 ^ T.n ≤ 2 ^ 6 := Nat.pow_le_pow_right (by omega) n6
  generalize hSV : setOf' (surF T) T.n = SV at *
  generalize hCV : setOf' (canF T) T.n = CV at *
  generalize hSW : setOf' (surF (renT T u)) (renT T u).n = SW at *
  generalize hCW : setOf' (canF (renT T u)) (renT T u).n = CW at *
  refine L_law10_RankOrder_6_rule W R ⟨za, 0, none⟩ ⟨zu, 0, none⟩ ⟨B, 0, none⟩ xs T.sc.length cs xo T.off.length co SV CV SW CW T.n (fun _ n v => Ext t2 v ∧ ∃ k : Nat, k ≤ T.n ∧ n = k) (fun _ n _ => (T.n - n).toNat) zb 0 t2 ⟨Ext.refl _, 0, by omega, rfl⟩ ?_
  rintro b300 n301 v ⟨ev, m, hm, rfl⟩
  have e1v := e2.trans ev
  have txv := tx.ext (f12.trans ev)
  unfold B_law10_RankOrder_6
  refine BR_dec (fun h1 => ?_) (fun h1 => ?_)
  · have hmn : m < T.n := by omega
    have hnm := num_lt (u := u) (m := m) np
    have hn0 := num_lt (u := u) (m := 0) np
    have cn : ∀ {v' : Hp} (m' : Nat) (KK : VK) (EE : List PanicEntry → Hp → Prop), Ext s1 v' → m' < T.n → KK (.int .i64 (num T.n u m' : Nat)) v' → CALLV Pg W (.func (.func 43) #[] #[.pointer (some ⟨zu, 0, none⟩), .pointer (some ⟨za, 0, none⟩)]) [.int .i64 (m' : Nat)] KK EE v' := fun m' KK EE e hm' hh => c_number np n6 hm' hu (e.cell hzu) (cm e) hh
    refine rdT (ta.ext e1v) fun x c y c' hx hy => ?_
    refine c_PlaceN hok hmn hlo hx hy fun v1 g1 => ?_
    try simp only [TUP_mk, AGG_mk, HD_mk, NL_mk, TYI_mk, TYB_mk, TYP_mk, TYL_mk, TYS_mk, TYM_mk, SO_mk, NX_mk, endK_mk, endK_mk', add_0]
    refine nw2 zc_29 rfl rfl fun v2 g2 _ p0 p1 => ?_
    have g12 := g1.trans g2
    have e1v2 := e1v.trans g12
    obtain ⟨x0, c0, y0, c0', r1, r2, r3, r4, hx0, hy0⟩ := (txv.ext g12).all
    refine ⟨_, r1, _, r2, _, _, _, r3, _, _, _, r4, ?_⟩
    -- behind the place with the other number
    have main : ∀ (v3 : Hp) (C : Nat), Ext v2 v3 → cellAt v3 ⟨C, 0, none⟩ = some (.int .i64 (plcT T m).1) → cellAt v3 ⟨C, 1, none⟩ = some (.int .i64 (plcT T m).2) → J_law10_RankOrder_13 W R ⟨za, 0, none⟩ m ⟨B, 0, none⟩ ⟨zu, 0, none⟩ v1.size (some ⟨C, 0, none⟩) xs T.sc.length cs xo T.off.length co SV CV SW CW T.n (fun vs => N_law10_RankOrder_6 (fun _ n v => Ext t2 v ∧ ∃ k : Nat, k ≤ T.n ∧ n = k) (fun _ n _ => (T.n - n).toNat) b300 m v vs) b300 0 0 v3 := by
      intro v3 C g3 q0 q1
      have e1v3 := e1v2.trans g3
      unfold J_law10_RankOrder_13
      refine rdT (ta.ext e1v3) fun x c y c' hx hy => ?_
      refine c_BeforeN (b := 0) hok hmn np hlo hx hy fun v4 g4 => ?_
      try simp only [TUP_mk, AGG_mk, HD_mk, NL_mk, TYI_mk, TYB_mk, TYP_mk, TYL_mk, TYS_mk, TYM_mk, SO_mk, NX_mk, endK_mk, endK_mk', add_0]
      have e1v4 := e1v3.trans g4
      have g34 := g3.trans g4
      refine ⟨_, g34.cell r1, _, g34.cell r2, _, _, _, g34.cell r3, _, _, _, g34.cell r4, ?_⟩
      refine cn m _ _ e1v4 hmn ?_
      try simp only [TUP_mk, AGG_mk, HD_mk, NL_mk, TYI_mk, TYB_mk, TYP_mk, TYL_mk, TYS_mk, TYM_mk, SO_mk, NX_mk, endK_mk, endK_mk', add_0]
      refine ⟨⟨_, g34.cell r1, _, g34.cell r2, _, _, _, g34.cell r3, _, _, _, g34.cell r4, rfl⟩, ?_⟩
      refine cn 0 _ _ e1v4 np ?_
      try simp only [TUP_mk, AGG_mk, HD_mk, NL_mk, TYI_mk, TYB_mk, TYP_mk, TYL_mk, TYS_mk, TYM_mk, SO_mk, NX_mk, endK_mk, endK_mk', add_0]
      refine ⟨⟨_, g34.cell r1, _, g34.cell r2, _, _, _, g34.cell r3, _, _, _, g34.cell r4, rfl⟩, ?_⟩
      refine c_BeforeN okX hnm hn0 hloX (hx0.ext g34) (hy0.ext g34) fun v5 g5 => ?_
      try simp only [TUP_mk, AGG_mk, HD_mk, NL_mk, TYI_mk, TYB_mk, TYP_mk, TYL_mk, TYS_mk, TYM_mk, SO_mk, NX_mk, endK_mk, endK_mk', add_0]
      have e1v5 := e1v4.trans g5
      have g35 := g34.trans g5
      refine ⟨_, g35.cell p0.cell, _, g35.cell p1.cell, _, (g4.trans g5).cell q0, _, (g4.trans g5).cell q1, ?_⟩
      refine BR_ff (by rw [beq_self_eq_true, beq_self_eq_true]; rfl) ?_
      have hbe := renT_bef (u := u) hok hmn np
      simp only [J_law10_RankOrder_12, J_law10_RankOrder_11, bne_self_eq_false, BR_f, hbe]
      unfold J_law10_RankOrder_10
      rw [BR_f]
      have hbS : (andv .i64 (shrv .i64 (SV : Int) (m : Int)) 1 != andv .i64 (shrv .i64 (SW : Int) ((num T.n u m : Nat) : Int)) 1) = false := by
        rw [bit_val SV (by omega) m (by omega), bit_val SW (by omega) _ (by omega), ← hSV, ← hSW, setOf_bit, setOf_bit, decide_eq_true hmn, decide_eq_true (show num T.n u m < (renT T u).n from hnm), Bool.true_and, Bool.true_and, (renT_win hok hmn).1, bne_self_eq_false]
      have hbC : (andv .i64 (shrv .i64 (CV : Int) (m : Int)) 1 != andv .i64 (shrv .i64 (CW : Int) ((num T.n u m : Nat) : Int)) 1) = false := by
        rw [bit_val CV (by omega) m (by omega), bit_val CW (by omega) _ (by omega), ← hCV, ← hCW, setOf_bit, setOf_bit, decide_eq_true hmn, decide_eq_true (show num T.n u m < (renT T u).n from hnm), Bool.true_and, Bool.true_and, (renT_win hok hmn).2, bne_self_eq_false]
      refine NNI_nat ?_
      refine cn m _ _ e1v5 hmn ?_
      try simp only [TUP_mk, AGG_mk, HD_mk, NL_mk, TYI_mk, TYB_mk, TYP_mk, TYL_mk, TYS_mk, TYM_mk, SO_mk, NX_mk, endK_mk, endK_mk', add_0]
      refine NNI_nat ?_
      rw [hbS]
      unfold J_law10_RankOrder_9
      rw [BR_f]
      refine NNI_nat ?_
      refine cn m _ _ e1v5 hmn ?_
      try simp only [TUP_mk, AGG_mk, HD_mk, NL_mk, TYI_mk, TYB_mk, TYP_mk, TYL_mk, TYS_mk, TYM_mk, SO_mk, NX_mk, endK_mk, endK_mk', add_0]
      refine NNI_nat ?_
      rw [hbC]
      unfold J_law10_RankOrder_8
      rw [BR_f]
      have hml : m < T.off.length := by rw [vd.len]; exact hmn
      obtain ⟨ad, had, k1⟩ := row_int (ho.ext (f12.trans (ev.trans (g12.trans g35)))) hml
      subst had
      obtain ⟨x5, c5, y5, c5', i1, i2, i3, i4, hx5, hy5⟩ := (ta.ext e1v5).all
      obtain ⟨ad', had', k2⟩ := row_int hx5 hml
      subst had'
      refine IXS_nat hml ⟨_, k1, _, _, _, i3, IXS_nat hml ⟨_, k2, ?_⟩⟩
      unfold J_law10_RankOrder_7
      refine BR_ff (bne_self_eq_false _) ?_
      exact ⟨rfl, _, _, rfl, ⟨ev.trans (g12.trans g35), m + 1, by omega, wrap_succ (by omega)⟩, ms_succ hmn (by omega)⟩
    have hpe := renT_plc (u := u) hok hmn
    refine CONJ_more ?_ (CONJ_one ?_)
    · refine cn m _ _ e1v2 hmn ?_
      try simp only [TUP_mk, AGG_mk, HD_mk, NL_mk, TYI_mk, TYB_mk, TYP_mk, TYL_mk, TYS_mk, TYM_mk, SO_mk, NX_mk, endK_mk, endK_mk', add_0]
      refine ⟨⟨_, r1, _, r2, _, _, _, r3, _, _, _, r4, rfl⟩, CONJ_more ?_ (CONJ_one ?_)⟩
      · refine c_PlaceN okX hnm hloX hx0 hy0 fun v3 g3 => ?_
        rw [hpe]
        try simp only [TUP_mk, AGG_mk, HD_mk, NL_mk, TYI_mk, TYB_mk, TYP_mk, TYL_mk, TYS_mk, TYM_mk, SO_mk, NX_mk, endK_mk, endK_mk', add_0]
        refine nz2 zc_29 fun v4 g4 z4 o0 o1 => ?_
        have g34 := g3.trans g4
        refine ⟨⟨_, g34.cell r1, _, g34.cell r2, _, _, _, g34.cell r3, _, _, _, g34.cell r4, rfl⟩, ?_⟩
        refine wr2 rfl rfl (new2' o0 o1) fun v5 k5 z5 q0 q1 => ?_
        exact main v5 v3.size (ext_kp g34 g3.1 k5) q0.cell q1.cell
      · refine nz2 zc_29 fun v4 g4 z4 o0 o1 => ?_
        refine ⟨⟨_, g4.cell r1, _, g4.cell r2, _, _, _, g4.cell r3, _, _, _, g4.cell r4, rfl⟩, ?_⟩
        refine c_PlaceN okX hnm hloX (hx0.ext g4) (hy0.ext g4) fun v3 g3 => ?_
        rw [hpe]
        try simp only [TUP_mk, AGG_mk, HD_mk, NL_mk, TYI_mk, TYB_mk, TYP_mk, TYL_mk, TYS_mk, TYM_mk, SO_mk, NX_mk, endK_mk, endK_mk', add_0]
        refine wr2 rfl rfl (new2' (g3.own o0) (g3.own o1)) fun v5 k5 z5 q0 q1 => ?_
        exact main v5 v2.size (ext_kp (g4.trans g3) (Nat.le_refl _) k5) q0.cell q1.cell
    · refine nz2 zc_29 fun v4 g4 z4 o0 o1 => ?_
      refine ⟨⟨_, g4.cell r1, _, g4.cell r2, _, _, _, g4.cell r3, _, _, _, g4.cell r4, rfl⟩, ?_⟩
      refine cn m _ _ (e1v2.trans g4) hmn ?_
      try simp only [TUP_mk, AGG_mk, HD_mk, NL_mk, TYI_mk, TYB_mk, TYP_mk, TYL_mk, TYS_mk, TYM_mk, SO_mk, NX_mk, endK_mk, endK_mk', add_0]
      refine ⟨⟨_, g4.cell r1, _, g4.cell r2, _, _, _, g4.cell r3, _, _, _, g4.cell r4, rfl⟩, ?_⟩
      refine c_PlaceN okX hnm hloX (hx0.ext g4) (hy0.ext g4) fun v3 g3 => ?_
      rw [hpe]
      try simp only [TUP_mk, AGG_mk, HD_mk, NL_mk, TYI_mk, TYB_mk, TYP_mk, TYL_mk, TYS_mk, TYM_mk, SO_mk, NX_mk, endK_mk, endK_mk', add_0]
      refine wr2 rfl rfl (new2' (g3.own o0) (g3.own o1)) fun v5 k5 z5 q0 q1 => ?_
      exact main v5 v2.size (ext_kp (g4.trans g3) (Nat.le_refl _) k5) q0.cell q1.cell
  · -- the scores are what they were
    refine L_law10_RankOrder_7_rule W R ⟨za, 0, none⟩ xs T.sc.length cs T.sc.length (fun _ n w => Ext v w ∧ ∃ k : Nat, k ≤ T.sc.length ∧ n = k) (fun _ n _ => (T.sc.length - n).toNat) b300 0 v ⟨Ext.refl _, 0, by omega, rfl⟩ ?_
    rintro b530 n531 w ⟨ew, k, hk, rfl⟩
    have e1w := e1v.trans ew
    unfold B_law10_RankOrder_7
    refine BR_dec (fun h2 => ?_) (fun h2 => aw w e1w)
    have hkl : k < T.sc.length := by omega
    obtain ⟨ad, had, d0, d1, d2, d3⟩ := (hs.ext (f12.trans (ev.trans ew))) k hkl
    subst had
    obtain ⟨x5, c5, y5, c5', i1, i2, i3, i4, hx5, hy5⟩ := (ta.ext e1w).all
    obtain ⟨ad', had', k0, k1, k2, k3⟩ := hy5 k hkl
    subst had'
    refine IXS_nat hkl ⟨_, d0, _, d1, _, d2, _, d3, _, _, _, i4, IXS_nat hkl ⟨_, k0, _, k1, _, k2, _, k3, ?_⟩⟩
    refine BR_ff (by simp) ?_
    exact ⟨rfl, _, _, rfl, ⟨ew, k + 1, by omega, wrap_succ (by omega)⟩, ms_succ hkl (by omega)⟩
end
end Go.Proofs.Ytkgcbfbbcaajpaa.G

/- The statement RankOrder. -/
set_option linter.unusedSimpArgs false
set_option linter.unusedVariables false
set_option maxRecDepth 20000
namespace Go.Proofs.Ytkgcbfbbcaajpaa.G
open Go.V
section
variable {W : World} {K : VK} {E : List PanicEntry → Hp → Prop} {s : Hp} {T : Tb}
theorem w_RankOrder {x y : Option Addr} {c c' u : Nat} (hu : u < 256) (hx : RowAt s x (ints T.off)) (hy : ScAt s y T.sc) (h : ∀ s', Ext s s' → K (.bool true) s') :
    CALL Pg W F_law10_RankOrder [.agg #[.int .i64 T.men, .int .i64 T.sheets, .slice x T.off.length c, .slice y T.sc.length c'], .int .u8 u] K E s := by
  refine does_law10_RankOrder W T.men T.sheets x T.off.length c y T.sc.length c' u _ s ?_
  unfold T_law10_RankOrder
  refine NEW_rule fun s0 e0 z0 n0 _ => ?_
  refine ne1 fun s1 e01 z01 ou => ?_
  have e1 := e0.trans e01
  have ta := (tbA_new e0 hx hy n0).ext e01
  generalize hzu : s0.size = zu at *
  refine rdT ta fun x c y c' hx hy => ?_
  refine c_far fun s2 b e2 hb => ?_
  try simp only [TUP_mk, AGG_mk, HD_mk, NL_mk, TYI_mk, TYB_mk, TYP_mk, TYL_mk, TYS_mk, TYM_mk, SO_mk, NX_mk, endK_mk, endK_mk', add_0]
  have aw : ∀ t, Ext s1 t → CALL Pg W F_law10_awake [] (fun v => TYB v fun b => endK K E (.returned (.bool b))) (fun e => endK K E (.panicked e)) t := fun t et => c_awake' et fun t2 e => h t2 (e1.trans e)
  have fin : ∀ t, Ext s1 t → J_law10_RankOrder_1 W (endK K E) true s.size zu t := fun t et => by
    unfold J_law10_RankOrder_1
    rw [BR_t]
    exact aw t et
  refine BR_bool (fun _ => fin s2 e2) (fun hf => ?_)
  have hlo : T.off.length ≤ 100000 := by have := hb hf; omega
  refine rdT (ta.ext e2) fun x c y c' hx hy => ?_
  refine f_Table hx hy hlo fun s3 e3 => ?_
  try simp only [TUP_mk, AGG_mk, HD_mk, NL_mk, TYI_mk, TYB_mk, TYP_mk, TYL_mk, TYS_mk, TYM_mk, SO_mk, NX_mk, endK_mk, endK_mk', add_0]
  have e13 := e2.trans e3
  cases hok : okT T with
  | false => exact fin s3 e13
  | true =>
    have hn := men_n hok
    have vd := okT_vd hok
    obtain ⟨np, n6, _, _⟩ := n_lim hok
    obtain ⟨_, _, _, _, h30, g6, g7⟩ := okT_iff2.1 hok
    have hoff : T.off.length = T.n := vd.len
    unfold J_law10_RankOrder_1
    rw [Bool.not_true, BR_f]
    refine rdT (ta.ext e13) fun x c y c' hx hy => ?_
    refine c_Order hx hy hlo fun s4 p cp e4 hp hcp => ?_
    have hor : orderR T = (orderP T, 0) := by unfold orderR; rw [if_pos hok]
    rw [hor] at hp hcp
    rw [hor]
    try simp only [TUP_mk, AGG_mk, HD_mk, NL_mk, TYI_mk, TYB_mk, TYP_mk, TYL_mk, TYS_mk, TYM_mk, SO_mk, NX_mk, endK_mk, endK_mk', add_0]
    have hol := order_len hok
    have e14 := e13.trans e4
    refine BR_ff rfl ⟨_, (ta.ext e14).men, ?_⟩
    unfold J_law10_RankOrder_0
    have hbn : (((orderP T).length : Int) != T.men) = false := by rw [hol, hn, bne_self_eq_false]
    refine BR_ff hbn ?_
    dsimp only at hcp ⊢
    rw [hol] at hcp ⊢
    refine L_law10_RankOrder_0_rule W _ ⟨s.size, 0, none⟩ ⟨zu, 0, none⟩ p T.n cp T.n (fun _ w n t => Ext s4 t ∧ ∃ i w' : Nat, i ≤ T.n ∧ n = i ∧ w = w' ∧ w' < 64 ∧ ∀ b, b < 8 → w'.testBit b = decide (b ∈ (orderP T).take i)) (fun _ _ n _ => (T.n - n).toNat) false 0 0 s4 ⟨Ext.refl _, 0, 0, by omega, rfl, rfl, by omega, fun b _ => by simp⟩ ?_
    rintro b59 n60 n61 t ⟨et, i, w, hi, rfl, rfl, hw, hbits⟩
    have e1t := e14.trans et
    unfold B_law10_RankOrder_0
    refine BR_dec (fun h1 => ?_) (fun h1 => ?_)
    · have hin : i < T.n := by omega
      refine ord_round hok hlo ta e1t (hp.ext et) rfl hcp hin hw hbits fun t' q w' e' hw' hb' => ?_
      exact ⟨_, _, _, rfl, ⟨et.trans e', i + 1, w', by omega, wrap_succ (by omega), rfl, hw', hb'⟩, ms_succ hin (by omega)⟩
    · -- other numbers
      obtain ⟨x0, c0, y0, c0', g1, g2, g3, g4, hx0, hy0⟩ := ta.all
      refine ⟨_, e1t.cell g1, _, e1t.cell g2, _, _, _, e1t.cell g3, _, _, _, e1t.cell g4, ?_⟩
      refine nw4 zc_25 rfl rfl rfl rfl fun t1 f1 z1 o0 o1 o2 o3 => ?_
      generalize hB : t.size = B at *
      have e1t1 := e1t.trans f1
      refine ⟨_, e1t1.cell g1, ?_⟩
      rw [← hn]
      refine MKS_rule zc_3 (by omega) fun t2 f2 z2 hz => ?_
      rw [Int.toNat_natCast]
      generalize hC : t1.size = C at *
      have hBC : B ≠ C := by omega
      refine WR_own (a := ⟨B, 2, none⟩) (f2.own o2) rfl ?_
      refine WR_own (a := ⟨B, 3, none⟩) (own_set_ne (.inr (by show (3 : Nat) ≠ 2; decide)) (f2.own o3)) rfl ?_
      generalize ht3 : setC (setC t2 ⟨B, 2, none⟩ (.slice (some ⟨C, 0, none⟩) T.n T.n)) ⟨B, 3, none⟩ (.slice none 0 0) = t3
      have k3 : Kp (· = B) t2 t3 := by rw [← ht3]; exact Kp.setC (C := (· = B)) (Kp.setC (C := (· = B)) (Kp.refl _) (.inl rfl)) (.inl rfl)
      have hlB : s1.size ≤ B := by have := e1t.1; omega
      have e1t2 := e1t1.trans f2
      have e1t3 : Ext s1 t3 := ext_kp e1t2 hlB k3
      have q0 : Own t3 ⟨B, 0, none⟩ (.int .i64 T.men) := by rw [← ht3]; exact own_set_ne (.inr (by show (0 : Nat) ≠ 3; decide)) (own_set_ne (.inr (by show (0 : Nat) ≠ 2; decide)) (f2.own o0))
      have q1 : Own t3 ⟨B, 1, none⟩ (.int .i64 T.sheets) := by rw [← ht3]; exact own_set_ne (.inr (by show (1 : Nat) ≠ 3; decide)) (own_set_ne (.inr (by show (1 : Nat) ≠ 2; decide)) (f2.own o1))
      have q2 : Own t3 ⟨B, 2, none⟩ (.slice (some ⟨C, 0, none⟩) T.n T.n) := by rw [← ht3]; exact own_set_ne (.inr (by show (2 : Nat) ≠ 3; decide)) (own_set (f2.own o2))
      have q3 : Own t3 ⟨B, 3, none⟩ (.slice none 0 0) := by rw [← ht3]; exact own_set (own_set_ne (.inr (by show (3 : Nat) ≠ 2; decide)) (f2.own o3))
      have hz3 : ∀ j, j < T.n → Own t3 ⟨C, j, none⟩ (.int .i64 0) := fun j hj => k3.own (fun hh => hBC (by have : C = B := hh; exact this.symm)) (hz j hj)
      refine ⟨_, _, _, e1t3.cell g3, ?_⟩
      have hCs : s1.size ≤ C := by have := f1.1; omega
      have cn : ∀ {v' : Hp} (m' : Nat) (KK : VK) (EE : List PanicEntry → Hp → Prop), Ext s1 v' → m' < T.n → KK (.int .i64 (num T.n u m' : Nat)) v' → CALLV Pg W (.func (.func 43) #[] #[.pointer (some ⟨zu, 0, none⟩), .pointer (some ⟨s.size, 0, none⟩)]) [.int .i64 (m' : Nat)] KK EE v' := fun m' KK EE e hm' hh => c_number np n6 hm' hu (e.cell ou.cell) (by rw [hn]; exact (ta.ext e).men) hh
      -- what is taken off
      refine L_law10_RankOrder_2_rule W _ ⟨s.size, 0, none⟩ b59 ⟨zu, 0, none⟩ ⟨B, 0, none⟩ x0 T.off.length c0 T.off.length (fun n v => Kp (· = C) t3 v ∧ ∃ k : Nat, k ≤ T.n ∧ n = k ∧ ∀ j, j < T.n → Own v ⟨C, j, none⟩ (.int .i64 (if inu T.n u j < k then offT T (inu T.n u j) else 0))) (fun n _ => (T.off.length - n).toNat) 0 t3 ⟨Kp.refl _, 0, by omega, rfl, fun j hj => by rw [if_neg (by omega)]; exact hz3 j hj⟩ ?_
      rintro n106 v ⟨kv, k, hk, rfl, hown⟩
      have e1v : Ext s1 v := ext_kp e1t3 hCs kv
      have nB : ∀ i, ¬ (⟨B, i, none⟩ : Addr).block = C := fun i hh => hBC hh
      have q2v := kv.own (nB 2) q2
      unfold B_law10_RankOrder_2
      refine BR_dec (fun h2 => ?_) (fun h2 => ?_)
      · have hkn : k < T.n := by omega
        obtain ⟨ad, had, k1⟩ := row_int (hx0.ext e1v) (show k < T.off.length by omega)
        subst had
        refine IXS_nat (by omega) ⟨_, k1, _, _, _, q2v.cell, ?_⟩
        refine cn k _ _ e1v hkn ?_
        try simp only [TUP_mk, AGG_mk, HD_mk, NL_mk, TYI_mk, TYB_mk, TYP_mk, TYL_mk, TYS_mk, TYM_mk, SO_mk, NX_mk, endK_mk, endK_mk', add_0]
        refine ⟨⟨_, _, _, q2v.cell, rfl⟩, ?_⟩
        have hnk := num_lt (u := u) (m := k) np
        refine IXS_nat hnk ?_
        rw [add_nil, Nat.zero_add, Nat.mul_one]
        refine WR_own (a := ⟨C, num T.n u k, none⟩) (hown _ hnk) rfl ?_
        refine ⟨_, rfl, ⟨Kp.setC kv (.inl rfl), k + 1, by omega, wrap_succ (by omega), fun j hj => ?_⟩, ms_succ (by omega) (by omega)⟩
        by_cases e : j = num T.n u k
        · subst e
          rw [inu_num hkn, if_pos (by omega)]
          exact own_set (hown _ hnk)
        · have hne : inu T.n u j ≠ k := fun e' => e (by rw [← e', num_inu hj])
          have := own_set_ne (a := ⟨C, num T.n u k, none⟩) (w := .int .i64 (T.off.getD k 0)) (.inr (by show j ≠ num T.n u k; exact e)) (hown j hj)
          by_cases h5 : inu T.n u j < k
          · rw [if_pos h5] at this; rw [if_pos (by omega)]; exact this
          · rw [if_neg h5] at this; rw [if_neg (by omega)]; exact this
      · have hkn : k = T.n := by omega
        subst hkn
        -- the scores
        let kp : List (Addr × Value) := (List.range T.n).map fun j => ((⟨C, j, none⟩ : Addr), (.int .i64 (offT T (inu T.n u j)) : Value))
        have hXl : (renT T u).off.length = T.n := by show ((List.range T.n).map _).length = _; simp
        have tb : TbB s1 v B (renT T u) [] kp noD (some ⟨C, 0, none⟩, T.n) := by
          refine ⟨e1v, hlB, kv.own (nB 0) q0, kv.own (nB 1) q1, ⟨by rw [hXl]; exact q2v, .inr fun i hi => ?_⟩, none, 0, kv.own (nB 3) q3, Fr.nil _ _ _, (fun a ha => by cases ha), (fun p hp => ?_), fun q hq => hq.elim⟩
          · have hi' : i < T.n := by rw [ints_len, hXl] at hi; exact hi
            refine ⟨_, rfl, ?_⟩
            rw [ints_get hi, add_nil, Nat.zero_add, Nat.mul_one]
            refine List.mem_map.2 ⟨i, List.mem_range.2 hi', ?_⟩
            rw [renT_get]
          · obtain ⟨j, hj, rfl⟩ := List.mem_map.1 hp
            have hj := List.mem_range.1 hj
            have := hown j hj
            rw [if_pos (inu_lt np)] at this
            exact ⟨this, fun hh => hBC (by have : C = B := hh; exact this.symm), fun a ha => by cases ha⟩
        refine ⟨_, _, _, e1v.cell g4, ?_⟩
        refine L_law10_RankOrder_4_rule W _ ⟨s.size, 0, none⟩ b59 ⟨zu, 0, none⟩ ⟨B, 0, none⟩ T.sc.length (fun n v' => ∃ k : Nat, k ≤ T.sc.length ∧ n = k ∧ TbB s1 v' B (renT T u) ((T.sc.reverse.take k).map (renS T.n u)) kp noD (some ⟨C, 0, none⟩, T.n)) (fun n _ => (T.sc.length - n).toNat) 0 v ⟨0, by omega, rfl, tb⟩ ?_
        rintro n127 v' ⟨k, hk, rfl, tbv⟩
        have ev' := tbv.ext
        unfold B_law10_RankOrder_4
        refine BR_dec (fun h3 => ?_) (fun h3 => ?_)
        · have hkl : k < T.sc.length := by omega
          have hwi : IntKind.wrap .i64 (IntKind.wrap .i64 ((T.sc.length : Int) - 1) - (k : Int)) = ((T.sc.length - 1 - k : Nat) : Int) := by rw [wrap_i64 (n := (T.sc.length : Int) - 1) (by omega) (by omega), wrap_i64 (by omega) (by omega)]; omega
          refine ⟨_, _, _, ev'.cell g4, _, _, _, ev'.cell g4, ?_⟩
          dsimp only
          rw [hwi]
          have hrl : T.sc.length - 1 - k < T.sc.length := by omega
          obtain ⟨ad, had, d0, d1, d2, d3⟩ := (hy0.ext ev') _ hrl
          subst had
          have hrev : T.sc.reverse[k]'(by rw [List.length_reverse]; exact hkl) = T.sc[T.sc.length - 1 - k] := by rw [List.getElem_reverse]
          generalize hq : T.sc[T.sc.length - 1 - k] = q at *
          have hqm : q ∈ T.sc := by rw [← hq]; exact List.getElem_mem _
          obtain ⟨hqs, _⟩ := g6 q hqm
          have hqn : q.man.toNat < T.n := by omega
          have hqi : q.man = ((q.man.toNat : Nat) : Int) := by omega
          refine IXS_nat hrl ⟨_, d0, _, d1, _, d2, _, d3, ?_⟩
          refine nw4 zc_55 rfl rfl rfl rfl fun w1 m1 _ p0 p1 p2 p3 => ?_
          have tb1 := tbv.after m1
          obtain ⟨yy, cy, r1, _⟩ := tb1.sc
          refine ⟨_, _, _, r1.cell, _, p0.cell, _, p1.cell, _, p2.cell, _, p3.cell, ?_⟩
          rw [hqi]
          refine cn q.man.toNat _ _ tb1.ext hqn ?_
          try simp only [TUP_mk, AGG_mk, HD_mk, NL_mk, TYI_mk, TYB_mk, TYP_mk, TYL_mk, TYS_mk, TYM_mk, SO_mk, NX_mk, endK_mk, endK_mk', add_0]
          refine ⟨⟨_, p2.cell, _, p3.cell, rfl⟩, ⟨⟨_, p1.cell, rfl⟩, ⟨⟨_, _, _, r1.cell, rfl⟩, ?_⟩⟩⟩
          refine ne4 fun w2 m2 _ d0' d1' d2' d3' => ?_
          have r2 := m2.cell r1.cell
          refine ⟨⟨_, _, _, r2, rfl⟩, ?_⟩
          refine (tb1.after m2).app (q := renS T.n u q) r2 d0'.cell d1'.cell d2'.cell d3'.cell (by rw [List.length_map, List.length_take]; omega) fun w3 _ tb3 => ?_
          refine ⟨_, rfl, ⟨k + 1, by omega, wrap_succ (by omega), ?_⟩, ms_succ hkl (by omega)⟩
          rw [List.take_add_one, List.getElem?_eq_getElem (by rw [List.length_reverse]; exact hkl), hrev, List.map_append]
          exact tb3
        · have hkl : k = T.sc.length := by omega
          subst hkl
          have htk : T.sc.reverse.take T.sc.length = T.sc.reverse := List.take_of_length_le (by simp)
          rw [htk] at tbv
          -- copies of what was given
          have tbx : ∀ {w : Hp}, TbB s1 w B (renT T u) (T.sc.reverse.map (renS T.n u)) kp noD (some ⟨C, 0, none⟩, T.n) → TbA w ⟨B, 0, none⟩ (renT T u) := fun h => h.tbA
          have g3v := ev'.cell g3
          have g4v := ev'.cell g4
          have h30' : T.sc.length ≤ 1000 := by omega
          have hoff' : T.off.length ≤ 1000 := by omega
          have stp : ∀ {w w' : Hp} {D : Nat → Prop} {b : Nat}, TbB s1 w B (renT T u) (T.sc.reverse.map (renS T.n u)) kp D (some ⟨C, 0, none⟩, T.n) → Ext w w' → w.size = b → w'.size = b + 1 → TbB s1 w' B (renT T u) (T.sc.reverse.map (renS T.n u)) kp (· = b) (some ⟨C, 0, none⟩, T.n) := by
            intro w w' D b h e hb hs
            exact h.step e.kp fun q hq => by
              have hq' : q = b := hq
              exact ⟨by omega, .inr (by omega)⟩
          have cg3 : ∀ {w : Hp}, Ext s1 w → cellAt w (Addr.add ⟨s.size, 0, none⟩ 2) = some (.slice x0 T.off.length c0) := fun e => e.cell g3
          have cg4 : ∀ {w : Hp}, Ext s1 w → cellAt w (Addr.add ⟨s.size, 0, none⟩ 3) = some (.slice y0 T.sc.length c0') := fun e => e.cell g4
          have hvs : s1.size ≤ v'.size := ev'.1
          refine ⟨_, _, _, g4v, _, _, _, g3v, CONJ_more ?_ (CONJ_one ?_)⟩
          · refine NEW_rule fun w1 m1 y1 _ _ => ?_
            have ew1 := ev'.trans m1
            have tb1 := stp tbv m1 rfl y1
            refine ⟨⟨_, _, _, cg3 ew1, rfl⟩, ⟨⟨_, _, _, cg4 ew1, rfl⟩, CONJ_more ?_ (CONJ_one ?_)⟩⟩
            · refine copy_sc hvs ew1 (hy0.ext ew1) rfl h30' fun w2 xs cs ew2 k2 hs2 hb2 => ?_
              have tb2 : TbB s1 w2 B (renT T u) (T.sc.reverse.map (renS T.n u)) kp noD (some ⟨C, 0, none⟩, T.n) := tb1.step k2 fun q hq => hq.elim
              refine ⟨⟨_, _, _, cg3 ew2, rfl⟩, ?_⟩
              refine NEW_rule fun w3 m3 y3 _ _ => ?_
              have ew3 := ew2.trans m3
              have tb3 := stp tb2 m3 rfl y3
              refine ⟨⟨_, _, _, cg3 ew3, rfl⟩, ⟨⟨_, _, _, cg4 ew3, rfl⟩, ?_⟩⟩
              refine copy_ints ew2.1 ew3 (hx0.ext ew3) rfl hoff' fun w4 xo co ew4 k4 hr4 => ?_
              have tb4 : TbB s1 w4 B (renT T u) (T.sc.reverse.map (renS T.n u)) kp noD (some ⟨C, 0, none⟩, T.n) := tb3.step k4 fun q hq => hq.elim
              refine ord_J5 hok hlo hu ta ou.cell ew4 (tbx tb4) (fun i hi => ?_) hr4 aw
              obtain ⟨a, ha, d0, d1, d2, d3⟩ := hs2 i hi
              have hlt := cell_lt d0
              rw [add_blk, add_blk] at hlt
              have hd : ∀ j, ¬ (((a.add (i * 4)).add j).block = w2.size) := fun j => by rw [add_blk, add_blk]; omega
              exact ⟨a, ha, k4.cell (hd 0) (m3.cell d0), k4.cell (hd 1) (m3.cell d1), k4.cell (hd 2) (m3.cell d2), k4.cell (hd 3) (m3.cell d3)⟩
            · refine NEW_rule fun w2 m2 y2 _ _ => ?_
              have ew2 := ew1.trans m2
              refine ⟨⟨_, _, _, cg3 ew2, rfl⟩, ⟨⟨_, _, _, cg4 ew2, rfl⟩, ?_⟩⟩
              have tb2 : TbB s1 w2 B (renT T u) (T.sc.reverse.map (renS T.n u)) kp (fun q => q = v'.size ∨ q = w1.size) (some ⟨C, 0, none⟩, T.n) := tbv.step (m1.trans m2).kp fun q hq => by
                rcases hq with hq | hq <;> exact ⟨by omega, .inr (by omega)⟩
              refine copy_sc hvs ew2 (hy0.ext ew2) rfl h30' fun w3 xs cs ew3 k3' hs3 hb3 => ?_
              have tb3 : TbB s1 w3 B (renT T u) (T.sc.reverse.map (renS T.n u)) kp (· = w1.size) (some ⟨C, 0, none⟩, T.n) := tb2.step (k3'.mono fun q hq => .inl hq) fun q hq => ⟨by have hq' : q = w1.size := hq; have := k3'.1; omega, .inl (.inr hq)⟩
              refine ⟨⟨_, _, _, cg3 ew3, rfl⟩, ?_⟩
              refine copy_ints ew1.1 ew3 (hx0.ext ew3) rfl hoff' fun w4 xo co ew4 k4 hr4 => ?_
              have tb4 : TbB s1 w4 B (renT T u) (T.sc.reverse.map (renS T.n u)) kp noD (some ⟨C, 0, none⟩, T.n) := tb3.step k4 fun q hq => hq.elim
              refine ord_J5 hok hlo hu ta ou.cell ew4 (tbx tb4) (fun i hi => ?_) hr4 aw
              obtain ⟨a, ha, d0, d1, d2, d3⟩ := hs3 i hi
              have hd : ∀ j, ¬ (((a.add (i * 4)).add j).block = w1.size) := fun j => by
                rw [add_blk, add_blk]
                rcases hb3 a ha with h5 | h5 <;> omega
              exact ⟨a, ha, k4.cell (hd 0) d0, k4.cell (hd 1) d1, k4.cell (hd 2) d2, k4.cell (hd 3) d3⟩
          · refine NEW_rule fun w1 m1 y1 _ _ => ?_
            have ew1 := ev'.trans m1
            refine ⟨⟨_, _, _, cg3 ew1, rfl⟩, ⟨⟨_, _, _, cg4 ew1, rfl⟩, ?_⟩⟩
            refine NEW_rule fun w2 m2 y2 _ _ => ?_
            have ew2 := ew1.trans m2
            refine ⟨⟨_, _, _, cg3 ew2, rfl⟩, ⟨⟨_, _, _, cg4 ew2, rfl⟩, ?_⟩⟩
            have tb2 : TbB s1 w2 B (renT T u) (T.sc.reverse.map (renS T.n u)) kp (fun q => q = v'.size ∨ q = w1.size) (some ⟨C, 0, none⟩, T.n) := tbv.step (m1.trans m2).kp fun q hq => by
              rcases hq with hq | hq <;> exact ⟨by omega, .inr (by omega)⟩
            refine copy_sc ew1.1 ew2 (hy0.ext ew2) rfl h30' fun w3 xs cs ew3 k3' hs3 hb3 => ?_
            have tb3 : TbB s1 w3 B (renT T u) (T.sc.reverse.map (renS T.n u)) kp (· = v'.size) (some ⟨C, 0, none⟩, T.n) := tb2.step (k3'.mono fun q hq => .inr hq) fun q hq => ⟨by have hq' : q = v'.size := hq; have := k3'.1; omega, .inl (.inl hq)⟩
            refine ⟨⟨_, _, _, cg3 ew3, rfl⟩, ?_⟩
            refine copy_ints hvs ew3 (hx0.ext ew3) rfl hoff' fun w4 xo co ew4 k4 hr4 => ?_
            have tb4 : TbB s1 w4 B (renT T u) (T.sc.reverse.map (renS T.n u)) kp noD (some ⟨C, 0, none⟩, T.n) := tb3.step k4 fun q hq => hq.elim
            refine ord_J5 hok hlo hu ta ou.cell ew4 (tbx tb4) (fun i hi => ?_) hr4 aw
            obtain ⟨a, ha, d0, d1, d2, d3⟩ := hs3 i hi
            have hd : ∀ j, ¬ (((a.add (i * 4)).add j).block = v'.size) := fun j => by
              rw [add_blk, add_blk]
              rcases hb3 a ha with h5 | h5 <;> omega
            exact ⟨a, ha, k4.cell (hd 0) d0, k4.cell (hd 1) d1, k4.cell (hd 2) d2, k4.cell (hd 3) d3⟩
end
end Go.Proofs.Ytkgcbfbbcaajpaa.G

/- RankOrder, from any arguments. -/
namespace Go.Proofs.Ytkgcbfbbcaajpaa.G
open Go.V
theorem v_RankOrder {W : World} {s : Hp} {v0 v1 : Value} (k0 : RdV Pg s 25 v0) (k1 : RdV Pg s 5 v1) : CALL Pg W F_law10_RankOrder [v0, v1] (fun v s' => v = .bool true ∧ Ext s s') (fun _ _ => False) s := by
  obtain ⟨x, c, y, c', T, rfl, hx, hy⟩ := table_rd k0
  obtain ⟨u, rfl, hu⟩ := u8_rd k1
  exact w_RankOrder hu hx hy fun s' e => ⟨rfl, e⟩
end Go.Proofs.Ytkgcbfbbcaajpaa.G

/- The row of the statement RankOrder. -/
namespace Go.Proofs.Ytkgcbfbbcaajpaa.rankOrder
open Go.ChangeShapes Go.WideShapes Go.ChangeAt Go.RowKit Go.V
set_option linter.unusedVariables false
theorem own : ownKnob Try.prog.godebug = none := by kernel_rfl
theorem laidOut : laidOutB Try.prog = true := by kernel_rfl
set_option maxRecDepth 100000 in
theorem lifted (os : Os) (started : os.Started) (H : Type) (enc : TypeId × Value → H) :
    ReturnsInHanded {} Try.checked os 11 .any (Rows.rankOrderSpec.pre6 enc Try.prog Try.f11 Rows.rankOrderRow.domain false) (Rows.rankOrderSpec.post enc Try.prog Try.f11 false true false false) := by
  refine returnsInHanded_of_change_sized (C := Try.checked) own started (by kernel_rfl) Try.func11
    (ChangeSpec.witness6 (enc := enc) (C := Try.checked) false ⟨#[], #[(.agg #[(.int .i64 0), (.int .i64 0), (.slice none 0 0), (.slice none 0 0)]), (.int .u8 0)], []⟩ 8 (by kernel_rfl) (by kernel_rfl) (by kernel_rfl) (by kernel_rfl)) ?_
  intro W base args ds gs before hval0 hW hcnd hsz0 _
  have hsz : (DataW.weightsEach Try.prog (Try.f11.params.toList ++ Rows.rankOrderSpec.plain.varTypes Try.prog) (ds ++ gs)).all (· ≤ reachBytes) = true := hsz0
  have hval : ∀ (j : Nat) t v, Try.f11.params[j]? = some t → args[j]? = some v → Value.okWide Try.prog W .any base t v := hval0
  have hW' := hW
  obtain ⟨p, q, hA0, hV, rfl, hfz, hnd⟩ := hW
  have hA : DataW.TrodAll enc Try.prog W 0 (fun _ => true) true Try.f11.params.toList args.toList ds p := hA0
  rw [Try.params11] at hA hval hsz
  obtain ⟨v0, vs0, d0, ds0, p0, q0, hargs, rfl, rfl, h0, r0⟩ := trodAll_cons hA
  obtain ⟨v1, vs1, d1, ds1, p1, q1, rfl, rfl, rfl, h1, r1⟩ := trodAll_cons r0
  obtain ⟨rfl, rfl, rfl⟩ := trodAll_nil r1
  obtain rfl : args = #[v0, v1] := by cases args; simp_all
  obtain ⟨rfl, rfl⟩ := trodVars_none hV
  have k0 := trod_rdV (hval 0 25 v0 rfl rfl) h0
  have lt0 : ∀ x ∈ p0, x.block < W.heap.size := by obtain ⟨m, hm⟩ := h0; exact DataW.trod_lt m _ _ _ hm
  have k1 := trod_rdV (hval 1 5 v1 rfl rfl) h1
  have lt1 : ∀ x ∈ p1, x.block < W.heap.size := by obtain ⟨m, hm⟩ := h1; exact DataW.trod_lt m _ _ _ hm
  refine (calls_of_does (does_of_call (G.v_RankOrder (W := W) (s := W.heap) k0 k1))).mono fun e W' ⟨he, bel⟩ => ?_
  subst he
  exact ⟨_, rfl, _, _, _, [], _, [], hW', trodAll_mk1 (shut_bool Try.underlying4 _), (trodAll_cons_mk (Below.trod laidOut (by kernel_rfl) (of_decide_eq_true (by kernel_rfl)) h0 bel lt0) (trodAll_cons_mk (Below.trod laidOut (by kernel_rfl) (of_decide_eq_true (by kernel_rfl)) h1 bel lt1) trodAll_mk0)), rfl, bel.frame _, fun h => by cases h⟩
theorem over : Rows.rankOrderRow.holds Try.pinned (OpenSpec.ofChange Rows.rankOrderSpec) :=
  OpenClaim.holds_of_wide 11 Try.f11 rfl rfl rfl rfl rfl rfl rfl ⟨rfl, rfl, rfl, rfl, rfl⟩ rfl rfl rfl rfl rfl (by kernel_rfl) Try.func11 (by kernel_rfl)
    (of_decide_eq_true (by kernel_rfl)) (by unfold Func.isWrapper; first | (rw [if_pos (by decide +kernel)]; kernel_rfl) | (rw [if_neg (by decide +kernel)]; exact ⟨rfl, rfl⟩))
    (fun os started H enc _ => lifted os started H enc)
theorem proved : Rows.RankOrderSaid := over
end Go.Proofs.Ytkgcbfbbcaajpaa.rankOrder
namespace Go.Proofs.Ytkgcbfbbcaajpaa
/-- The row, under a short name. -/
theorem rankOrder_holds : Rows.RankOrderSaid := rankOrder.proved
end Go.Proofs.Ytkgcbfbbcaajpaa
